/-
  Shared texts of this claim.
-/
import Derived.Test.YtipjidjopglknaaGreatDoorMAQ
set_option linter.defProp false
set_option linter.unusedSimpArgs false
set_option linter.unusedVariables false
noncomputable section
open Go.IntKind (i64)
namespace Rm
open Go Go.Proofs Cx
def Rw (l:List Int)(x:Int):hasB l x=l.contains x:=by
 rw[rU];simp[hasB]
def xC (c:City):Prop:=c.rest.length<=100000/\c.feasts.length<=100000/\c.shut.length<=100000
def anf (n:Int)(h:0<=n/\n<=100400):(0<=(bD n).2.1/\(bD n).2.1<=30)/\-1000<=(bD n).2.2/\(bD n).2.2<=1000:=by
 unfold bD;simp only[];have hR:0<=(n+730425)%146097/\(n+730425)%146097<146097:=by omega
 generalize (n+730425)%146097=R at*;have hD:=aa2 R ((R-R/1460+R/36524-R/146096)/365) hR (by omega) (by omega);generalize (R-R/1460+R/36524-R/146096)/365=Y at*;generalize R-(365*Y+Y/4-Y/100)=D at*;have hM:0<=(5*D+2)/153/\(5*D+2)/153<=20:=by omega
 generalize (5*D+2)/153=M at*;refine⟨?_,by omega,by omega⟩;split<;>omega
def awJ (c:City)(hc:xC c)(n:Int)(h:0<=n/\n<=100400):ah T 205 [gy c,.int n] (.bool (nw c.rest c.feasts c.shut n)):=by
 refine zyw 81 azL ?_;simp[W7];refine⟨_,QM n h,?_⟩;have w5:i64.wrap (n+5)=n+5:=aW (by omega);have m7:(n+5).tmod 7=(n+5)%7:=xW (by omega);obtain⟨h1,h2,h3⟩:=hc;simp[w5,m7];refine⟨_,AG c.rest ((n+5)%7) (by omega),?_⟩;unfold nw;rw[<-Rw];cases hr:hasB c.rest ((n+5)%7)
 .obtain⟨eP,cB⟩:=anf n h;have wm:i64.wrap (100*(bD n).2.1)=100*(bD n).2.1:=aW (by omega);have wd:i64.wrap (100*(bD n).2.1+(bD n).2.2)=100*(bD n).2.1+(bD n).2.2:=aW (by omega);simp[hr,wm,wd];refine⟨_,AG c.feasts _ (by omega),?_⟩;have e1:=Rw c.feasts (100*(bD n).2.1+(bD n).2.2);have e2:=Rw c.shut n;simp at e1 e2;cases hf:hasB c.feasts (100*(bD n).2.1+(bD n).2.2)
  .simp[hf,<-e1,<-e2];exact⟨_,AG c.shut n (by omega),rfl⟩
  .simp[hf,<-e1]
 .simp[hr]
def eE (c:City)(a:Int)(k:Nat):List Int:=((List.range k).map λ(i:Nat)=>a+i).filter (nw c.rest c.feasts c.shut)
def aa9 (c:City)(a:Int)(k:Nat):eE c a (k+1)=eE c a k++if nw c.rest c.feasts c.shut (a+k) then[a+k] else[]:=by
 unfold eE;rw[Jh,mi,D9]
 congr 1
 cases h:nw c.rest c.feasts c.shut (a+k)<;>simp[h]
def anD (c:City)(a:Int){k n:Nat}(h:k<=n):∃r,eE c a n=eE c a k++r:=by
 induction n with
 |zero=>obtain rfl:k=0:=by omega
        exact⟨[],by simp⟩
 |succ n ih=>
  by_cases e:k=n+1
  .subst e;exact⟨[],by simp⟩
  .obtain⟨r,hr⟩:=ih (by omega);exact⟨r++_,by rw[aa9,hr,qq]⟩
def sv (d:Int):D:=.tup [.int d]
def anE (c:City)(a b:Int):abb [.ref (.int a),.ref (.int b),.ref (gy c)]=(eE c a (b-a+1).toNat).map sv:=by
 have hi:∀l:List Int,zq (ints l)=l:=λl=>by
  show(l.map D.int).map D.i=l;rw[Jf];exact List.map_id l
 show(aba (zq (ints c.rest)) (zq (ints c.feasts)) (zq (ints c.shut)) a b).map _=_;rw[hi,hi,hi];rfl
def anB (c:City)(hc:xC c)(a b:Int)(ha:0<=a)(hb:b<=100400)(Cc:a<=100400):ah T 204 [.ref (.int a),.ref (.int b),.ref (gy c)] (.list ((eE c a (b-a+1).toNat).map sv)):=by
 have wO:=anE c a b;rw[<-wO];obtain⟨N,hN⟩:∃N,N=(b-a+1).toNat:=⟨_,rfl⟩
 refine ah.of_it (pc:=(ab tY)) (J:=1000) (k:=1) rfl (λx hx=>?_) (λm hm=>?_)
 .rw[wO] at hx;obtain⟨i,_,rfl⟩:=dW.1 hx;exact⟨_,rfl,rfl⟩
 .rw[wO] at hm ⊢;rw[<-hN] at hm ⊢;refine O1 ?_;rw[azI];simp[W5];refine aN.forLoop (α:=Nat) (λk vr vo=>k<=N/\vr=[.int (a+k)]/\vo=[.list ((eE c a k).map sv)]/\(eE c a k).length<=m) (λk=>N-k) 0 ?_ ?_
  .simp[aoH,eE]
  .rintro k vr vo ⟨hk,rfl,rfl,mu⟩;by_cases ak:k<N
   .have hle:a+(k:Int)<=b:=by omega
    have jj:i64.wrap (a+(k:Int)+1)=a+((k+1:Nat):Int):=by rw[aW (by omega)];omega
    have bQ:=(awJ c hc (a+k) (by omega))
    have CB:=aa9 c a k;obtain⟨r,hr⟩:=anD c a (k:=k+1) (n:=N) ak;simp[aii,NS,hle];refine⟨_,bQ.yld (by decide),?_⟩;cases hi:nw c.rest c.feasts c.shut (a+k)
    .simp[hi] at CB ⊢;exact⟨k+1,by omega,by omega,jj,by rw[CB],by rw[CB];exact mu⟩
    .simp[hi] at CB ⊢;have hlen:(eE c a (k+1)).length=(eE c a k).length+1:=by rw[CB];simp
     have uA:(eE c a k).map sv++[D.tup [D.int (a+k)]]=(eE c a (k+1)).map sv:=by rw[CB,mi];rfl
     have Gv:(eE c a (k+1)).map sv=((eE c a N).map sv).take ((eE c a k).length+1):=by
      rw[hr,mi,List.take_append_of_le_length (by simp[hlen]),Ed (by simp[hlen])]
     have bh:(eE c a k).length<((eE c a N).map sv).length:=by rw[hr];simp[hlen];omega
     rw[uA];refine⟨_,ah.answer Gv bh mu,?_⟩;by_cases y5:(eE c a k).length<m
     .simp[y5];exact⟨k+1,by omega,by omega,jj,rfl,by omega⟩
     .obtain rfl:(eE c a k).length=m:=by omega
      simp;rw[Gv]
   .obtain rfl:k=N:=by omega
    have hle:¬a+(k:Int)<=b:=by omega
    simp[aii,NS,hle];rw[Ed (by simp;omega)]
def anF (c:City)(a b:Int):ah T 167 [gy c,.int a,.int b] (.clo 204 [.ref (.int a),.ref (.int b),.ref (gy c)]):=by
 refine zyw 80 azJ ?_;simp[W0]
def kU (d:Int):Int:=if 100000<d+400 then 100000 else d+400
def dh (c:City)(d:Int):Int×Int:=
 if bz d=false then(0,3) else match eE c d (kU d-d+1).toNat with|[]=>(0,3)|x::_=>(x,0)
def anC {c:City}{a:Int}{k:Nat}{x:Int}(h:x∈eE c a k):a<=x/\x<a+k:=by
 unfold eE at h;obtain⟨h1,_⟩:=eO.mp h;obtain⟨i,hi,rfl⟩:=dW.mp h1;have:=cw.mp hi;omega
def ML {c:City}{d:Int}(h:(dh c d).2=0):bz d=true/\d<=(dh c d).1/\(dh c d).1<=100000:=by
 unfold dh at h ⊢;cases hd:bz d
 .simp[hd] at h
 .simp only[hd] at h ⊢;cases hk:eE c d (kU d-d+1).toNat with
  |nil=>rw[hk] at h;simp at h
  |cons x l=>
   have hm:x∈eE c d (kU d-d+1).toNat:=by rw[hk];simp
   have:=anC hm;have he:kU d<=100000:=by unfold kU;split<;>omega
   simp[bz] at hd;simp;unfold kU at*;omega
def alx (c:City)(hc:xC c)(d:Int):ah T 140 [gy c,.int d] (.tup [.int (dh c d).1,.int (dh c d).2]):=by
 refine zyw 79 azG ?_;simp[WY];refine⟨_,xP d,?_⟩;cases hd:bz d
 .simp[dh,hd]
 have ej:0<=d/\d<=100000:=by simpa [bz] using hd
 have hw:i64.wrap (d+400)=d+400:=aW (by omega);have he:kU d<=100000:=by unfold kU;split<;>omega
 simp[hd,hw];have hE:(if 100000<d+400 then D.int 100000 else D.int (d+400))=D.int (kU d):=by unfold kU;split<;>rfl
 rw[hE];refine⟨_,anF c d (kU d),_,_,rfl,_,anB c hc d (kU d) ej.1 (by omega) (by omega),?_⟩;cases hk:eE c d (kU d-d+1).toNat with
 |nil=>
  have hn:dh c d=(0,3):=by unfold dh;simp[hd,hk]
  rw[hn];refine aN.eachR [] (by simp) (λ_ vo=>vo=[.agg [.int 0],.agg [.int 0]]) ?_ (λk x vo hx hi=>by simp at hx) (λvo hi=>?_)
  .simp
  .subst hi;simp
 |cons x l=>
  have hn:dh c d=(x,0):=by unfold dh;simp[hd,hk]
  rw[hn];refine aN.eachR ((x::l).map sv) (by simp) (λk vo=>k=0/\vo=[.agg [.int 0],.agg [.int 0]]) ?_ (λk y vo hx hi=>?_) (λvo hi=>?_)
  .simp
  .obtain⟨rfl,rfl⟩:=hi;simp at hx;subst hx;simp[axZ,Vk,sv];rfl
  .exact absurd hi.1 (by simp)
def xB (o:Int)(d:Int)(h:Halt):Int:=if(h.order=o/\h.fr<=d)/\d<=h.to then h.to+1 else d
def fX (r:Realm)(o d:Int)(k:Nat):Int:=(r.halts.take k).foldl (xB o) d
def OD (r:Realm)(o d:Int){k:Nat}(hk:k<r.halts.length):fX r o d (k+1)=xB o (fX r o d k) r.halts[k]:=by
 unfold fX;rw[lG hk,Ea];rfl
def kK (r:Realm):Prop:=r.halts.length<=100000/\∀h,h∈r.halts->0<=h.fr/\h.to<=100000
def OC {r:Realm}(hh:kK r)(o d:Int)(hd:d<=100001):∀k,k<=r.halts.length->d<=fX r o d k/\fX r o d k<=100001
 |0,_=>⟨by simp[fX],by simpa [fX] using hd⟩
 |k+1,hk=>by
  obtain⟨h1,h2⟩:=OC hh o d hd k (by omega);rw[OD r o d (by omega)];have:=hh.2 _ (bW (show k<r.halts.length by omega));unfold xB;split<;>omega
def tA (r:Realm)(o:Int):Nat->Int->Int
 |0,d=>d
 |n+1,d=>if fX r o d r.halts.length=d then d else tA r o n (fX r o d r.halts.length)
def eB (r:Realm)(o d:Int):Int:=tA r o (100002-d).toNat d
def WD {r:Realm}(hh:kK r)(o:Int):∀(n:Nat) (d:Int),d<=100001->d<=tA r o n d/\tA r o n d<=100001
 |0,d,hd=>⟨Int.le_refl _,hd⟩
 |n+1,d,hd=>by
  obtain⟨h1,h2⟩:=OC hh o d hd r.halts.length (bj _);unfold tA;split
  .omega
  .have:=WD hh o n _ h2;omega
def ay3 (r:Realm)(hh:kK r)(o d:Int)(h0:0<=d)(hd:d<=100001):ah T 139 [aU r,.int o,.int d] (.int (eB r o d)):=by
 refine zyw 78 aB0 ?_;simp[Ze];refine aN.forLoop (α:=Int×Bool×Nat) (λs vr vo=>vr=[.int s.1,.bool s.2.1]/\vo=[]/\d<=s.1/\s.1<=100001/\(s.2.1=true->(100002-s.1).toNat<=s.2.2)/\(s.2.1=true->tA r o s.2.2 s.1=eB r o d)/\(s.2.1=false->s.1=eB r o d)) (λs=>2*(100001-s.1).toNat+(if s.2.1 then 1 else 0)) (d,true,(100002-d).toNat) ?_ ?_
 .simp;exact⟨by omega,rfl⟩
 .rintro⟨e,ch,n⟩ vr vo ⟨rfl,rfl,h1,h2,h3,h4,h5⟩;simp only at*;cases ch
  .simp[aiz,Oh];exact h5 rfl
  .have h3:=h3 rfl;have h4:=h4 rfl;obtain⟨n,rfl⟩:∃m,n=m+1:=⟨n-1,by omega⟩
   have bG:=OC hh o e h2;simp[aiz,Oh];refine aN.forRounds r.halts.length (λk=>[.int (fX r o e k),.bool (decide (e<fX r o e k)),.int k]) (λ_=>[]) ?_ (λk hk=>?_) ?_
   .simp[fX]
   .have hw:=bu hk (by have:=hh.1;omega);have dj:=bG k (by omega);have sL:=hh.2 _ (bW hk);rw[OD r o e hk];unfold xB;generalize fX r o e k=x at*;by_cases hc:(r.halts[k].order=o/\r.halts[k].fr<=x)/\x<=r.halts[k].to
    .have dk:i64.wrap (r.halts[k].to+1)=r.halts[k].to+1:=aW (by omega);simp[Og,DH,hk,hw,hc,dk];omega
    .simp[Og,DH,hk,hw,hc]
   .have hE:=bG r.halts.length (bj _);unfold tA at h4;generalize fX r o e r.halts.length=x at*;by_cases hx:x=e
    .rw[if_pos hx] at h4;subst hx;simp[Og,DH];exact⟨x,by omega,rfl,h1,h2,h4⟩
    .rw[if_neg hx] at h4;have ak:e<x:=by omega
     simp[Og,DH,ak];exact⟨x,by omega,rfl,by omega,by omega,n,by omega,h4⟩
def qj (r:Realm)(c:City)(o:Int):Nat->Int->Int×Int
 |0,d=>(d,0)
 |n+1,d=>
  if(dh c (eB r o d)).2≠0 then(0,3)
  else if(dh c (eB r o d)).1=eB r o d then(eB r o d,0)
  else qj r c o n (dh c (eB r o d)).1
def Aq (r:Realm)(c:City)(o:Int)(n:Nat)(d:Int):qj r c o (n+1) d=
 if(dh c (eB r o d)).2≠0 then(0,3)
 else if(dh c (eB r o d)).1=eB r o d then(eB r o d,0)
 else qj r c o n (dh c (eB r o d)).1:=rfl
def lq (r:Realm)(city d:Int):Int×Int:=qj r (r.cities.getD city.toNat default) (cV r city) (100002-d).toNat d
def Wx (r:Realm)(hh:kK r)(city d:Int)(hc:0<=city/\city<r.cities.length)(hs:∀c,c∈r.cities->xC c)(h0:0<=d)(hd:d<=100001):ah T 89 [aU r,.int city,.int d] (.tup [.int (lq r city d).1,.int (lq r city d).2]):=by
 refine zyw 77 aBZ ?_;simp[Zd];refine⟨_,rL r city,?_⟩;have bh:city.toNat<r.cities.length:=by omega
 have RG:r.cities.getD city.toNat default=r.cities[city.toNat]:=by simp[bh]
 have SF:=hs _ (bW bh);have hF:lq r city d=qj r r.cities[city.toNat] (cV r city) (100002-d).toNat d:=by unfold lq;rw[RG]
 rw[hF];refine aN.forLoop (α:=Int×Nat) (λs vr vo=>(∃a b,vr=[.int s.1,a,b])/\vo=[]/\0<=s.1/\s.1<=100001/\(100002-s.1).toNat<=s.2/\qj r r.cities[city.toNat] (cV r city) s.2 s.1=qj r r.cities[city.toNat] (cV r city) (100002-d).toNat d) (λs=>s.2) (d,(100002-d).toNat) ?_ ?_
 .simp;omega
 .rintro⟨e,n⟩ vr vo ⟨⟨a,b,rfl⟩,rfl,h1,h2,h3,h4⟩;simp only at*;obtain⟨n,rfl⟩:∃m,n=m+1:=⟨n-1,by omega⟩
  rw[<-h4];have hsk:=WD hh (cV r city) (100002-e).toNat e h2;have hsr:=ay3 r hh (cV r city) e h1 h2;rw[Aq];change e<=eB r (cV r city) e/\eB r (cV r city) e<=100001 at hsk;generalize eB r (cV r city) e=x at*;have Cu:=alx r.cities[city.toNat] SF x;have oe:=ML (c:=r.cities[city.toNat]) (d:=x);generalize dh r.cities[city.toNat] x=N at*;obtain⟨y,er⟩:=N;simp only at Cu oe;simp[ax5,Wd];refine⟨_,hsr,?_⟩;simp[bh,hc];refine⟨_,Cu,?_⟩;by_cases he:er=0
  .obtain⟨g1,g2,g3⟩:=oe he;by_cases hy:y=x
   .simp[he,hy]
   .simp[he,hy];exact⟨y,n,by omega,rfl,by omega,by omega,by omega,rfl⟩
  .simp[he]
structure RightD (r:Realm):Prop where
 small:Small r
 halts:kK r
def RightD.cities {r:Realm}(h:RightD r)(c:City)(hc:c∈r.cities):xC c:=by
 obtain⟨h1,h2,h3,_⟩:=h.small.city c hc;exact⟨by omega,by omega,by omega⟩
def Eh (d:Int)(t:Tenor):∃n e:Int,ah T 138 [.int d,lK t] (.tup [.int n,.int e]):=by
 by_cases h0:t.n<0
 .refine⟨0,3,.of_tree rfl vR xL ?_⟩;simp[tC,h0]
 by_cases h1:20000<t.n
 .refine⟨0,3,.of_tree rfl vR xL ?_⟩;simp[tC,h0,h1]
 by_cases h2:t.unit=1
 .obtain⟨n,e,h,_⟩:=ak7 d t.n;refine⟨n,e,.of_tree rfl vR xL ?_⟩;simp[tC,h0,h1,h2];refine⟨_,h,?_⟩;simp
 .refine⟨i64.wrap (d+t.n),0,.of_tree rfl vR xL ?_⟩;simp[tC,h0,h1,h2]
def amG (r:Realm)(hr:RightD r)(b:Bill)(seen:Int):∃n e:Int,ah T 88 [aU r,eh b,.int seen] (.tup [.int n,.int e]):=by
 have Mm:D.agg [D.int b.tenor.kind,D.int b.tenor.n,D.int b.tenor.unit]=lK b.tenor:=rfl;by_cases h0:b.tenor.kind=0
 .refine⟨seen,0,.of_tree rfl yh Av ?_⟩;simp[oP,h0]
 by_cases h1:b.tenor.kind=1
 .obtain⟨n,e,h⟩:=Eh seen b.tenor;refine⟨n,e,.of_tree rfl yh Av ?_⟩;have cA:(b.tenor.kind=1)=True:=eq_true h1;simp[oP,h0,cA];refine⟨_,h,?_⟩;simp
 by_cases h2:b.tenor.kind=2
 .obtain⟨n,e,h⟩:=Eh b.day b.tenor;refine⟨n,e,.of_tree rfl yh Av ?_⟩;have gi:(b.tenor.kind=2)=True:=eq_true h2;simp[oP,h0,h1,gi];refine⟨_,h,?_⟩;simp
 by_cases h4:b.tenor.kind=4
 .obtain⟨n,e,h,_⟩:=alB r b.city b.pay (by have:=hr.small.us;omega);refine⟨i64.wrap (b.day+n),e,.of_tree rfl yh Av ?_⟩;have pv:(b.tenor.kind=4)=True:=eq_true h4;simp[oP,h0,h1,h2,pv];refine⟨_,h,?_⟩;simp
 .refine⟨b.tenor.n,0,.of_tree rfl yh Av ?_⟩;simp[oP,h0,h1,h2,h4]
def ah.ex_of_tree {tab:Nat->Option PC}{ext:Nat->Option (aQ->List D->Option D)}{f:Nat}{pc:PC}{t:PT}{ds:List D}{P:D->Prop}(hx:ext f=none)(ht:tab f=some pc)(he:tree pc=t)
 (h:aJ (fP tab ext) t (lL ds) (λx=>∃d,x=.ret d/\P d)):∃d,ah (fP tab ext) f ds d/\P d:=by
 subst he;obtain⟨x,⟨d,rfl,hd⟩,n0,hn⟩:=ajv (Nj ⟨λ_ _ _ h=>(by obtain⟨_,h,_⟩:=h;cases h),λ_ _ _ _ _ _ h=>(by obtain⟨_,h,_⟩:=h;cases h),λ_ h=>h⟩ h);exact⟨d,.of_pc hx ht ⟨.ret d,rfl,n0,hn⟩,hd⟩
def Jk (d:D):Prop:=∃n e:Int,d=.tup [.int n,.int e]
@[simp] def aER (n e:Int):Jk (.tup [.int n,.int e])=True:=eq_true ⟨n,e,rfl⟩
def AH (r:Realm)(hr:RightD r)(b:Bill)(seen bE:Int):∃d,ah T 44 [aU r,eh b,.int seen,.int bE] d/\Jk d:=by
 have Mm:D.agg [D.int b.tenor.kind,D.int b.tenor.n,D.int b.tenor.unit]=lK b.tenor:=rfl;have gR:=Wi r hr.small;refine ah.ex_of_tree rfl PQ YZ ?_;simp[IX];refine⟨_,gR,?_⟩;by_cases h0:fC r=0
 case neg=>simp[h0]
 simp[h0];refine⟨_,CI r b.city,?_⟩;cases h1:aG b.city r.cities.length
 .simp[h1]
 simp[h1];refine⟨_,CI r b.pay,?_⟩;cases h2:aG b.pay r.cities.length
 .simp[h2]
 simp[h2];refine⟨_,wV b.day,?_⟩;cases h3:bz b.day
 .simp[h3]
 simp[h3];intro _ _ _ _;have hp:0<=b.pay/\b.pay<r.cities.length:=by simpa [aG] using h2
 have fin:0<=bE->bE<=20000->∃d,ah T 88 [aU r,eh b,D.int seen] d/\
  if(d.tget 1).i=0 then ∃d1,ah T 86 [d.tget 0] d1/\(d1.b=true->i64.wrap ((d.tget 0).i+bE)<=100000->
        ∃d2,ah T 89 [aU r,D.int b.pay,D.int (i64.wrap ((d.tget 0).i+bE))] d2/\Jk (D.tup [d2.tget 0,d2.tget 1]))
  else Jk (D.tup [D.int 0,d.tget 1]):=by
  intro uq nZ;obtain⟨n,e,h⟩:=amG r hr b seen;refine⟨_,h,?_⟩;by_cases he:e=0
  .simp[he];refine⟨_,wV n,?_⟩;cases hd:bz n
   .simp[hd]
   have ej:0<=n/\n<=100000:=by simpa [bz] using hd
   have hw:i64.wrap (n+bE)=n+bE:=aW (by omega);simp[hd,hw];intro hle;refine⟨_,Wx r hr.halts b.pay (n+bE) hp hr.cities (by omega) (by omega),?_⟩;simp
  .simp[he]
 by_cases hs:seen=-1
 .simp[hs] at fin ⊢;intro uq nZ;refine⟨_,Ef b.tenor,?_⟩;simp;intro _;exact fin uq nZ
 .simp[hs] at fin ⊢;refine⟨_,wV seen,?_⟩;cases hk:bz seen
  .simp[hk]
  simp[hk];intro uq nZ;exact⟨⟨_,Ef b.tenor⟩,fin uq nZ⟩
def qK (r:Realm)(b:Bill)(seen bE:Int):Int×Int:=
 open Classical in if h:RightD r then((AH r h b seen bE).choose_spec.2.choose,(AH r h b seen bE).choose_spec.2.choose_spec.choose) else(0,0)
def Pb (r:Realm)(hr:RightD r)(b:Bill)(seen bE:Int):ah T 44 [aU r,eh b,.int seen,.int bE] (.tup [.int (qK r b seen bE).1,.int (qK r b seen bE).2]):=by
 have h:=(AH r hr b seen bE).choose_spec.2.choose_spec.choose_spec;have h1:=(AH r hr b seen bE).choose_spec.1;rw[h] at h1;have e:qK r b seen bE=((AH r hr b seen bE).choose_spec.2.choose,(AH r hr b seen bE).choose_spec.2.choose_spec.choose):=by unfold qK;rw[dif_pos hr]
 rw[e];exact h1
def rn (r:Realm)(forum:Int)(f:File)(day:Int):Int:=
 if(dc f day).signs=[] then-1
 else if(qK r f.bill (oM (dc f day)) (max (kc (il r forum 6 (dc f day) day)) 0)).2≠0 then-1
 else(qK r f.bill (oM (dc f day)) (max (kc (il r forum 6 (dc f day) day)) 0)).1
@[simp] def aIi (x:File)(a0 a1 a2 a3 a4 a5 a6 a7 a8 a9 m0 oX a12 oY oZ rZ sc sd tR:D):(eU [a0,a1,a2,a3,a4,a5,a6,a7,a8,a9,m0,oX,a12,oY,oZ,rZ,sc,sd,tR] 0 [.int x.bill.drawer,.int x.bill.drawee,.int x.bill.payee,.int x.bill.sum,.int x.bill.currency,.int x.bill.tenor.kind,.int x.bill.tenor.n,.int x.bill.tenor.unit,.int x.bill.day,.int x.bill.city,.int x.bill.pay,.int x.bill.need,.int x.bill.rate,.int x.bill.flags,.int x.bill.parts,signs x.signs,alters x.alters,acts x.acts,facts x.facts])[15]?.getD D.none=signs x.signs:=zyz
def aah (r:Realm)(hr:Right r)(hd:RightD r)(forum:Int)(f:File)(day:Int)(hf:FewS f):ah T 22 [aU r,.int forum,dK f,.int day] (.int (rn r forum f day)):=by
 refine zyw 44 azx ?_;simp[WQ];refine⟨_,aiF f day (by have:=hf.signs;omega) (by have:=hf.acts;omega) (by have:=hf.alters;omega) (by have:=hf.facts;omega),?_⟩;have hg:=hf.at_ day;have hb:(dc f day).bill=f.bill:=rfl;unfold rn;generalize dc f day=g at*;simp;by_cases h0:g.signs=[]
 .simp[h0]
 simp[h0];refine⟨_,aay r hr forum 6 g day hg,_,PM _,_,ayj g (by have:=hg.signs;omega) (by have:=hg.acts;omega),?_⟩;have hm:(if(D.int (kc (il r forum 6 g day))).i<0 then D.int 0 else D.int (kc (il r forum 6 g day)))=D.int (max (kc (il r forum 6 g day)) 0):=by
  simp only[abe];split
  .rw[ZZ (by omega)]
  .rw[Pc (by omega)]
 rw[hm,hb];refine⟨_,Pb r hd f.bill _ _,?_⟩;by_cases he:(qK r f.bill (oM g) (max (kc (il r forum 6 g day)) 0)).2=0<;>simp[he]
def anN {r:Realm}{b:Bill}(hr:RightD r)(hc:fC r=0)(hci:aG b.city r.cities.length=true)(eX:aG b.pay r.cities.length=true)(hd:bz b.day=true)(hk:b.tenor.kind=3)(hu:b.tenor.unit=0)
 (hn:bz b.tenor.n=true) {g:Int} (hg:0<=g/\g<=20000) (hs:b.tenor.n+g<=100000):qK r b (-1) g=lq r b.pay (b.tenor.n+g):=by
 have gR:=Wi r hr.small;rw[hc] at gR;have gE:0<=b.tenor.n/\b.tenor.n<=100000:=by simpa [bz] using hn
 have rj:=Wx r hr.halts b.pay (b.tenor.n+g) (by simpa [aG] using eX) hr.cities (by omega) (by omega);have hb:ah T 88 [aU r,eh b,.int (-1)] (.tup [.int b.tenor.n,.int 0]):=by
  refine .of_tree rfl yh Av ?_;simp[oP,hk]
 have h:ah T 44 [aU r,eh b,.int (-1),.int g] (.tup [.int (lq r b.pay (b.tenor.n+g)).1,.int (lq r b.pay (b.tenor.n+g)).2]):=by
  have pz:=CI r b.city;have acL:=CI r b.pay;have yT:=wV b.day;have hi3:=wV b.tenor.n;have hi4:=Ef b.tenor;rw[hci] at pz;rw[eX] at acL;rw[hd] at yT;rw[hn] at hi3;rw[show rR b.tenor=false from by simp[rR,hk]] at hi4;have hw:i64.wrap (b.tenor.n+g)=b.tenor.n+g:=aW (by omega);have nZ:¬g<0:=by omega
  have iQ:¬20000<g:=by omega
  have gl:¬100000<b.tenor.n+g:=by omega
  refine .of_tree rfl PQ YZ ?_;simp[IX];refine⟨_,gR,?_⟩;simp;refine⟨_,pz,?_⟩;simp;refine⟨_,acL,?_⟩;simp;refine⟨_,yT,?_⟩;simp[hk,hu,nZ,iQ];refine⟨_,hi4,?_⟩;simp;refine⟨_,hb,?_⟩;simp;refine⟨_,hi3,?_⟩;simp[hw,gl];refine⟨_,rj,?_⟩;simp
 have h2:=h.det (Pb r hr b (-1) g);simp at h2;exact Prod.ext h2.1.symm h2.2.symm
def TB:∀(L:Nat) (cs:List Cell) (t:Tm) (k:Int),ba L t=(k,0)->∀y,y∈cm L cs t->(0<=y/\y<=19)/\(iJ cs y).known=false
 |0,cs,t,k,_,y,hy=>by simp[cm] at hy
 |L+1,cs,t,k,hc,y,hy=>by
  obtain⟨ha,_⟩:=yr hc;obtain⟨hn,_⟩:=vS hc;have dS:∀a,a∈t.args->∀y,y∈cm L cs a->(0<=y/\y<=19)/\(iJ cs y).known=false:=λa hm y hy=>TB L cs a (ba L a).1 (by rw[<-ha a hm]) y hy;rw[zE] at hy;split at hy
  .cases hy
  rename_i cI;split at hy
  .rename_i h2;split at hy
   .cases hy
   .rename_i hk;have hy:y=t.n:=by simpa using hy
    subst hy;refine⟨?_,by simpa using hk⟩;cases hn with
    |var h0 ha hn=>exact hn
    |_=>omega
  split at hy
  .generalize (2-(aT (t.args.map (aH L cs)) 0).n).toNat=i at hy;rw[aK,cL] at hy;cases hi:t.args[i]? with
   |none=>rw[hi] at hy;simp at hy
   |some a=>
    rw[hi] at hy;exact dS a (ko hi) y (by simpa using hy)
  split at hy
  .cases hy
  .obtain⟨l,hl,hy⟩:=List.mem_flatten.1 hy;obtain⟨a,hm,rfl⟩:=dW.1 hl;exact dS a hm y hy
def tj (t:Tm)(cs:List Cell):List Int:=if(jc t).2=0 then gh (kE (cm 8 cs t)) else[]
def azi (t:Tm)(cs:List Cell)(ht:t.OK):ah T Tz [cQ t,cells cs] (ints (tj t cs)):=by
 refine ah.of_ext (g:=Al) rfl ?_;obtain⟨n0,h0⟩:=WG t ht;refine⟨n0,λn hn=>ax6 ⟨cQ t,cells cs,rfl,_,_,h0 n hn,?_⟩⟩;unfold tj;by_cases h:(jc t).2=0
 .rw[if_pos h];obtain⟨h1,h2⟩:=E0 h;have hl:=MK 8 cs t h1;refine .inr ⟨h,_,_,WJ 8 cs t _ ht h1 h2,⟨by omega,λy hy=>?_⟩,rfl⟩;have:=(TB 8 cs t _ h2 y hy).1;omega
 .rw[if_neg h];exact .inl ⟨h,rfl⟩
def zL (o:Order)(q:Int)(cs:List Cell):List Int:=if(findF o q).2=0 then tj (findF o q).1 cs else[]
def ag1 (o:Order)(q:Int)(cs:List Cell)(ho:o.OK)(hl:o.rules.length<=4294967296):ah T 42 [gz o,.int q,cells cs] (ints (zL o q cs)):=by
 refine zyw 41 az0 ?_;simp[Xj];refine⟨_,ag2 o q ho hl,?_⟩;unfold zL;have hF:=abE ho q;generalize findF o q=F at*;obtain⟨t,e⟩:=F;by_cases h:e=0
 .subst h;simp;have h1:=azi t cs hF;obtain⟨op,n,args⟩:=t;exact h1
 .simp[h]
  try rfl
def xc (r:Realm)(forum q:Int)(c:Case):List Int:=
 if(cO r forum q c).1.order=-1 then[] else zL (fT r (cO r forum q c).1.order) q (cO r forum q c).2
def al6 (r:Realm)(hr:Right r)(forum q:Int)(c:Case)(hf:FewS c.file):ah T 20 [aU r,.int forum,.int q,dJ c] (ints (xc r forum q c)):=by
 refine .of_tree rfl aaD ajq ?_;simp[ON];refine⟨_,PN r hr forum q c hf,?_⟩;have ho:=PK hr forum q c;unfold xc;generalize cO r forum q c=S at*;obtain⟨s,cs⟩:=S;simp only at*;by_cases h:s.order=-1
 .obtain⟨⟨kn,n⟩,o,pth,e⟩:=s;simp only at h;subst h;simp
  try rfl
 .have h1:0<=s.order/\s.order<r.orders.length:=by omega
  have h2:s.order.toNat<r.orders.length:=by omega
  have h3:fT r s.order=r.orders[s.order.toNat]:=by simp[fT,h2]
  obtain⟨av,hlen⟩:=hr.ok _ (bW h2);simp[h,h1,h2,h3];exact ag1 _ q cs av (by omega)
def ayb (t:Tm)(cs:List Cell):(tj t cs).length<=60:=by
 unfold tj;split
 .rename_i h;obtain⟨h1,h2⟩:=E0 h;have hl:=MK 8 cs t h1;have h3:=abd (kE (cm 8 cs t)) (kE (cm 8 cs t)).length;have h4:(gh (kE (cm 8 cs t))).length<=(kE (cm 8 cs t)).length:=h3;rw[GG] at h4;omega
 .simp
def avT (r:Realm)(forum q:Int)(c:Case):(xc r forum q c).length<=60:=by
 unfold xc;split
 .simp
 .unfold zL;split
  .exact ayb _ _
  .simp
def I4 (b:Bool):(fb b).known=true:=by cases b<;>rfl
def ani {op:Int}{x y:Cell}(h3:op≠3)(h6:op≠6)(hx:x.known=true)(hy:y.known=true):(dE op [x,y]).known=true:=by
 have c0:aT [x,y] 0=x:=rfl;have c1:aT [x,y] 1=y:=rfl;unfold dE;rw[if_neg h3,c0,c1];split
 .exact I4 _
 first|rw[if_neg h6,if_neg (by simp[hx,hy])]|rw[if_neg (by simp[hx,hy])]
 split
 .exact I4 _
 split
 .exact I4 _
 split
 .exact I4 _
 .rfl
def avU {K:Cell}{na nb:List Int}{x y:Cell}(ia:na=[]↔x.known=true)(ib:nb=[]↔y.known=true)(h:x.known=true->y.known=true->K.known=true):
 (if K.known=true then[] else[na,nb].flatten)=[]↔K.known=true:=by
 by_cases hK:K.known=true
 .simp[hK]
 .rw[if_neg hK];simp only[Jb,List.flatten_nil,km,List.append_eq_nil_iff];exact⟨λ⟨h1,h2⟩=>h (ia.1 h1) (ib.1 h2),λh1=>absurd h1 hK⟩
def aeR:∀(L:Nat) (cs:List Cell) (t:Tm) (k:Int),bm L t<=60->ba L t=(k,0)->(cm L cs t=[]↔(aH L cs t).known=true)
 |0,cs,t,k,hm,hc=>by simp[bm] at hm
 |L+1,cs,t,k,hm,hc=>by
  obtain⟨hl,hp⟩:=zB hm;obtain⟨ha,_⟩:=yr hc;obtain⟨hn,_⟩:=vS hc;have ih:∀a,a∈t.args->(cm L cs a=[]↔(aH L cs a).known=true):=λa bP=>aeR L cs a (ba L a).1 (hp a bP) (by rw[<-ha a bP]);have lV:∀a,a∈t.args->oW (ba L a).1 (aH L cs a):=λa bP=>Fo cs (show ba L a=((ba L a).1,0) by rw[<-ha a bP]);rw[zE,uh]
  have two:∀ks:List Int,(t.args.map λa=>(ba L a).1)=ks->ks.length=2->t.op≠0->t.op≠1->t.op≠2->t.op≠3->t.op≠6->
    ((if t.op=0\/t.op=1 then[] else if t.op=2 then(if(iJ cs t.n).known=true then[] else[t.n]) else
   if t.op=6/\(aT (t.args.map (aH L cs)) 0).known=true then(t.args.map (cm L cs)).getD (2-(aT (t.args.map (aH L cs)) 0).n).toNat [] else
   if(dE t.op (t.args.map (aH L cs))).known=true then[] else(t.args.map (cm L cs)).flatten)=[]↔
    (if t.op=0\/t.op=1 then⟨true,t.n⟩ else if t.op=2 then iJ cs t.n else
   if t.op=6/\(aT (t.args.map (aH L cs)) 0).known=true then aT (t.args.map (aH L cs)) (2-(aT (t.args.map (aH L cs)) 0).n).toNat else dE t.op (t.args.map (aH L cs))).known=true):=by
   intro ks hk hlen h0 h1 h2 h3 h6
   match ks,hlen with
   |[p,q],_=>
    obtain⟨a,b,ei,_,_⟩:=uL hk;have ia:=ih a (by rw[ei];simp);have ib:=ih b (by rw[ei];simp);have cI:¬(t.op=0\/t.op=1):=by omega
    have FE:¬(t.op=6/\(aT (t.args.map (aH L cs)) 0).known=true):=λh=>h6 h.1;simp only[if_neg cI,if_neg h2,if_neg FE];rw[ei];exact avU ia ib λhx hy=>ani h3 h6 hx hy
  cases hn with
  |int h0 _ _=>rw[if_pos (.inl h0),if_pos (.inl h0)];simp
  |bool h0 _ _=>rw[if_pos (.inr h0),if_pos (.inr h0)];simp
  |var h0 _ _=>
   have cI:¬(t.op=0\/t.op=1):=by omega
   simp only[if_neg cI,if_pos h0];cases e:(iJ cs t.n).known<;>simp
  |not h0 hk=>
   obtain⟨a,ei,_⟩:=Tt hk;have ia:=ih a (by rw[ei];simp);have cI:¬(t.op=0\/t.op=1):=by omega
   have h2:¬t.op=2:=by omega
   have FE:¬(t.op=6/\(aT (t.args.map (aH L cs)) 0).known=true):=λh=>by omega
   simp only[if_neg cI,if_neg h2,if_neg FE];rw[ei];simp only[fO,tO,Jb,List.flatten_nil,km];have c0:aT [aH L cs a] 0=aH L cs a:=rfl;have hK:(dE t.op [aH L cs a]).known=(aH L cs a).known:=by
    unfold dE;rw[if_pos h0,c0];split
    .rename_i h;rw[I4,h]
    .rename_i h;have h:(aH L cs a).known=false:=by simpa using h
     rw[h];rfl
   rw[hK];by_cases h:(aH L cs a).known=true
   .simp[h]
   .rw[if_neg h];exact ia
  |log h0 hk=>exact two _ hk rfl (by omega) (by omega) (by omega) (by omega) (by omega)
  |less h0 hk=>exact two _ hk rfl (by omega) (by omega) (by omega) (by omega) (by omega)
  |equal k h0 hk=>exact two _ hk rfl (by omega) (by omega) (by omega) (by omega) (by omega)
  |num h0 hk=>exact two _ hk rfl (by omega) (by omega) (by omega) (by omega) (by omega)
  |ite k h0 hk=>
   obtain⟨a,b,c,ei,k1,k2,k3⟩:=zx hk;have ia:=ih a (by rw[ei];simp);have ib:=ih b (by rw[ei];simp);have ic:=ih c (by rw[ei];simp);have ra:=lV a (by rw[ei];simp);rw[k1] at ra;have cI:¬(t.op=0\/t.op=1):=by omega
   have h2:¬t.op=2:=by omega
   simp only[if_neg cI,if_neg h2];rw[ei];have c0:aT ([a,b,c].map (aH L cs)) 0=aH L cs a:=rfl;rw[c0];by_cases F5:(aH L cs a).known=true
   .rw[if_pos ⟨h0,F5⟩,if_pos ⟨h0,F5⟩];rcases(ra.2 F5).1 rfl with e|e
    .rw[e];exact ic
    .rw[e];exact ib
   .have FE:¬(t.op=6/\(aH L cs a).known=true):=λh=>F5 h.2;simp only[if_neg FE];by_cases hK:(dE t.op ([a,b,c].map (aH L cs))).known=true
    .rw[if_pos hK];exact⟨λ_=>hK,λ_=>rfl⟩
    .rw[if_neg hK];refine⟨λh=>?_,λh=>absurd h hK⟩;have h:cm L cs a=[]/\cm L cs b=[]/\cm L cs c=[]:=by simpa using h
     have:=h.1;exact absurd (ia.1 this) F5
def abH {n:Nat}{f:Nat->Int}(h:ml n f=0)(k:Nat)(hk:k<n):f k=0:=Ra.1 h k hk
def aaZ {r:Realm}(h:fC r=0)(k:Nat)(hk:k<r.orders.length):pU r.orders[k]=true:=by
 unfold fC at h;rw[Ov] at h;have h1:=h (fg (fL r) 20 (oD r)) (by simp);unfold fg at h1;split at h1
 .cases h1
 have h2:=abH h1 k (by simpa [fL] using hk);have h3:=(B1 h2).2;unfold oD at h3;simpa [hk] using h3
def aqg {r:Realm}(hs:Small r)(h:fC r=0):xV r:=by
 intro o ho;obtain⟨k,hk,rfl⟩:=lE ho;have h1:=aaZ h k hk;obtain⟨hc,_⟩:=hs.order _ ho;refine⟨by omega,λch lO=>?_⟩;unfold pU at h1;simp only[au] at h1;obtain⟨j,hj,rfl⟩:=lE lO;have h2:=ye.1 h1.1 j hj;simpa [aG,hj] using h2
def aqh {r:Realm}(hs:Small r)(h:fC r=0):kK r:=by
 refine⟨by have:=hs.halts;omega,λx hx=>?_⟩;obtain⟨k,hk,rfl⟩:=lE hx;unfold fC at h;rw[Ov] at h;have h1:=h (qf r) (by simp);unfold qf at h1;split at h1
 .cases h1
 split at h1
 .cases h1
 split at h1
 .cases h1
 split at h1
 .rename_i aS;have h2:=ye.1 aS k hk;simp[wh,wi,aG,hk] at h2;omega
 .cases h1
structure Good (r:Realm) (f:File):Prop where
 right:Right r
 rightD:RightD r
 few:FewS f
def aqi {r:Realm}{f:File}(hr:r.OK)(h:yE r f=true):Good r f:=by
 unfold yE ui at h;simp only[au,decide_eq_true_eq] at h;obtain⟨⟨⟨h1,h2⟩,h3⟩,h4⟩:=h;have hs:=Q8 hr h1;refine⟨⟨aqg hs h4,by have:=hs.orders;omega,λo ho=>?_⟩,⟨hs,aqh hs h4⟩,?_⟩
 .have:=hs.order o ho;refine⟨?_,by omega⟩;exact hr.2.2.2.2.1.2 o ho
 .simp[Fs] at h2;exact⟨by omega,by omega,by omega,by omega⟩
def am0 {α:Type}(f:α->Cell)(l:List α)(i:Nat)(hi:i<l.length):aT (l.map f) i=f l[i]:=by
 simp[aT,hi]
def axt (f:File)(kind sign:Int)(hl:f.facts.length<=4294967295):ah T 106 [dK f,.int kind,.int sign] (cg (jE f kind sign)):=by
 refine zyw 112 aAC ?_;simp[XS];refine .scan f.facts.length (λk=>yC kind sign (f.facts.getD k default)=false) (λk=>[.int k]) (λ_=>[cg db]) ?_ (λk hk hj ho=>?_) (λk hk hj ho=>?_) (λhj=>?_)
 .simp
 .have hw:=bu hk (by omega);simp[hk,yC] at ho;by_cases h1:f.facts[k].kind=kind<;>by_cases h2:f.facts[k].at_=sign
  .exact absurd h2 (ho h1)
  all_goals simp[N2,DD,hk,hw,h1,h2]
 .have hf:jE f kind sign=fb (decide (f.facts[k].n≠0)):=by
   unfold jE;rw[sy hk (by simpa [hk] using ho) (λj bf=>by have:=hj j bf;simpa [show j<f.facts.length by omega] using this)]
  simp[hk,yC] at ho;by_cases hn:f.facts[k].n=0
  .simp[N2,DD,hk,ho,hf,hn];rfl
  .simp[N2,DD,hk,ho,hf,hn];rfl
 .have hf:jE f kind sign=db:=by
   unfold jE;rw[uj (λj bf=>by have:=hj j bf;simpa [bf] using this)]
  simp[N2,DD,hf]
@[simp] def aIM (a0 a1 a2 a3 a4 a5 a6 a7 a8 a9 m0 oX a12 oY oZ rZ sc sd tR x:D):eU [a0,a1,a2,a3,a4,a5,a6,a7,a8,a9,m0,oX,a12,oY,oZ,rZ,sc,sd,tR] 18 [x]=[a0,a1,a2,a3,a4,a5,a6,a7,a8,a9,m0,oX,a12,oY,oZ,rZ,sc,sd,x]:=zyz
@[simp] def aIc:D.none.cells=[D.none]:=zyz
end Rm
namespace Rm
open Go Cx
end Rm
namespace Rm
open Go Go.Proofs Cx
def ajf (a b:Int):Prop:=a=2\/a=b
@[simp] def aIb:D.none.b=false:=zyz
def ay6 (f:File)(i part:Int):Bool:=decide (i=0)||decide ((kI f i).part=part)
def alI (a:Act)(to at_ own:Bool):Bool:=
 if a.kind=0\/a.kind=1\/a.kind=2 then(to&&decide (a.at_=-1))&&decide (a.sum=0)
 else if a.kind=3\/a.kind=4\/a.kind=5 then((to&&decide (a.at_=-1))&&wi a.sum 0 1099511627776)&&wi a.form 0 1
 else if a.kind=6 then(to&&own)&&wi a.sum 1 1099511627776
 else if a.kind=9 then(decide (a.to=-1)&&own)&&decide (a.sum=0)
 else(decide (a.to=-1)&&at_)&&decide (a.sum=0)
def atB (f:File)(a:Act):Bool:=aG a.at_ f.signs.length&&ay6 f a.at_ a.part
def awP (f:File)(a:Act):Bool:=atB f a&&decide ((kI f a.at_).who=a.who)
def alH (r:Realm)(f:File)(a:Act):Bool:=
 if aG a.who r.firms.length=false\/(¬a.kind=4/\¬a.form=0) then false else alI a (aG a.to r.firms.length) (atB f a) (awP f a)
def atU (f:File)(i:Nat)(a:Act):Int:=
 let x:=if a.at_=-1 then f.bill.day else max f.bill.day (kI f a.at_).day
 if i=0 then x else max x (f.acts.getD (i-1) default).day
def aat (x y:Fact):Prop:=x.at_<y.at_\/(x.at_=y.at_/\x.kind<y.kind)
instance (x y:Fact):Decidable (aat x y):=by unfold aat;infer_instance
structure I6 (r:Realm) (f:File) (i:Nat) (a:Act):Prop where
 part:0<=a.part/\a.part<=f.bill.parts-1
 city:0<=a.city/\a.city<r.cities.length
 kind:0<=a.kind/\a.kind<=9
 fits:alH r f a=true
 day:atU f i a<=a.day/\a.day<=100000
def Zr {α:Type}(key:α->Int){x y:Int}(ou:x<=y):∀(l:List α),(l.takeWhile (λa=>decide (key a<=y))).takeWhile (λa=>decide (key a<=x))=l.takeWhile (λa=>decide (key a<=x))
 |[]=>rfl
 |a::l=>by
  by_cases h:key a<=x
  .have h2:key a<=y:=by omega
   simp only[Ji,h,h2,decide_true,if_true];rw[Zr key ou l]
  .by_cases h2:key a<=y
   .simp[Ji,h,h2]
   .simp[Ji,h,h2]
def ajx {α:Type}(key:α->Int){x y:Int}(ou:x<=y):∀(l:List α),(l.takeWhile (λa=>decide (key a<=x))).length<=(l.takeWhile (λa=>decide (key a<=y))).length
 |[]=>by simp
 |a::l=>by
  by_cases h:key a<=x
  .have h2:key a<=y:=by omega
   have:=ajx key ou l;simp[Ji,h,h2];omega
  .simp[Ji,h]
def al9 (f:File){x y:Int}(ou:x<=y):dc (dc f y) x=dc f x:=by
 have h1:tE x (tE y f.signs)=tE x f.signs:=Zr (λa:Sign=>a.day) ou f.signs;have h2:DZ x (DZ y f.acts)=DZ x f.acts:=Zr (λa:Act=>a.day) ou f.acts;have hl:(tE x f.signs).length<=(tE y f.signs).length:=ajx (λa:Sign=>a.day) ou f.signs;unfold dc;simp only[h1,h2,List.filter_filter]
 congr 1
 .apply Z8;intro a _;simp[jC];omega
 .apply Z8;intro a _;simp[jX,aG];omega
def vt (fr to:Int)(u:Usance):Bool:=decide (u.fr=fr)&&decide (u.to=to)
def mW (l:List Usance)(fr to:Int):Int×Int:=match l.find? (vt fr to) with|some u=>(u.days,0)|none=>(0,4)
def alA (r:Realm)(fr to:Int)(hl:r.usances.length<=100000):ah T 99 [aU r,.int fr,.int to] (.tup [.int (mW r.usances fr to).1,.int (mW r.usances fr to).2]):=by
 refine .of_tree rfl aaF ajs ?_;simp[OZ];unfold mW;refine aN.scan r.usances.length (λk=>vt fr to (r.usances.getD k default)=false) (λk=>[.int 0,.int 0,.int k]) (λ_=>[]) ?_ (λk hk hj av=>?_) (λk hk hj av=>?_) (λhj=>?_)
 .simp
 .have hw:=bu hk (by omega);have hn:¬(r.usances[k].fr=fr/\r.usances[k].to=to):=by simpa [vt,hk] using av
  simp[DE,xu,hk,hw,hn]
 .have fQ:=sy hk (by simpa [hk] using av) (λj bf=>by have:=hj j bf;simpa [show j<r.usances.length by omega] using this);have hc:r.usances[k].fr=fr/\r.usances[k].to=to:=by simpa [vt,hk] using av
  rw[fQ];simp[DE,xu,hk,hc]
 .have fQ:=uj (l:=r.usances) (p:=vt fr to) (λj bf=>by have:=hj j bf;simpa [bf] using this);rw[fQ];simp[DE,xu]
def vO (d:Int)(t:Tenor):Int×Int:=((Eh d t).choose,(Eh d t).choose_spec.choose)
def ahO (r:Realm)(fr to:Int)(hl:r.usances.length<=100000):ah T 94 [aU r,.int fr,.int to] (.tup [.int (mW r.usances fr to).1,.int (mW r.usances fr to).2]):=by
 refine zyw 150 aAo ?_;simp[XF];unfold mW;refine aN.scan r.usances.length (λk=>vt fr to (r.usances.getD k default)=false) (λk=>[.int 0,.int 0,.int k]) (λ_=>[]) ?_ (λk hk hj av=>?_) (λk hk hj av=>?_) (λhj=>?_)
 .simp
 .have hw:=bu hk (by omega);have hn:¬(r.usances[k].fr=fr/\r.usances[k].to=to):=by simpa [vt,hk] using av
  simp[Vv,HN,hk,hw,hn]
 .have fQ:=sy hk (by simpa [hk] using av) (λj bf=>by have:=hj j bf;simpa [show j<r.usances.length by omega] using this);have hc:r.usances[k].fr=fr/\r.usances[k].to=to:=by simpa [vt,hk] using av
  rw[fQ];simp[Vv,HN,hk,hc]
 .have fQ:=uj (l:=r.usances) (p:=vt fr to) (λj bf=>by have:=hj j bf;simpa [bf] using this);rw[fQ];simp[Vv,HN]
def Px (d:Int)(t:Tenor):ah T 138 [.int d,lK t] (.tup [.int (vO d t).1,.int (vO d t).2]):=(Eh d t).choose_spec.choose_spec
def kS (l:List Usance)(b:Bill)(seen:Int):Int×Int:=
 if b.tenor.kind=0 then(seen,0) else if b.tenor.kind=1 then vO seen b.tenor else if b.tenor.kind=2 then vO b.day b.tenor
 else if b.tenor.kind=4 then(i64.wrap (b.day+(mW l b.city b.pay).1),(mW l b.city b.pay).2) else(b.tenor.n,0)
def amF (r:Realm)(hr:RightD r)(b:Bill)(seen:Int):ah T 88 [aU r,eh b,.int seen] (.tup [.int (kS r.usances b seen).1,.int (kS r.usances b seen).2]):=by
 have Mm:D.agg [D.int b.tenor.kind,D.int b.tenor.n,D.int b.tenor.unit]=lK b.tenor:=rfl;refine .of_tree rfl yh Av ?_;unfold kS;by_cases h0:b.tenor.kind=0
 .simp[oP,h0]
 by_cases h1:b.tenor.kind=1
 .have h:=Px seen b.tenor;have cA:(b.tenor.kind=1)=True:=eq_true h1;simp[oP,h0,cA];exact⟨_,h,by simp⟩
 by_cases h2:b.tenor.kind=2
 .have h:=Px b.day b.tenor;have gi:(b.tenor.kind=2)=True:=eq_true h2;simp[oP,h0,h1,gi];exact⟨_,h,by simp⟩
 by_cases h4:b.tenor.kind=4
 .have h:=alA r b.city b.pay (by have:=hr.small.us;omega);have pv:(b.tenor.kind=4)=True:=eq_true h4;simp[oP,h0,h1,h2,pv];exact⟨_,h,by simp⟩
 .simp[oP,h0,h1,h2,h4]
def CL (r:Realm)(pay bE:Int)(x:Int×Int):Int×Int:=
 if x.2≠0 then(0,x.2) else if bz x.1=false\/100000<i64.wrap (x.1+bE) then(0,3) else lq r pay (i64.wrap (x.1+bE))
def tZ (r:Realm)(b:Bill)(seen bE:Int):Int×Int:=
 if fC r≠0\/aG b.city r.cities.length=false\/aG b.pay r.cities.length=false\/bz b.day=false then(0,1)
 else if((b.tenor.kind<0\/5<=b.tenor.kind)\/b.tenor.unit<0)\/2<=b.tenor.unit then(0,1)
 else if((¬seen=-1/\bz seen=false)\/bE<0)\/20000<bE then(0,1)
 else if rR b.tenor=true/\seen=-1 then(0,4)
 else CL r b.pay bE (kS r.usances b seen)
def alg (r:Realm)(hr:RightD r)(b:Bill)(seen bE:Int):ah T 44 [aU r,eh b,.int seen,.int bE] (.tup [.int (tZ r b seen bE).1,.int (tZ r b seen bE).2]):=by
 have Mm:D.agg [D.int b.tenor.kind,D.int b.tenor.n,D.int b.tenor.unit]=lK b.tenor:=rfl;have gR:=Wi r hr.small;obtain⟨G,hG⟩:∃G,G=tZ r b seen bE:=⟨_,rfl⟩
 rw[<-hG];unfold tZ at hG;refine .of_tree rfl PQ YZ ?_;simp[IX];refine⟨_,gR,?_⟩;by_cases h0:fC r=0
 case neg=>simp[h0] at hG ⊢;simp[hG]
 simp[h0] at hG ⊢;refine⟨_,CI r b.city,?_⟩;cases h1:aG b.city r.cities.length
 .simp[h1] at hG ⊢;simp[hG]
 simp[h1] at hG ⊢;refine⟨_,CI r b.pay,?_⟩;cases h2:aG b.pay r.cities.length
 .simp[h2] at hG ⊢;simp[hG]
 simp[h2] at hG ⊢;refine⟨_,wV b.day,?_⟩;cases h3:bz b.day
 .simp[h3] at hG ⊢;simp[hG]
 simp[h3] at hG ⊢;have hp:0<=b.pay/\b.pay<r.cities.length:=by simpa [aG] using h2
 by_cases h4:((b.tenor.kind<0\/5<=b.tenor.kind)\/b.tenor.unit<0)\/2<=b.tenor.unit
 .rw[if_pos h4] at hG ⊢;simp[hG]
 rw[if_neg h4] at hG ⊢;have fin:G=CL r b.pay bE (kS r.usances b seen)->0<=bE->bE<=20000->∃d,ah T 88 [aU r,eh b,D.int seen] d/\
  if(d.tget 1).i=0 then ∃d1,ah T 86 [d.tget 0] d1/\(if d1.b=false\/100000<i64.wrap ((d.tget 0).i+bE) then 0=G.1/\3=G.2 else
        ∃d2,ah T 89 [aU r,D.int b.pay,D.int (i64.wrap ((d.tget 0).i+bE))] d2/\d2.tget 0=D.int G.1/\d2.tget 1=D.int G.2)
  else 0=G.1/\d.tget 1=D.int G.2:=by
  intro hG uq nZ;refine⟨_,amF r hr b seen,?_⟩;unfold CL at hG;generalize kS r.usances b seen=B at*;obtain⟨n,e⟩:=B;by_cases he:e=0
  .simp[he] at hG ⊢;refine⟨_,wV n,?_⟩;cases hd:bz n
   .simp[hd] at hG ⊢;simp[hG]
   have ej:0<=n/\n<=100000:=by simpa [bz] using hd
   have hw:i64.wrap (n+bE)=n+bE:=aW (by omega);simp[hd,hw] at hG ⊢;by_cases hle:100000<n+bE
   .rw[if_pos hle] at hG ⊢;simp[hG]
   .rw[if_neg hle] at hG ⊢;refine⟨_,Wx r hr.halts b.pay (n+bE) hp hr.cities (by omega) (by omega),?_⟩;simp[hG]
  .simp[he] at hG ⊢;simp[hG]
 by_cases hs:seen=-1
 .simp[hs] at fin hG ⊢;by_cases h5:bE<0\/20000<bE
  .rw[if_pos h5] at hG ⊢;simp[hG]
  rw[if_neg h5] at hG ⊢;refine⟨_,Ef b.tenor,?_⟩;cases h6:rR b.tenor
  .simp[h6] at hG ⊢;exact fin hG (by omega) (by omega)
  .simp[h6] at hG ⊢;simp[hG]
 .simp[hs] at fin hG ⊢;refine⟨_,wV seen,?_⟩;cases hk:bz seen
  .simp[hk] at hG ⊢;simp[hG]
  simp[hk] at hG ⊢;by_cases h5:bE<0\/20000<bE
  .rw[if_pos h5] at hG ⊢;simp[hG]
  rw[if_neg h5] at hG ⊢;exact⟨⟨_,Ef b.tenor⟩,fin hG (by omega) (by omega)⟩
def anM {r:Realm}(hr:RightD r)(b:Bill)(seen bE:Int):qK r b seen bE=tZ r b seen bE:=by
 have h:=(Pb r hr b seen bE).det (alg r hr b seen bE);simp at h;exact Prod.ext h.1 h.2
instance (a b:Int):Decidable (ajf a b):=by unfold ajf;infer_instance
def ama (f:File)(x:Int):dc {f with facts:=[]} x={dc f x with facts:=[]}:=rfl
def ahZ (f:File)(day:Int)(h1:f.signs.length<=4294967295)(h2:f.acts.length<=4294967295)(h3:f.alters.length<=4294967295)(h4:f.facts.length<=4294967295):ah T 46 [dK f,.int day] (dK (dc f day)):=by
 refine zyw 106 aAB ?_;simp[XR];obtain⟨m,hm,hS,LA,wg⟩:=Ax (λs:Sign=>decide (s.day<=day)) f.signs;obtain⟨n,hn,hA,Rl,Rm⟩:=Ax (λs:Act=>decide (s.day<=day)) f.acts;refine aN.forRounds m (λk=>[.int k]) (λk=>[]) ?_ (λk hk=>?_) ?_
 .simp
 .have br:k<f.signs.length:=by omega
  have hw:=bu br (by omega);have hd:=LA k br hk;simp at hd;have ej:¬day<f.signs[k].day:=by omega
  simp[VE,HW,br,hw,ej]
 have od:(f.signs.take m).length=m:=by simp;omega
 have Sf:(f.acts.take n).length=n:=by simp;omega
 have Rn:dc f day=⟨f.bill,f.signs.take m,f.alters.filter (jC m),f.acts.take n,f.facts.filter (jX m)⟩:=by
  unfold dc tE DZ;rw[hS,hA,od]
 rw[Rn];by_cases bP:m<f.signs.length
 case' pos=>
  have hd:=wg bP;simp at hd;simp[VE,HW,bP,hd];generalize D.bool true=bb
 case' neg=>
  simp[VE,HW,bP];generalize D.bool false=bb
 all_goals
  refine aN.forRounds n (λk=>[.int k]) (λk=>[]) ?_ (λk hk=>?_) ?_
  .simp
  .have br:k<f.acts.length:=by omega
   have hw:=bu br (by omega);have hd:=Rl k br hk;simp at hd;have ej:¬day<f.acts[k].day:=by omega
   simp[VF,HX,br,hw,ej]
  by_cases gE:n<f.acts.length
  case' pos=>
   have hd:=Rm gE;simp at hd;simp[VF,HX,gE,hd];generalize D.bool true=bc
  case' neg=>
   simp[VF,HX,gE];generalize D.bool false=bc
  all_goals
   refine⟨by omega,by omega,by omega,by omega,?_⟩;refine aN.forRounds f.alters.length (λk=>[.int k]) (λk=>[m5 f.bill (signs (f.signs.take m)) (mD ((f.alters.take k).filter (jC m))) (acts (f.acts.take n)) (.list []),alters ((f.alters.take k).filter (jC m))]) ?_ (λk hk=>?_) ?_
   .simp[alters,signs,acts,m5]
    try rfl
   .have hw:=bu hk (by omega);have ht:=xE (jC m) f.alters hk;rw[ht];have hlen:((f.alters.take k).filter (jC m)).length<=k:=ij (qt _ _) (by simp;omega);generalize (f.alters.take k).filter (jC m)=B at*;by_cases hd:f.alters[k].at_<=(m:Int)
    .simp[VG,HY,jC,hk,hw,hd];exact⟨by omega,by simp[alters,m5,adb]<;>rfl⟩
    .simp[VG,HY,jC,hk,hw,hd]
   simp[VG,HY];generalize f.alters.filter (jC m)=B at*;refine aN.forRounds f.facts.length (λk=>[.int k]) (λk=>[m5 f.bill (signs (f.signs.take m)) (mD B) (acts (f.acts.take n)) (mD ((f.facts.take k).filter (jX m))),facts ((f.facts.take k).filter (jX m))]) ?_ (λk hk=>?_) ?_
   .simp[facts]
   .have hw:=bu hk (by omega);have ht:=xE (jX m) f.facts hk;rw[ht];have hlen:((f.facts.take k).filter (jX m)).length<=k:=ij (qt _ _) (by simp;omega);generalize (f.facts.take k).filter (jX m)=C at*;by_cases bA:0<=f.facts[k].at_
    .by_cases dX:f.facts[k].at_<(m:Int)
     .simp[N1,DC,jX,aG,hk,hw,bA,dX];exact⟨by omega,by simp[facts,m5,adb]<;>rfl⟩
     .simp[N1,DC,jX,aG,hk,hw,bA,dX]
    .simp[N1,DC,jX,aG,hk,hw,bA]
   simp[N1,DC]
   try rfl
def avS (x i:Nat):x&&& 2^i=if x.testBit i then 2^i else 0:=by
 apply Nat.eq_of_testBit_eq;intro j;rw[Nat.testBit_and,Nat.testBit_two_pow];by_cases h:i=j
 .subst h;cases x.testBit i<;>simp
 .cases x.testBit i<;>simp[h]
def PF (n:Int)(i:Nat)(hi:i<3):ed .and .i64 n ((2^i:Nat):Int)=0\/ed .and .i64 n ((2^i:Nat):Int)=((2^i:Nat):Int):=by
 have hp:i=0\/i=1\/i=2:=by omega
 have h2:(BitVec.ofInt 64 ((2^i:Nat):Int)).toNat=2^i:=by
  rcases hp with rfl|rfl|rfl<;>rfl
 have h1:(BitVec.ofInt 64 n&&& BitVec.ofInt 64 ((2^i:Nat):Int)).toNat=if(BitVec.ofInt 64 n).toNat.testBit i then 2^i else 0:=by
  rw[BitVec.toNat_and,h2,avS]
 have h3:ed .and .i64 n ((2^i:Nat):Int)=i64.wrap (((BitVec.ofInt 64 n&&& BitVec.ofInt 64 ((2^i:Nat):Int)).toNat:Nat):Int):=rfl;rw[h3,h1];cases(BitVec.ofInt 64 n).toNat.testBit i with
 |false=>left;rfl
 |true=>
  right;rcases hp with rfl|rfl|rfl<;>rfl
def aoY (n k:Int)(hk:k=1\/k=2\/k=4):decide (ed .and .i64 n k=k)=v7 n k:=by
 unfold v7;have h:ed .and .i64 n k=0\/ed .and .i64 n k=k:=by
  rcases hk with rfl|rfl|rfl
  .exact PF n 0 (by omega)
  .exact PF n 1 (by omega)
  .exact PF n 2 (by omega)
 have gD:k≠0:=by omega
 rcases h with h|h<;>rw[h]<;>simp[gD];omega
def u9 (n:Int):ah T 121 [.int n] (cg ⟨true,n⟩):=by
 refine zyw 108 aAI ?_;simp[XW]
 try rfl
def xp (b:Bool):ah T 122 [.bool b] (cg (fb b)):=by
 refine zyw 109 aAJ ?_;cases b
 .simp[OU];refine⟨_,u9 0,?_⟩;simp;rfl
 .simp[OU];refine⟨_,u9 1,?_⟩;simp;rfl
def NF (n k:Int)(hk:k=1\/k=2\/k=4):ah T 123 [.int n,.int k] (.bool (v7 n k)):=by
 rw[<-aoY n k hk];refine zyw 110 aAH ?_;simp[XV]
def NC (r:Realm)(c:Int)(hl:r.cities.length<=100000):ah T 41 [aU r,.int c] (.int (cV r c)):=by
 have hw:i64.wrap ((r.cities.length:Int)-1)=(r.cities.length:Int)-1:=aW (by omega);refine zyw 111 aAk ?_;simp[XB,cV,hw];refine⟨_,cJ c 0 _,?_⟩;have he:wi c 0 ((r.cities.length:Int)-1)=aG c r.cities.length:=by
  rw[rU];simp[wi,aG];omega
 rw[he];cases h:aG c r.cities.length
 .simp[h]
 .simp[aG] at h;have h1:c.toNat<r.cities.length:=by omega
  simp[h,h1]
def akq (b:Nat->PC):PT:=
 (.call ⟨[],[(7,(.setn o7 (pi 18) 0 (.r 210)))]⟩ [] 215 106 [(aq 19 o5),(pi 4),bV] (.chk (ao o7 (pi 19)) (.ret (.setn o7 (pi 19) 0 (.r 215)))))
variable(b:Nat->PC)
def akB:PT:=
 (.call ⟨[],[(7,(.setn o7 (pi 17) 0 (.r 205)))]⟩ [] 210 106 [(aq 19 o5),(pi 3),bV] (.chk (ao o7 (pi 18)) (akq b)))
def akJ:PT:=
 (.call ⟨[],[(7,(.setn o7 (pi 16) 0 (.r 199)))]⟩ [] 205 106 [(aq 19 o5),(pi 2),(pc o3 19)] (.chk (ao o7 (pi 17)) (akB b)))
def akK:PT:=
 (.call ⟨[],[(7,(.setn o7 (pi 15) 0 (.r 193)))]⟩ [] 199 106 [(aq 19 o5),(pi 1),(pc o3 19)] (.chk (ao o7 (pi 16)) (akJ b)))
def akL:PT:=
 (.call ⟨[(11,(.mx (pc o3 20) (pi 0)))],[(7,(.setn o7 (pi 13) 0 (.r 184)))]⟩ [] 193 106 [(aq 19 o5),(pi 0),(pc o3 19)] (.chk (ao o7 (pi 15)) (akK b)))
def akM:PT:=
 (.call ⟨[],[]⟩ [] 184 122 [(.r 183)] (.chk (ao o7 (pi 13)) (akL b)))
def akN:PT:=
 (.call ⟨[],[(7,(.setn o7 (pi 12) 0 (.r 178)))]⟩ [] 183 123 [(pc o6 8),(pi 1)] (akM b))
def akO:PT:=
 (.call ⟨[],[]⟩ [] 178 122 [r9] (.chk (ao o7 (pi 12)) (akN b)))
def akP:PT:=
 (.call ⟨[],[]⟩ [] 155 122 [(aR (.r 148) (.r 153))] (.chk (ao o7 (pi 11)) (.brk ⟨[(10,(pi 0)),(9,pF)],[(7,(.setn o7 (pi 11) 0 (.r 155)))]⟩ (aep b) (akO b))))
def akr:PT:=
 (.call ⟨[],[]⟩ [] 153 41 [(aq 8 o2),(pc o5 10)] (akP b))
def aks:PT:=
 (.call ⟨[],[(7,(.setn o7 (pi 8) 0 (.r 141)))]⟩ [] 148 41 [(aq 8 o2),(pc o5 9)] (akr b))
def akt:PT:=
 (.call ⟨[],[(7,(.setn o7 (pi 9) 0 (.r 134)))]⟩ [] 141 122 [(peq (pc o5 2) (pi (-1)))] (.chk (ao o7 (pi 8)) (aks b)))
def aku:PT:=
 (.call ⟨[],[]⟩ [] 134 122 [(.r 133)] (.chk (ao o7 (pi 9)) (akt b)))
def akv:PT:=
 (.call ⟨[],[(7,(.setn o7 (pi 10) 0 ahY))]⟩ [] 133 123 [(pc o5 13),(pi 4)] (aku b))
def akw:PT:=
 (.call ⟨[],[]⟩ [] 127 122 [ahX] (.chk (ao o7 (pi 10)) (akv b)))
def akx:PT:=
 (.call ⟨[],[(7,(.setn o7 (pi 7) 0 ahW))]⟩ [] 126 123 [(pc o5 13),(pi 2)] (akw b))
def aky:PT:=
 (.call ⟨[],[]⟩ [] 120 122 [ahU] (.chk (ao o7 (pi 7)) (akx b)))
def akz:PT:=
 (.call ⟨[],[(7,(.setn o7 (pi 14) 0 ahT))]⟩ [] 119 123 [(pc o5 13),(pi 1)] (aky b))
def akA:PT:=
 (.call ⟨[],[(7,(.setn o7 (pi 6) 0 Hp))]⟩ [] 113 122 [(bq r8 (pi 0))] (.chk (ao o7 (pi 14)) (akz b)))
def akC:PT:=
 (.call ⟨[(8,(.pick (aR (pc o3 22) (pi (-1))) (bp (pc o6 6) (pc o3 22)) (pi 0)))],[(7,(.setn o7 (pi 5) 0 NO))]⟩ [] 108 121 [(.pick (aR (pc o3 22) (pi (-1))) (bp (pc o6 6) (pc o3 22)) (pi 0))] (.chk (ao o7 (pi 6)) (akA b)))
def akD:PT:=
 (.call ⟨[],[(7,(.setn o7 (pi 4) 0 Dx))]⟩ [] 96 121 [(pc o3 21)] (.chk (ao o7 (pi 5)) (akC b)))
def akE:PT:=
 (.call ⟨[],[(7,(.setn o7 (pi 3) 0 HA))]⟩ [] 91 121 [(pc o6 0)] (.chk (ao o7 (pi 4)) (akD b)))
def akF:PT:=
 (.call ⟨[],[(7,(.setn o7 (pi 2) 0 th))]⟩ [] 86 121 [(pc o5 12)] (.chk (ao o7 (pi 3)) (akE b)))
def akG:PT:=
 (.call ⟨[],[(7,(.setn o7 (pi 1) 0 xt))]⟩ [] 80 121 [(pc o5 5)] (.chk (ao o7 (pi 2)) (akF b)))
def akH:PT:=
 (.call ⟨[],[(7,(.setn o7 (pi 0) 0 qe))]⟩ [] 73 121 [(pc o5 14)] (.chk (ao o7 (pi 1)) (akG b)))
def akI:PT:=
 (.call ⟨[],[(7,(.rep (pi 20) (.con (.agg [(.bool false),(.int 0)])))),(6,(.setc z9 0 (pn (pc (.setc (.con (.agg [(.int 0),(.int 0),(.int 0),(.int 0),(.int 0),(.int 0),(.int 0),(.int 0),(.int 0),(.int 0),(.int 0),(.int 0),(.int 0),(.int 0),(.int 0),(.list []),(.list []),(.list []),(.list [])])) 0 (aq 19 (.mk [r1]))) 15) (pc (.mk [r1]) 19)))),(5,(.setc (.con (.agg [(.int 0),(.int 0),(.int 0),(.int 0),(.int 0),(.int 0),(.int 0),(.int 0),(.int 0),(.int 0),(.int 0),(.int 0),(.int 0),(.int 0),(.int 0),(.list []),(.list []),(.list []),(.list [])])) 0 (aq 19 (.mk [r1])))),(3,(.mk [r1])),(2,(.mk [r0]))]⟩ [] 67 121 [(pc (.setc (.con (.agg [(.int 0),(.int 0),(.int 0),(.int 0),(.int 0),(.int 0),(.int 0),(.int 0),(.int 0),(.int 0),(.int 0),(.int 0),(.int 0),(.int 0),(.int 0),(.list []),(.list []),(.list []),(.list [])])) 0 (aq 19 (.mk [r1]))) 3)] (.chk (ao o7 (pi 0)) (akH b)))
def akp:PT:=
 (.ite (.pick (.pick (.pick (.pick (.pick (aj (pc (.mk [r1]) 19) (pi 0)) pT (bY (pc (.mk [r1]) 19) (.llen (pc (.setc (.con (.agg [(.int 0),(.int 0),(.int 0),(.int 0),(.int 0),(.int 0),(.int 0),(.int 0),(.int 0),(.int 0),(.int 0),(.int 0),(.int 0),(.int 0),(.int 0),(.list []),(.list []),(.list []),(.list [])])) 0 (aq 19 (.mk [r1]))) 15)))) pT (aj (pc (.mk [r1]) 20) (pi (-1)))) pT (bY (pc (.mk [r1]) 20) (.llen (pc (.setc (.con (.agg [(.int 0),(.int 0),(.int 0),(.int 0),(.int 0),(.int 0),(.int 0),(.int 0),(.int 0),(.int 0),(.int 0),(.int 0),(.int 0),(.int 0),(.int 0),(.list []),(.list []),(.list []),(.list [])])) 0 (aq 19 (.mk [r1]))) 15)))) pT (aj (pc (.mk [r1]) 22) (pi (-1)))) pT (bq (pc (.mk [r1]) 22) (pi 100000))) (.ret pL) (.chk (ao (pc (.setc (.con (.agg [(.int 0),(.int 0),(.int 0),(.int 0),(.int 0),(.int 0),(.int 0),(.int 0),(.int 0),(.int 0),(.int 0),(.int 0),(.int 0),(.int 0),(.int 0),(.list []),(.list []),(.list []),(.list [])])) 0 (aq 19 (.mk [r1]))) 15) (pc (.mk [r1]) 19)) (.ite (.pick (aj (pc (.setc z9 0 (pn (pc (.setc (.con (.agg [(.int 0),(.int 0),(.int 0),(.int 0),(.int 0),(.int 0),(.int 0),(.int 0),(.int 0),(.int 0),(.int 0),(.int 0),(.int 0),(.int 0),(.int 0),(.list []),(.list []),(.list []),(.list [])])) 0 (aq 19 (.mk [r1]))) 15) (pc (.mk [r1]) 19))) 6) (pi 0)) pT (bq (pc (.setc z9 0 (pn (pc (.setc (.con (.agg [(.int 0),(.int 0),(.int 0),(.int 0),(.int 0),(.int 0),(.int 0),(.int 0),(.int 0),(.int 0),(.int 0),(.int 0),(.int 0),(.int 0),(.int 0),(.list []),(.list []),(.list []),(.list [])])) 0 (aq 19 (.mk [r1]))) 15) (pc (.mk [r1]) 19))) 6) (pi 100000))) (.ret pL) (.chk (.an (bY (pi 20) (pi 0)) (bB (pi 20) (pi 4294967296))) (.chk (peq (pi 20) (pi 20)) (akI b))))))
def aAF (b:Nat->PC):XU b=akp b:=rfl
def axw (r:Realm)(hr:r.cities.length<=100000)(c:Case)(h2:c.file.facts.length<=100000)(h3:c.file.alters.length<=100000):ah T 80 [aU r,dJ c] (cells (dD r c)):=by
 refine zyw 107 aAG ?_;rw[aAF];simp[akp];by_cases hb:((((c.sign<0\/(c.file.signs.length:Int)<=c.sign)\/c.holder< -1)\/(c.file.signs.length:Int)<=c.holder)\/c.due< -1)\/100000<c.due
 .rw[if_pos hb];have hc:nR c=false:=by
   cases e:nR c with
   |false=>rfl
   |true=>
    exfalso;unfold nR mC aG at e;simp only[au,fZ,decide_eq_true_eq] at e;split at e<;>omega
  have hv:dD r c=[]:=by unfold dD;rw[hc];simp
  rw[hv];rfl
 rw[if_neg hb];have hc:nR c=true:=by
  unfold nR mC aG;simp only[au,fZ,decide_eq_true_eq];split<;>omega
 have hlen:c.sign.toNat<c.file.signs.length:=by omega
 obtain⟨s,dz⟩:∃s:Sign,s=c.file.signs[c.sign.toNat]:=⟨_,rfl⟩
 have j5:c.file.signs.getD c.sign.toNat default=s:=by rw[dz];simp[hlen]
 have hv:dD r c=if aG s.day 100001=true then B6 r c s else[]:=by
  unfold dD;rw[j5,hc];simp
 rw[hv];simp[hlen,<-dz];refine⟨by omega,?_⟩;by_cases hd:s.day<0\/100000<s.day
 .rw[if_pos hd,if_neg (by simp[aG];omega)];rfl
 rw[if_neg hd,if_pos (by simp[aG];omega)];have Co:(if c.due=-1 then D.int 0 else D.int (i64.wrap (s.day-c.due)))=D.int (wZ s c.due):=by
  unfold wZ;by_cases h:c.due=-1
  .simp[h]
  .rw[if_neg h,if_neg h,aW (by omega)]
 simp[akI];refine⟨_,u9 _,?_⟩;simp[akH,hlen,<-dz];refine⟨_,u9 _,?_⟩;simp[akG,hlen,<-dz];refine⟨_,u9 _,?_⟩;simp[akF,hlen,<-dz];refine⟨_,u9 _,?_⟩;simp[akE,hlen,<-dz];refine⟨_,u9 _,?_⟩;simp[akD,hlen,<-dz];refine⟨_,u9 _,?_⟩;simp[akC,hlen,<-dz,Co];refine⟨_,u9 _,?_⟩;simp[akA,hlen,<-dz,Co];refine⟨_,xp _,?_⟩;simp[akz,hlen,<-dz];refine⟨_,NF _ _ (by omega),?_⟩;simp[aky,hlen,<-dz];refine⟨_,xp _,?_⟩;simp[akx,hlen,<-dz];refine⟨_,NF _ _ (by omega),?_⟩;simp[akw,hlen,<-dz];refine⟨_,xp _,?_⟩;simp[akv,hlen,<-dz];refine⟨_,NF _ _ (by omega),?_⟩;simp[aku,hlen,<-dz];refine⟨_,xp _,?_⟩;simp[akt,hlen,<-dz];refine⟨_,xp _,?_⟩;simp[aks,hlen,<-dz];refine⟨_,NC r _ hr,?_⟩;simp[akr,hlen,<-dz];refine⟨_,NC r _ hr,?_⟩;simp[akP,hlen,<-dz];refine⟨_,xp _,?_⟩;refine aN.forRounds c.file.alters.length (λk=>[.bool ((List.range k).any λj=>decide ((c.file.alters.getD j default).at_<=c.sign)),.int k]) (λ_=>[]) ?_ (λk hk=>?_) ?_
 .simp
 .have hw:=bu hk (by omega)
  have e:(List.range (k+1)).any (λj=>decide ((c.file.alters.getD j default).at_<=c.sign))=((List.range k).any (λj=>decide ((c.file.alters.getD j default).at_<=c.sign))||decide (c.file.alters[k].at_<=c.sign)):=by
   rw[Jh,List.any_append];simp[hk]
  rw[e];generalize (List.range k).any (λj=>decide ((c.file.alters.getD j default).at_<=c.sign))=b;cases b<;>simp[aio,N3,hk,hw]
 have halt:(List.range c.file.alters.length).any (λj=>decide ((c.file.alters.getD j default).at_<=c.sign))=PD c.file c.sign:=rfl;rw[halt];have hF:=λk at_=>axt c.file k at_ (by omega);have yS:(if c.holder<0 then D.int 0 else D.int c.holder)=D.int (mC c):=by unfold mC;split<;>rfl
 simp[aio,N3];simp[akO,hlen,<-dz];refine⟨_,xp _,?_⟩;simp[akN,hlen,<-dz];refine⟨_,NF _ _ (by omega),?_⟩;simp[akM,hlen,<-dz];refine⟨_,xp _,?_⟩;simp[akL,hlen,<-dz,yS];refine⟨_,hF 0 _,?_⟩;simp[akK,hlen,<-dz,yS];refine⟨_,hF 1 _,?_⟩;simp[akJ,hlen,<-dz,yS];refine⟨_,hF 2 _,?_⟩;simp[akB,hlen,<-dz,yS];refine⟨_,hF 3 _,?_⟩;simp[akq,hlen,<-dz,yS];refine⟨_,hF 4 _,?_⟩;simp[cells,B6,tn,tp]
def Vc (r:Realm)(hr:r.cities.length<=100000)(c:Case)(hf:FewS c.file):ah T 38 [aU r,dJ c] (cells (dD r (bH c))):=by
 have g:=hf.at_ c.day;refine zyw 105 aBf ?_;simp[Yk];refine⟨_,ahZ c.file c.day (by have:=hf.signs;omega) (by have:=hf.acts;omega) (by have:=hf.alters;omega) (by have:=hf.facts;omega),?_⟩;have hv:=axw r hr (bH c) (by have:=g.facts;show(dc c.file c.day).facts.length<=_;omega) (by have:=g.alters;show(dc c.file c.day).alters.length<=_;omega);simp;exact hv
def ah9 (s:Said):ah T 16 [iO s] (.int (kc s)):=by
 refine zyw 139 aBj ?_;unfold kc;by_cases h:s.err=0
 .cases h2:s.cell.known<;>simp[OY,h,h2]
 .simp[OY,h]
def NG (l:List Int)(hl:l.length<=4000000):ah T 17 [ints l,ints l] (.bool true):=by
 refine zyw 42 aAP ?_;simp[X1];refine aN.forRounds l.length (λk=>[.bool false,.int k]) (λ_=>[]) ?_ (λk hk=>?_) ?_
 .simp
 .have hw:=bu hk (by omega);simp[aip,N4,hk,hw]
 .simp[aip,N4]
def Hr (s:Said)(hl:s.path.length<=4000000):ah T 12 [iO s,iO s] (.bool true):=by
 refine zyw 37 aBm ?_;simp[Yp];refine aN.forRounds s.path.length (λk=>[.bool false,.int k]) (λ_=>[]) ?_ (λk hk=>?_) ?_
 .simp
 .have hw:=bu hk (by omega);simp[air,N6,hk,hw]
 .simp[air,N6]
def dA (r:Realm)(forum:Int)(c:Case):List Int:=if dD r (bH c)=[] then[] else fU r forum (bH c)
def aaz (r:Realm)(forum:Int)(c:Case)(hf:FewS c.file):ah T 18 [aU r,.int forum,dJ c] (ints (dA r forum c)):=by
 refine zyw 43 azz ?_;simp[WS];refine⟨_,aaA r c hf,?_⟩;unfold dA;by_cases hv:dD r (bH c)=[]
 .simp[hv];rfl
 simp[hv];exact ahf r forum (bH c) (O3 hv)
def ZM:Tm:=.mk 2 15 []
def ak4:Tm:=.mk 4 0 [ZM,.mk 2 17 []]
def I3:Order:=⟨⟨#[103,101,110,101,118,97]⟩,false,[],[⟨2,ZM⟩,⟨6,.mk 0 0 []⟩]⟩
def vx:Order:=⟨⟨#[108,111,110,100,111,110]⟩,false,[⟨2,1,false⟩],[⟨2,ak4⟩,⟨6,.mk 0 3 []⟩]⟩
def dq:Realm:=⟨[⟨#[102,114,97,110,99]⟩],[⟨⟨#[76,121,111,110]⟩,0,0,[],[],[]⟩,⟨⟨#[76,111,110,100,111,110]⟩,1,0,[],[],[]⟩],[⟨0⟩],[⟨⟨#[97]⟩,0,0⟩,⟨⟨#[98]⟩,1,0⟩],[I3,vx],[],[],[]⟩
def O4 (c:Int):Bill:=⟨0,1,0,5,0,⟨3,10,0⟩,2,c,1,-1,0,1,1⟩
def jy (c:Int):File:=⟨O4 c,[⟨0,0,0,-1,-1,0,2,c,0⟩],[],[],[⟨0,0,1⟩]⟩
def ly (c:Int):Case:=⟨jy c,0,-1,-1,-1,5⟩
set_option maxRecDepth 10000 in
def aCL:ah T 28 [] (aU dq):=by
 refine zyw 2 azW ?_;simp[Xg];kernel_rfl
set_option maxRecDepth 10000 in
def vw (c:Int):ah T 30 [.int c] (dK (jy c)):=by
 refine zyw 3 azV ?_;simp[Xf];rfl
set_option maxRecDepth 10000 in
def D3 (f:File):ah T 29 [dK f] (dJ ⟨f,0,-1,-1,-1,5⟩):=by
 refine zyw 4 azT ?_;simp[Xd];rfl
def aCX:Small dq:=by
 refine⟨by decide,by decide,by decide,by decide,by decide,by decide,by decide,by decide,?_,?_,?_⟩
 .intro c hc;simp[dq] at hc;rcases hc with rfl|rfl<;>simp
 .intro o ho;simp[dq] at ho;rcases ho with rfl|rfl<;>simp[I3,vx]
 .intro x hx;simp[dq] at hx
def ak3:RightD dq:=⟨aCX,by decide,λh hh=>by simp[dq] at hh⟩
def np {n:Int}(h:-100000<=n/\n<=100000):bl n:=by unfold bl;omega
def O6:Right dq:=by
 have g:ZM.OK:=.mk _ _ [] (np (by omega)) (np (by omega)) (by decide) (λ_ h=>by cases h);have n:∀k:Int,0<=k->k<=100->(Tm.mk 0 k []).OK:=λk h1 h2=>.mk _ _ [] (np (by omega)) (np (by omega)) (by decide) (λ_ h=>by cases h)
 have b:ak4.OK:=.mk _ _ _ (np (by omega)) (np (by omega)) (by decide) (λa h=>by
  simp at h;rcases h with rfl|rfl
  .exact g
  .exact .mk _ _ [] (np (by omega)) (np (by omega)) (by decide) (λ_ h=>by cases h))
 refine⟨?_,by decide,?_⟩
 .intro o ho;simp[dq] at ho;rcases ho with rfl|rfl
  .exact⟨by decide,λch h=>by simp[I3] at h⟩
  .exact⟨by decide,λch h=>by simp[vx] at h;subst h;decide⟩
 .intro o ho;simp[dq] at ho;rcases ho with rfl|rfl
  .refine⟨⟨⟨by decide,λch h=>by simp[I3] at h⟩,by decide,?_⟩,by decide⟩;intro x hx;simp[I3] at hx;rcases hx with rfl|rfl
   .exact⟨np (by decide),g⟩
   .exact⟨np (by decide),n 0 (by decide) (by decide)⟩
  .refine⟨⟨⟨by decide,λch h=>?_⟩,by decide,?_⟩,by decide⟩
   .simp[vx] at h;subst h;exact⟨np (by decide),np (by decide)⟩
   intro x hx;simp[vx] at hx;rcases hx with rfl|rfl
   .exact⟨np (by decide),b⟩
   .exact⟨np (by decide),n 3 (by decide) (by decide)⟩
def O5 (c:Int):FewS (jy c):=⟨by simp[jy],by simp[jy],by simp[jy],by simp[jy]⟩
def aCM:fB dq 0 2 (ly 0)=⟨⟨true,1⟩,0,[0],0⟩:=by kernel_rfl
def aCN:fB dq 1 2 (ly 0)=⟨⟨true,1⟩,0,[1,0],0⟩:=by kernel_rfl
def aCO:fB dq 1 2 (ly 1)=⟨⟨false,0⟩,1,[1],0⟩:=by kernel_rfl
def aCP:(fB dq 0 0 (ly 0)).err=4/\IZ (fB dq 0 0 (ly 0))=0/\kc (fB dq 0 0 (ly 0))=-1:=⟨by kernel_rfl,by kernel_rfl,by kernel_rfl⟩
def aCW:dA dq 1 (ly 0)=[1,0,1,0,0]:=by kernel_rfl
def aCQ:cO dq 1 2 (ly 1)=(⟨db,1,[1],0⟩,dD dq (bH (ly 1))):=by kernel_rfl
def aCV:ah T 42 [gz vx,.int 2,cells (dD dq (bH (ly 1)))] (ints [17]):=by
 have h:=ag1 vx 2 (dD dq (bH (ly 1))) (O6.ok vx (by simp[dq])).1 (by decide);rw[show zL vx 2 (dD dq (bH (ly 1)))=[17] by kernel_rfl] at h;exact h
def aCU:ah T 20 [aU dq,.int 1,.int 2,dJ (ly 1)] (ints [17]):=by
 have hf:=PN dq O6 1 2 (ly 1) (O5 1);rw[aCQ] at hf;refine .of_tree rfl aaD ajq ?_;simp[ON];refine⟨_,hf,?_⟩;simp[db];exact⟨by decide,aCV⟩
def ak2 (forum:Int)(g:Int)(hg:max (kc (il dq forum 6 (dc (jy 0) 5) 5)) 0=g)(h0:0<=g/\g<=100):rn dq forum (jy 0) 5=if(lq dq 1 (10+g)).2≠0 then-1 else(lq dq 1 (10+g)).1:=by
 have h2:oM (dc (jy 0) 5)=-1:=by kernel_rfl
 have h4:qK dq (O4 0) (-1) g=lq dq 1 (10+g):=anN (b:=O4 0) ak3 (by kernel_rfl) (by decide) (by decide) (by decide) rfl rfl (by decide) (by omega) (by show(10:Int)+g<=100000;omega);unfold rn;rw[if_neg (by decide),h2,hg,show(jy 0).bill=O4 0 from rfl,h4]
def aCR:rn dq 0 (jy 0) 5=10:=by
 have h5:lq dq 1 10=(10,0):=by kernel_rfl
 have:=ak2 0 0 (by kernel_rfl) (by decide);rw[this,show(10:Int)+0=10 from rfl,h5];simp
def aCS:rn dq 1 (jy 0) 5=13:=by
 have h5:lq dq 1 13=(13,0):=by kernel_rfl
 have:=ak2 1 3 (by kernel_rfl) (by decide);rw[this,show(10:Int)+3=13 from rfl,h5];simp
def aCT:rn dq 0 (jy 0) 1=-1:=by
 unfold rn;rw[if_pos (by decide)]
def ajR:PT:=
 (.call ⟨[],[]⟩ [(102,true)] 105 22 [ND,(pi 0),Ho,(pi 1)] (.ret (.pick ahP (peq ahQ (pi (-1))) pF)))
def aj2:PT:=
 (.call ⟨[(103,(aq 8 o1)),(102,(.pick NO (peq NQ (pi 13)) pF))],[]⟩ [(102,true)] 104 30 [(pi 0)] ajR)
def akd:PT:=
 (.call ⟨[],[]⟩ [(96,true)] 99 22 [HC,(pi 1),NP,(pi 5)] aj2)
def akj:PT:=
 (.call ⟨[(97,(aq 8 o1)),(96,(.pick r90 (peq HB (pi 10)) pF))],[]⟩ [(96,true)] 98 30 [(pi 0)] akd)
def akk:PT:=
 (.call ⟨[],[]⟩ [(90,true)] 93 22 [Dx,(pi 0),Af,(pi 5)] akj)
def akl:PT:=
 (.call ⟨[(91,(aq 8 o1)),(90,(.pick (.pick r7 r8 pF) (.pick vb rJ pF) pF))],[]⟩ [(90,true)] 92 30 [(pi 0)] akk)
def akm:PT:=
 (.call ⟨[],[]⟩ [(75,true)] 81 17 [Dw,(.lst [(pi 1),(pi 0),(pi 1),(pi 0),(pi 0)])] akl)
def akn:PT:=
 (.call ⟨[],[]⟩ [(75,true)] 79 18 [rI,(pi 1),Vg] akm)
def ako:PT:=
 (.call ⟨[],[]⟩ [(75,true)] 78 29 [Vf] akn)
def ajS:PT:=
 (.call ⟨[(76,(aq 8 o1)),(75,Hy)],[]⟩ [(75,true)] 77 30 [(pi 0)] ako)
def ajT:PT:=
 (.call ⟨[],[]⟩ [] 74 17 [Hx,(.lst [(pi 17)])] ajS)
def ajU:PT:=
 (.call ⟨[],[]⟩ [] 72 20 [oI,(pi 1),(pi 2),r71] ajT)
def ajV:PT:=
 (.call ⟨[],[]⟩ [] 71 29 [r70] ajU)
def ajW:PT:=
 (.call ⟨[(69,(aq 8 o1)),(8,(.pick Ae (peq Hw (pi 2)) pF))],[]⟩ [] 70 30 [(pi 1)] ajV)
def ajX:PT:=
 (.call ⟨[(64,(.pick Ve (peq Dv (pi 1)) pF))],[]⟩ [(64,true)] 66 13 [(aq 5 o4)] ajW)
def ajY:PT:=
 (.call ⟨[(59,(.pick rH (peq qa (pi (-1))) pF))],[]⟩ [(59,true)] 61 13 [(aq 5 o2)] ajX)
def ajZ:PT:=
 (.call ⟨[(54,(.pick td (peq NK (pi 0)) pF))],[]⟩ [(54,true)] 56 15 [(aq 5 o5)] ajY)
def aj0:PT:=
 (.call ⟨[(49,(peq (pc o5 4) (pi 4))),(7,(.pick ma Ad pF))],[]⟩ [(49,true)] 51 13 [(aq 5 o5)] ajZ)
def aj1:PT:=
 (.call ⟨[(40,(.pick oH ju pF))],[]⟩ [(40,true)] 44 12 [(aq 5 o4),(.mk [(.con (.agg [(.bool false),(.int 0)])),(pi 1),(.lst [(pi 1)]),(pi 0)])] aj0)
def aj3:PT:=
 (.call ⟨[(33,mP)],[]⟩ [(33,true)] 38 12 [(aq 5 o3),(.mk [(.mk [(pc o6 0),(pc o6 1)]),(pi 0),(.lst [(pi 1),(pi 0)]),(pi 0)])] aj1)
def aj4:PT:=
 (.call ⟨[],[(6,(.setc (.con (.agg [(.bool false),(.int 0)])) 0 (.mk [pT,(pi 1)]))),(5,(.setc (.con (.agg [(.bool false),(.int 0),(.int 0),(.list []),(.int 0)])) 0 mN))]⟩ [] 32 12 [(aq 5 o2),(.mk [(.mk [(pc (.setc (.con (.agg [(.bool false),(.int 0)])) 0 (.mk [pT,(pi 1)])) 0),(pc (.setc (.con (.agg [(.bool false),(.int 0)])) 0 (.mk [pT,(pi 1)])) 1)]),(pi 0),(.lst [(pi 0)]),(pi 0)])] aj3)
def aj5:PT:=
 (.call ⟨[],[]⟩ [] 26 8 [kh,(pi 0),(pi 0),fp] aj4)
def aj6:PT:=
 (.call ⟨[],[]⟩ [] 25 29 [nA] aj5)
def aj7:PT:=
 (.call ⟨[(23,(aq 8 o1))],[(4,(.setc (.con (.agg [(.bool false),(.int 0),(.int 0),(.list []),(.int 0)])) 0 NI))]⟩ [] 24 30 [(pi 0)] aj6)
def aj8:PT:=
 (.call ⟨[],[]⟩ [] 22 8 [gV,(pi 1),(pi 2),jt] aj7)
def aj9:PT:=
 (.call ⟨[],[]⟩ [] 21 29 [eT] aj8)
def aka:PT:=
 (.call ⟨[(19,(aq 8 o1))],[(3,(.setc (.con (.agg [(.bool false),(.int 0),(.int 0),(.list []),(.int 0)])) 0 kg))]⟩ [] 20 30 [(pi 1)] aj9)
def akb:PT:=
 (.call ⟨[],[]⟩ [] 18 8 [fm,(pi 1),(pi 2),iy] aka)
def akc:PT:=
 (.call ⟨[],[]⟩ [] 17 29 [fo] akb)
def ake:PT:=
 (.call ⟨[(15,(aq 8 o1))],[(2,(.setc (.con (.agg [(.bool false),(.int 0),(.int 0),(.list []),(.int 0)])) 0 dB))]⟩ [] 16 30 [(pi 0)] akc)
def akf:PT:=
 (.call ⟨[],[]⟩ [] 14 8 [bV,(pi 0),(pi 2),dP] ake)
def akg:PT:=
 (.call ⟨[],[]⟩ [] 13 29 [bS] akf)
def akh:PT:=
 (.call ⟨[(11,(aq 8 (.setc (.con (.agg [(.list []),(.list []),(.list []),(.list []),(.list []),(.list []),(.list []),(.list [])])) 0 bZ)))],[(1,(.setc (.con (.agg [(.list []),(.list []),(.list []),(.list []),(.list []),(.list []),(.list []),(.list [])])) 0 bZ))]⟩ [] 12 30 [(pi 0)] akg)
def aki:PT:=
 (.call ⟨[],[]⟩ [] 10 28 [] akh)
def azX:Xh=aki:=rfl
def ayH:ah T 6 [] (.bool true):=by
 have k:=λforum q c=>PL dq O6 forum q (ly c) (O5 c);have k1:=k 0 2 0;have k2:=k 1 2 0;have k3:=k 1 2 1;have k4:=k 0 0 0;rw[aCM] at k1;rw[aCN] at k2;rw[aCO] at k3;obtain⟨g1,g2,g3⟩:=aCP;generalize fB dq 0 0 (ly 0)=S4 at*;obtain⟨⟨kn,nn⟩,oo,pp,ee⟩:=S4;simp only at g1;subst g1;have t4:=Jp ⟨⟨kn,nn⟩,oo,pp,4⟩;have n4:=PM ⟨⟨kn,nn⟩,oo,pp,4⟩;rw[g2] at t4;rw[g3] at n4;have t1:=Jp ⟨⟨true,1⟩,0,[0],0⟩;have t3:=Jp ⟨⟨false,0⟩,1,[1],0⟩;have m:=λforum day=>aah dq O6 ak3 forum (jy 0) day (O5 0);have m1:=m 0 5;have m2:=m 1 5;have m3:=m 0 1;rw[aCR] at m1;rw[aCS] at m2;rw[aCT] at m3;have pl:=aaz dq 1 (ly 0) (O5 0);rw[aCW] at pl;refine zyw 1 azY ?_;rw[azX];simp[aki];refine⟨_,aCL,?_⟩;simp[akh];refine⟨_,vw 0,?_⟩;simp[akg];refine⟨_,D3 (jy 0),?_⟩;simp[akf];refine⟨_,k1,?_⟩;simp[ake];refine⟨_,vw 0,?_⟩;simp[akc];refine⟨_,D3 (jy 0),?_⟩;simp[akb];refine⟨_,k2,?_⟩;simp[aka];refine⟨_,vw 1,?_⟩;simp[aj9];refine⟨_,D3 (jy 1),?_⟩;simp[aj8];refine⟨_,k3,?_⟩;simp[aj7];refine⟨_,vw 0,?_⟩;simp[aj6];refine⟨_,D3 (jy 0),?_⟩;simp[aj5];refine⟨_,k4,?_⟩;simp[aj4];refine⟨_,Hr ⟨⟨true,1⟩,0,[0],0⟩ (by decide),?_⟩;simp[aj3];refine⟨_,Hr ⟨⟨true,1⟩,0,[1,0],0⟩ (by decide),?_⟩;simp[aj1];refine⟨_,Hr ⟨⟨false,0⟩,1,[1],0⟩ (by decide),?_⟩;simp[aj0];refine⟨_,t4,?_⟩;simp[ajZ];refine⟨_,n4,?_⟩;simp[ajY];refine⟨_,t1,?_⟩;simp[ajX];refine⟨_,t3,?_⟩;simp[ajW];refine⟨_,vw 1,?_⟩;simp[ajV];refine⟨_,D3 (jy 1),?_⟩;simp[ajU];refine⟨_,aCU,?_⟩;simp[ajT];refine⟨_,NG [17] (by decide),?_⟩;simp[ajS];refine⟨_,vw 0,?_⟩;simp[ako];refine⟨_,D3 (jy 0),?_⟩;simp[akn];refine⟨_,pl,?_⟩;simp[akm];refine⟨_,NG [1,0,1,0,0] (by decide),?_⟩;simp[akl];refine⟨_,vw 0,?_⟩;simp[akk];refine⟨_,m1,?_⟩;simp[akj];refine⟨_,vw 0,?_⟩;simp[akd];refine⟨_,m2,?_⟩;simp[aj2];refine⟨_,vw 0,?_⟩;simp[ajR];refine⟨_,m3,?_⟩;rfl
def am6 {r:Realm}(h:fC r=0)(i:Nat)(hi:i<r.cities.length):m9 r r.cities[i]=true:=by
 unfold fC at h;rw[Ov] at h;have h1:=h (fg (fK r) 40 (nS r)) (by simp);unfold fg at h1;split at h1
 .cases h1
 have h2:=abH h1 i (by simpa [fK] using hi);have h3:=(B1 h2).2;unfold nS at h3;simpa [hi] using h3
def anc {r:Realm}(h:fC r=0)(i:Nat)(hi:i<r.cities.length):0<=r.cities[i].order/\r.cities[i].order<r.orders.length:=by
 have:=am6 h i hi;unfold m9 at this;simp only[au] at this;obtain⟨⟨_,⟨⟨_,h2⟩,_⟩⟩,_⟩:=this;simpa [aG] using h2
def G1 {r:Realm}(h:fC r=0)(c:Int):cV r c=-1\/(0<=cV r c/\cV r c<r.orders.length):=by
 unfold cV;split
 .rename_i hc;have nj:0<=c/\c<r.cities.length:=by simpa [aG] using hc
  have hl:c.toNat<r.cities.length:=by omega
  right;have:=anc h c.toNat hl;simpa [hl] using this
 .exact .inl rfl
def amy (r:Realm)(hr:r.OK)(f:File):ah T 7 [aU r,dK f] (.bool (yE r f)):=by
 refine zyw 82 azU ?_;simp[Xe];refine⟨_,axL r f hr,?_⟩;cases e1:ui r f
 .simp[yE,e1]
 have hs:Small r:=Q8 hr (by simp only[ui,au] at e1;exact e1.1.1);simp;refine⟨_,ahL r hs,?_⟩;simp[yE,e1]
def aCi {q:Int}(h:q<0\/22<=q):(fu q).2=false:=by unfold fu;rw[if_pos h]
def aCj {q:Int}(h:¬(q<0\/22<=q)):(fu q).2=true:=by unfold fu;rw[if_neg h];split<;>rfl
def ad4 {r:Realm}{forum q:Int}{c:Case}(h:dA r forum c=[]\/q<0\/22<=q):fB r forum q c=xd:=by
 have e:(cO r forum q c)=(xd,[]):=by
  unfold cO;by_cases h1:dD r (bH c)=[]
  .rw[if_pos h1]
  rw[if_neg h1];cases h2:(fu q).2
  .rw[if_pos rfl]
  rw[if_neg (by simp)];rcases h with h|h
  .unfold dA at h;rw[if_neg h1] at h;rw[if_pos h]
  .rw[aCi h] at h2;cases h2
 unfold fB;rw[e];rfl
structure Joined (r:Realm) (forum q:Int) (c:Case):Prop where
 vars:(dD r (bH c)).length=20
 sign:0<=c.sign/\c.sign<(dc c.file c.day).signs.length
 who:0<=(kI (dc c.file c.day) c.sign).who/\(kI (dc c.file c.day) c.sign).who<r.firms.length
 places:dA r forum c=[forum,cV r (kI (dc c.file c.day) c.sign).city,cV r c.file.bill.pay,cV r c.file.bill.city,cV r (r.firms.getD (kI (dc c.file c.day) c.sign).who.toNat default).city]
 path:(dg r forum q (dA r forum c)).1≠[]
 ask:fB r forum q c=if(dg r forum q (dA r forum c)).2=0 then⟨(nQ (fT r (cD (dg r forum q (dA r forum c)).1)) q (dD r (bH c))).1,cD (dg r forum q (dA r forum c)).1,(dg r forum q (dA r forum c)).1,(nQ (fT r (cD (dg r forum q (dA r forum c)).1)) q (dD r (bH c))).2⟩
  else⟨db,-1,(dg r forum q (dA r forum c)).1,(dg r forum q (dA r forum c)).2⟩
def aed (r:Realm)(q:Int)(l:List Int):∀(n:Nat) (p:List Int),p≠[]->(jm r q l n p).1≠[]
 |0,p,h=>h
 |n+1,p,h=>by
  rw[GL];split
  .exact h
  split
  .simp
  split
  .simp
  .exact aed r q l n _ (by simp)
def atJ {r:Realm}(hr:Right r)(hc:fC r=0){forum q:Int}{c:Case}(h:dA r forum c≠[])(hq:¬(q<0\/22<=q)):Joined r forum q c:=by
 have hv:dD r (bH c)≠[]:=λe=>h (by unfold dA;rw[if_pos e]);have dM:dA r forum c=fU r forum (bH c):=by unfold dA;rw[if_neg hv]
 have hp:fU r forum (bH c)≠[]:=by rw[<-dM];exact h
 have hb:¬kR r forum (bH c):=λe=>hp (by unfold fU;rw[if_pos e]);have hn:hasB (fl r forum (bH c)) (-1)=false:=by
  cases e:hasB (fl r forum (bH c)) (-1) with
  |false=>rfl
  |true=>exact absurd (by unfold fU;rw[if_neg hb,if_pos e]) hp
 have ho:fU r forum (bH c)=fl r forum (bH c):=by unfold fU;rw[if_neg hb,hn];simp
 have bG:∀x,x∈fl r forum (bH c)->0<=x/\x<r.orders.length:=by
  intro x hx
  have aB:x≠-1:=λe=>by
   subst e;have:hasB (fl r forum (bH c)) (-1)=true:=by simpa [hasB] using hx
   rw[hn] at this;cases this
  unfold fl at hx;simp only[cU,List.not_mem_nil,or_false] at hx;unfold kR at hb;rcases hx with rfl|rfl|rfl|rfl|rfl
  .omega
  all_goals
   rcases G1 hc _ with e|e
   .exact absurd e aB
   .exact e
 have LU:jY r forum q (fl r forum (bH c))=true:=by
  have hf:=bG forum (by simp[fl]);have hl:(fl r forum (bH c)).length=5:=rfl;unfold jY;rw[au];constructor
  .simp[hl];omega
  .rw[iZ,List.any_eq_false];intro k hk;have br:=cw.1 hk;have:=bG ((fl r forum (bH c))[k]) (bW br);simp[G2,br];omega
 have uw:dg r forum q (dA r forum c)=jm r q (dA r forum c) r.orders.length [forum]:=by
  unfold dg;rw[dM,ho,if_pos ⟨LU,rfl⟩]
 refine⟨?_,O3 hv,?_,by rw[dM,ho];rfl,by rw[uw];exact aed _ _ _ _ _ (by simp),?_⟩
 .unfold dD at hv ⊢;split at hv
  .rename_i hh;rw[if_pos hh];simp[B6,tn,tp]
  .exact absurd rfl hv
 .unfold kR at hb;have e1:(bH c).file=dc c.file c.day:=rfl;have e2:(bH c).sign=c.sign:=rfl;rw[e1,e2] at hb;omega
 .have e:cO r forum q c=(⟨db,if(dg r forum q (dA r forum c)).2=0 then cD (dg r forum q (dA r forum c)).1 else-1,(dg r forum q (dA r forum c)).1,(dg r forum q (dA r forum c)).2⟩,dD r (bH c)):=by
   unfold cO;rw[if_neg hv,aCj hq,if_neg (by simp),if_neg hp,dM]
  have wB:(dA r forum c).length<=100000:=by rw[dM,ho];simp[fl]
  have R1:=Mx hr (a:=forum) (q:=q) (l:=dA r forum c) wB;unfold fB;rw[e];generalize dg r forum q (dA r forum c)=L at*;by_cases h0:L.2=0
  .have:=(R1 h0).2;simp only[h0,if_true];rw[if_neg (by omega)]
  .simp[h0]
def amc (f:File)(day:Int){i:Nat}(hi:i<(dc f day).signs.length):∃h:i<f.signs.length,(dc f day).signs[i]=f.signs[i]:=by
 obtain⟨m,hm,e,_,_⟩:=Ax (λs:Sign=>decide (s.day<=day)) f.signs;have e':(dc f day).signs=f.signs.take m:=e;have h1:i<f.signs.length:=by rw[e',eN] at hi;omega
 refine⟨h1,?_⟩;simp only[e',List.getElem_take]
def akQ:PT:=
 (.call ⟨[],[(8,(.setn o8 (pi 3) 0 NM))]⟩ [] 79 41 [(aq 8 o3),(pc (pn (pc o3 3) (pc o7 2)) 1)] (.chk (ao o8 (pi 4)) (.brk ⟨[(9,(pi 0))],[(8,(.setn o8 (pi 4) 0 Dw))]⟩ (aeq b) (.ret o8))))
def akR:PT:=
 (.call ⟨[],[(8,(.setn o8 (pi 2) 0 xr))]⟩ [] 68 41 [(aq 8 o3),(pc o5 9)] (.chk (ao o8 (pi 3)) (.chk (ao (pc o3 3) (pc o7 2)) (akQ b))))
def akS:PT:=
 (.call ⟨[],[(8,(.setn o8 (pi 1) 0 tg))]⟩ [] 60 41 [(aq 8 o3),(pc o5 10)] (.chk (ao o8 (pi 2)) (akR b)))
def akT:PT:=
 (.call ⟨[(8,pN)],[(8,(.setn (.rep (pi 5) (pi 0)) (pi 0) 0 r1)),(7,(.setc z9 0 (pn (pc o5 15) (pc o5 19))))]⟩ [] 52 41 [(aq 8 o3),(pc (.setc z9 0 (pn (pc o5 15) (pc o5 19))) 7)] (.chk (ao o8 (pi 1)) (akS b)))
def akU:PT:=
 (.call ⟨[(6,pL)],[(5,(.mk [r2])),(3,(.mk [r0]))]⟩ [] 12 38 [(aq 8 (.mk [r0])),(aq 24 (.mk [r2]))] (.ite (.pick (.pick (peq (.llen bS) (pi 0)) pT (aj r1 (pi 0))) pT (bY r1 (.llen (pc o3 4)))) (.ret pL) (.chk (ao (pc o5 15) (pc o5 19)) (.ite (.pick (aj (pc (.setc z9 0 (pn (pc o5 15) (pc o5 19))) 2) (pi 0)) pT (bY (pc (.setc z9 0 (pn (pc o5 15) (pc o5 19))) 2) (.llen (pc o3 3)))) (.ret pL) (.chk (.an (bY (pi 5) (pi 0)) (bB (pi 5) (pi 4294967296))) (.chk (peq (pi 5) (pi 5)) (.chk (ao (.rep (pi 5) (pi 0)) (pi 0)) (akT b))))))))
def aBk (b:Nat->PC):Yo b=akU b:=rfl
def aia (r:Realm)(hc:fC r=0)(hr:r.cities.length<=100000)(forum:Int)(c:Case)(hf:FewS c.file):ah T 19 [aU r,.int forum,dJ c] (ints (dA r forum c)):=by
 have hC:=Vc r hr c hf;refine zyw 104 aBl ?_;rw[aBk];simp[akU];unfold dA;by_cases hv:dD r (bH c)=[]
 .rw[if_pos hv];rw[hv] at hC;refine⟨_,hC,?_⟩;simp;rfl
 rw[if_neg hv];refine⟨_,hC,?_⟩;have j5:=O3 hv;have Mk:c.sign.toNat<(dc c.file c.day).signs.length:=by
  have:(bH c).file.signs=(dc c.file c.day).signs:=rfl;have e2:(bH c).sign=c.sign:=rfl;rw[this,e2] at j5;omega
 obtain⟨Gu,dz⟩:=amc c.file c.day Mk;have h0:0<=c.sign:=j5.1;simp[hv];have hp:fU r forum (bH c)=if kR r forum (bH c) then[] else if hasB (fl r forum (bH c)) (-1)=true then[] else fl r forum (bH c):=rfl;have Cf:kR r forum (bH c)↔((c.file.signs[c.sign.toNat].who<0\/(r.firms.length:Int)<=c.file.signs[c.sign.toNat].who)\/forum<0)\/(r.orders.length:Int)<=forum:=by
  have e:kI (bH c).file (bH c).sign=c.file.signs[c.sign.toNat]:=by
   show(dc c.file c.day).signs.getD c.sign.toNat default=_;rw[<-dz];simp[Mk]
  unfold kR;rw[e];constructor
  .rintro(h|h|h|h)<;>simp[h]
  .rintro(((h|h)|h)|h)<;>simp[h]
 by_cases hfo:forum<0\/(r.orders.length:Int)<=forum
 .rw[if_pos hfo,hp,if_pos (Cf.2 (by omega))];rfl
 rw[if_neg hfo];obtain⟨sg,pI⟩:∃sg:Sign,sg=c.file.signs[c.sign.toNat]:=⟨_,rfl⟩
 rw[<-pI] at Cf;simp[Gu,<-pI];refine⟨by omega,?_⟩;by_cases hw:sg.who<0\/(r.firms.length:Int)<=sg.who
 .rw[if_pos hw,hp,if_pos (Cf.2 (.inl (.inl hw)))];rfl
 rw[if_neg hw];have dv:¬kR r forum (bH c):=λe=>by have:=Cf.1 e;omega
 have zj:sg.who.toNat<r.firms.length:=by omega
 have ho:fl r forum (bH c)=[forum,cV r sg.city,cV r c.file.bill.pay,cV r c.file.bill.city,cV r r.firms[sg.who.toNat].city]:=by
  have e:kI (bH c).file (bH c).sign=sg:=by
   show(dc c.file c.day).signs.getD c.sign.toNat default=_;rw[pI,<-dz];simp[Mk]
  unfold fl;rw[e];simp[zj];exact⟨rfl,rfl⟩
 rw[hp,if_neg dv,ho];have jq:∀x:Int,ah T 41 [aU r,.int x] (.int (cV r x)):=λx=>NC r x hr;simp[akT,Gu,<-pI];refine⟨_,jq _,?_⟩;simp[akS,Gu,<-pI];refine⟨_,jq _,?_⟩;simp[akR,Gu,<-pI];refine⟨_,jq _,?_⟩;simp[akQ,Gu,<-pI,zj];refine⟨by omega,_,jq _,?_⟩;have o1:=G1 hc sg.city;have o2:=G1 hc c.file.bill.pay;have o3:=G1 hc c.file.bill.city;have o4:=G1 hc r.firms[sg.who.toNat].city;generalize cV r sg.city=x1 at*;generalize cV r c.file.bill.pay=x2 at*;generalize cV r c.file.bill.city=x3 at*;generalize cV r r.firms[sg.who.toNat].city=x4 at*;have hR:∀x,(x=-1\/0<=x)->¬0<=x->x=-1:=λx h1 h2=>by omega
 have aB:¬forum<0:=by omega
 obtain⟨R,pw⟩:∃R,R=ints (if hasB [forum,x1,x2,x3,x4] (-1)=true then[] else[forum,x1,x2,x3,x4]):=⟨_,rfl⟩
 rw[<-pw];have atp:(x1=-1\/x2=-1\/x3=-1\/x4=-1)->R=.list []:=by
  intro h;have:hasB [forum,x1,x2,x3,x4] (-1)=true:=by
   simp[hasB];omega
  rw[pw,this];rfl
 have eH:¬(x1=-1\/x2=-1\/x3=-1\/x4=-1)->R=ints [forum,x1,x2,x3,x4]:=by
  intro h;have:hasB [forum,x1,x2,x3,x4] (-1)=false:=by
   cases e:hasB [forum,x1,x2,x3,x4] (-1) with
   |false=>rfl
   |true=>
    exfalso;simp[hasB] at e;omega
  rw[pw,this];rfl
 clear pw;refine aN.scan 5 (λk=>0<=[forum,x1,x2,x3,x4].getD k 0) (λk=>[.list [],.int k]) (λ_=>[]) ?_ (λk hk hj ho=>?_) (λk hk hj ho=>?_) (λhj=>?_)
 .simp
 .have h5:k=0\/k=1\/k=2\/k=3\/k=4:=by omega
  rcases h5 with rfl|rfl|rfl|rfl|rfl<;>simp at ho<;>simp[VR,Ia,Int.not_lt.2 ho,show i64.wrap 2=2 by decide,show i64.wrap 3=3 by decide,show i64.wrap 4=4 by decide,show i64.wrap 5=5 by decide,show i64.wrap 1=1 by decide]
 .have h5:k=0\/k=1\/k=2\/k=3\/k=4:=by omega
  rcases h5 with rfl|rfl|rfl|rfl|rfl<;>simp at ho<;>simp[VR,Ia,ho]
  .omega
  all_goals exact(atp (by omega)).symm
 .have a1:=hj 1 (by omega);have a2:=hj 2 (by omega);have a3:=hj 3 (by omega);have a4:=hj 4 (by omega);simp at a1 a2 a3 a4;rw[eH (by omega)];simp[VR,Ia]
  try rfl
def Pr (r:Realm):Prop:=∀o,o∈r.orders->o.choices.Pairwise λa b=>a.ask≠b.ask
def qB (q:Int)(ch:Choice):Bool:=decide (ch.ask=q)
def abD {q:Int}:∀{l:List Choice},l.Pairwise (λa b=>a.ask≠b.ask)->l.find? (mG q)=(l.find? (qB q)).bind λch=>if ch.by_=0 then none else some ch
 |[],_=>rfl
 |ch::l,h=>by
  rw[x9] at h;by_cases h1:ch.ask=q
  .have hn:∀x,x∈l->x.ask≠q:=λx hx e=>h.1 x hx (h1.trans e.symm);have Gc:l.find? (mG q)=none:=by
        rw[vE];intro x hx;simp[mG,hn x hx]
   by_cases h2:ch.by_=0
   .simp[Pg,mG,qB,h1,h2];have:=Gc;unfold mG at this;simpa using this
   .simp[Pg,mG,qB,h1,h2]
  .have ih:=abD (q:=q) h.2;simp[Pg,mG,qB,h1];unfold mG qB at ih;exact ih
def ah7 (r:Realm)(l:List Int)(hr:r.orders.length<=100000)(hl:l.length=5)(hx:∀x,x∈l->0<=x/\x<r.orders.length):ah T 73 [aU r,ints l] (.bool true):=by
 have jj:i64.wrap ((r.orders.length:Int)-1)=(r.orders.length:Int)-1:=aW (by omega);refine zyw 115 aBc ?_;simp[Yh];refine aN.forRounds l.length (λk=>[.bool false,.int k]) (λ_=>[]) ?_ (λk hk=>?_) ?_
 .simp
 .have hw:=bu hk (by omega);have bG:=hx _ (bW hk);have SY:wi l[k] 0 ((r.orders.length:Int)-1)=true:=by simp[wi];omega
  simp[aiq,N5,hk,hw,jj];refine⟨_,cJ _ _ _,?_⟩;simp[SY,hw]
 .simp[aiq,N5,hl]
def QK (o:Order)(q:Int):Choice:=(o.choices.find? (qB q)).getD ⟨q,0,false⟩
def axI (o:Order)(q:Int)(hl:o.choices.length<=100000):ah T 117 [gz o,.int q] (ub (QK o q)):=by
 refine zyw 117 aA9 ?_;simp[Ye];unfold QK;refine aN.scan o.choices.length (λk=>qB q (o.choices.getD k default)=false) (λk=>[.int k]) (λ_=>[.agg [.int 0,.int 0,.bool false]]) ?_ (λk hk hj av=>?_) (λk hk hj av=>?_) (λhj=>?_)
 .simp
 .have hw:=bu hk (by omega);have hn:¬o.choices[k].ask=q:=by simpa [qB,hk] using av
  simp[VO,H8,hk,hw,hn]
 .have fQ:=sy hk (by simpa [hk] using av) (λj bf=>by have:=hj j bf;simpa [show j<o.choices.length by omega] using this);have hc:o.choices[k].ask=q:=by simpa [qB,hk] using av
  rw[fQ];simp[VO,H8,hk,hc];subst hc;rfl
 .have fQ:=uj (l:=o.choices) (p:=qB q) (λj bf=>by have:=hj j bf;simpa [bf] using this);rw[fQ];simp[VO,H8]
  try rfl
def axK (r:Realm)(lN:xV r)(de:Pr r)(hr:r.orders.length<=100000)(a q:Int)(l:List Int)(hf:jY r a q l=true)(hq:0<=q/\q<22):
 ah T 75 [aU r,.int a,.int q,ints l] (.tup [.int (fJ r a q l).1,.bool (fJ r a q l).2]):=by
 obtain⟨ha,wB,hx,_⟩:=B0 hf;have jj:i64.wrap ((r.orders.length:Int)-1)=(r.orders.length:Int)-1:=aW (by omega);have nW:a.toNat<r.orders.length:=by omega
 obtain⟨bh,lO⟩:=lN _ (bW nW);have hpw:=de _ (bW nW);have y7:fT r a=r.orders[a.toNat]:=by simp[fT,nW]
 have jI:=abD (q:=q) hpw;have SX:wi a 0 ((r.orders.length:Int)-1)=true:=by simp[wi];omega
 have GB:wi q 0 21=true:=by simp[wi];omega
 refine zyw 116 aBb ?_;simp[Yg,jj];refine⟨_,ah7 r l hr wB hx,?_⟩;simp;refine⟨_,cJ _ _ _,?_⟩;simp[SX];refine⟨_,cJ _ _ _,?_⟩;simp[GB,nW];refine⟨ha,_,axI _ q bh,?_⟩;unfold fJ;rw[y7,jI];unfold QK;cases fQ:r.orders[a.toNat].choices.find? (qB q) with
 |none=>simp
 |some ch=>
  have hb:=lO _ (vI fQ);have qW:ch.by_.toNat<l.length:=by omega
  by_cases h0:ch.by_=0
  .simp[h0]
  .simp[h0,qW];omega
def ayv {l:List Int}{a b:Int}(h:rising l a b=true):l.Pairwise (·<·):=by
 unfold rising at h;rw[ye] at h
 have step:∀i (h1:i+1<l.length),l[i]'(by omega)<l[i+1]:=by
  intro i h1;have:=h (i+1) h1;have hi:i<l.length:=by omega
  simp[oK,h1,hi] at this;exact this.2
 rw[alu];intro i j hi hj du;obtain⟨d,rfl⟩:∃d,j=i+1+d:=⟨j-i-1,by omega⟩
 clear du
 induction d with
 |zero=>exact step i hj
 |succ d ih=>exact Int.lt_trans (ih (by omega)) (step (i+1+d) hj)
def awc {r:Realm}(h:fC r=0):Pr r:=by
 intro o ho;obtain⟨k,hk,rfl⟩:=lE ho;have h1:=aaZ h k hk;unfold pU at h1;simp only[au] at h1;have h2:=ayv h1.2.1;unfold yf at h2;rw[List.pairwise_map] at h2;exact h2.imp λh=>by omega
def rQ (N:Nat)(p:List Int):D:=.list ((List.range N).map λ(i:Nat)=>D.bool (hasB p (i:Int)))
def ayO {N:Nat}{p:List Int}{k:Nat}(hk:k<N):(rQ N p).l[k]?.getD D.none=D.bool (hasB p (k:Int)):=by
 show((List.range N).map λ(i:Nat)=>D.bool (hasB p (i:Int)))[k]?.getD D.none=_;simp[hk]
def ayP (N:Nat)(p:List Int):(rQ N p).l.length=N:=by
 show((List.range N).map λ(i:Nat)=>D.bool (hasB p (i:Int))).length=N;simp
def ai0 {N:Nat}{p:List Int}{x:Int}(h0:0<=x):D.list ((rQ N p).l.set x.toNat (D.bool true))=rQ N (p++[x]):=by
 show D.list (((List.range N).map λ(i:Nat)=>D.bool (hasB p (i:Int))).set x.toNat (D.bool true))=_;unfold rQ
 congr 1
 apply Pf
 .simp
 .intro i h1 h2;simp at h2;rw[List.getElem_set];by_cases h:x.toNat=i
  .have hx:x=(i:Int):=by omega
   simp[h,hx,hasB]
  .have hx:¬(i:Int)=x:=by omega
   have e:hasB (p++[x]) (i:Int)=hasB p (i:Int):=by
        simp[hasB,hx];intro e;exact absurd e.symm hx
   simp[h,e]
@[simp] def aIQ (x y:Bool):vl (D.bool x) 0 (D.bool y)=D.bool y:=zyz
def axJ (r:Realm)(lN:xV r)(de:Pr r)(hn:r.orders.length<=100000)(a q:Int)(l:List Int)(hf:jY r a q l=true)(hq:0<=q/\q<22)(arV:l.getD 0 0=a):
 ah T 36 [aU r,.int a,.int q,ints l] (.tup [ints (dg r a q l).1,.int (dg r a q l).2]):=by
 obtain⟨ha,wB,hx,qU⟩:=B0 hf;have h0:0<l.length:=by omega
 have yW:l[0]=a:=by simpa [h0] using arV
 have hE:dg r a q l=jm r q l r.orders.length [a]:=by unfold dg;rw[if_pos ⟨hf,by simp[h0,yW]⟩]
 have jj:i64.wrap ((r.orders.length:Int)-1)=(r.orders.length:Int)-1:=aW (by omega);have SX:wi a 0 ((r.orders.length:Int)-1)=true:=by simp[wi];omega
 have GB:wi q 0 21=true:=by simp[wi];omega
 have nW:a.toNat<r.orders.length:=by omega
 rw[hE];refine zyw 114 aBa ?_;simp[Yf,jj];refine⟨_,ah7 r l hn wB hx,?_⟩;simp;refine⟨_,cJ _ _ _,?_⟩;simp[SX];refine⟨_,cJ _ _ _,?_⟩;simp[GB,h0,yW];refine⟨by omega,ha,?_⟩;refine aN.forLoop (α:=Nat×List Int) (λs vr vo=>(∃x,vr=[.list [],.int 0,x,.int ((r.orders.length-s.1:Nat):Int)])/\vo=[rQ r.orders.length s.2,ints s.2]/\s.2.Nodup/\(∀x,x∈s.2->0<=x/\x<(r.orders.length:Int))/\s.2≠[]/\s.1+s.2.length=r.orders.length+1/\jm r q l s.1 s.2=jm r q l r.orders.length [a]) (λs=>s.1) (r.orders.length,[a]) ?_ ?_
 .have Gt:D.list ((List.replicate r.orders.length (D.bool false)).set a.toNat (D.bool true))=rQ r.orders.length [a]:=by
   have h1:(rQ r.orders.length [])=D.list (List.replicate r.orders.length (D.bool false)):=by
        unfold rQ
        congr 1
        apply Pf
        .simp
        .intro i h1 h2;simp[hasB]
   have h2:=ai0 (N:=r.orders.length) (p:=[]) (x:=a) ha.1;rw[h1] at h2;exact h2
  simp[ints,nW,Gt];exact ha
 .rintro⟨n,p⟩ vr vo ⟨⟨x0,rfl⟩,rfl,bC,bG,aB,hlen,uw⟩;simp only at*;have dM:p.length<=r.orders.length:=Nh _ p bC bG;have Mg:0<p.length:=AM.mpr aB;obtain⟨m,rfl⟩:∃m,n=m+1:=⟨n-1,by omega⟩
  have ak:p.length-1<p.length:=by omega
  have jJ:cD p=p[p.length-1]:=by simp[cD,ak]
  have oc:=bG _ (bW ak);rw[<-jJ] at oc;have yJ:=axK r lN de hn (cD p) q l (qU _ oc.1 oc.2) hq;obtain⟨_,fh,fi⟩:=Pd r lN (cD p) q l (by omega) (qU _ oc.1 oc.2);have y2:((p.length:Int)-1).toNat=p.length-1:=by omega
  have zk:i64.wrap ((p.length:Int)-1)=(p.length:Int)-1:=aW (by omega);rw[<-uw,GL];obtain⟨L,hL⟩:∃L,L=fJ r (cD p) q l:=⟨_,rfl⟩
  rw[<-hL] at yJ fh fi ⊢;obtain⟨to,whole⟩:=L;simp only at yJ fh fi;have sL:to.toNat<r.orders.length:=by omega
  have y7:fT r to=r.orders[to.toNat]:=by simp[fT,sL]
  simp only[y7];have hk:((r.orders.length-(m+1):Nat):Int)<=r.orders.length:=by omega
  have hkw:i64.wrap (((r.orders.length-(m+1):Nat):Int)+1)=((r.orders.length-m:Nat):Int):=by rw[aW (by omega)];omega
  simp[ax2,VP,zk,y2,ak,<-jJ,ints,hk];refine⟨by omega,_,yJ,by omega,?_⟩;by_cases h1:to=cD p
  .simp[h1]
  simp[h1];refine⟨by omega,?_⟩;cases whole
  .simp
  have j5:=ayO (N:=r.orders.length) (p:=p) sL;have Gw:((to.toNat:Nat):Int)=to:=by omega
  rw[Gw] at j5
  have dz:∀h:to.toNat<(rQ r.orders.length p).l.length,(rQ r.orders.length p).l[to.toNat]=D.bool (hasB p to):=λh=>by
   rw[bI h] at j5;exact j5
  simp[ayP,dz,sL,fh,fi,ai0];cases h2:hasB p to
  .have cY:to∉p:=λhm=>by
        have:hasB p to=true:=by simp[hasB,hm]
        rw[h2] at this;cases this
   simp[h2];refine⟨m,by omega,hkw,p++[to],⟨rfl,by simp⟩,?_,?_,by simp,by simp;omega,rfl⟩
   .exact AO.mpr ⟨bC,by simp,λx hx y hy=>by simp at hy;subst hy;exact λe=>cY (e▸hx)⟩
   .intro x hx;rcases dH.mp hx with h|h
    .exact bG x h
    .simp at h;subst h;exact⟨fh,fi⟩
  .cases h3:r.orders[to.toNat].accepts<;>simp[h2,h3,sL]
def Tv (L:Nat)(t:Tm):1<=bm L t:=xb L t
def ajb:∀(L:Nat) (t:Tm) (n:Int),0<=n->n<=60->(bm L t<=n->gM L t n=n-bm L t)/\(n<bm L t->gM L t n<0)
 |0,t,n,h0,h1=>by
  refine⟨λh=>?_,λ_=>by simp[gM]⟩;simp[bm] at h;omega
 |L+1,t,n,h0,h1=>by
  have key:∀(l:List Tm) (m:Int),1<=m->m<=60->
    (dm (bm L) l m<=n->l.foldl (λm a=>if 0<=m then gM L a m else m) (n-m)=n-dm (bm L) l m)/\(n<dm (bm L) l m->l.foldl (λm a=>if 0<=m then gM L a m else m) (n-m)<0):=by
   intro l
   induction l with
   |nil=>
    intro m y3 y4;simp only[dm,aab];exact⟨λ_=>trivial,λh=>by omega⟩
   |cons a l ih=>
    intro m y3 y4;have hp:=Tv L a;simp only[Jc,dm];by_cases hn:0<=n-m
    .rw[if_pos hn];obtain⟨s1,s2⟩:=ajb L a (n-m) hn (by omega);by_cases hle:bm L a<=n-m
     .rw[s1 hle];have e:n-m-bm L a=n-(m+bm L a):=by omega
      rw[e,if_neg (by omega)];exact ih (m+bm L a) (by omega) (by omega)
     .have ac6:=s2 (by omega);rw[OB L l _ ac6];have uu:n<(if 60<m+bm L a then m+bm L a else dm (bm L) l (m+bm L a)):=by
        split
        .omega
        .have:m+bm L a<=dm (bm L) l (m+bm L a):=by
             have gen:∀(l:List Tm) (x:Int),x<=dm (bm L) l x:=by
               intro l
               induction l with
               |nil=>intro x;simp[dm]
               |cons b l kC=>
                intro x;have hb:=Tv L b;simp only[dm];split
                .omega
                .have:=kC (x+bm L b);omega
             exact gen l _
         omega
      exact⟨λh=>by omega,λ_=>ac6⟩
    .rw[if_neg hn,OB L l _ (by omega)];have gen:∀(l:List Tm) (x:Int),x<=dm (bm L) l x:=by
       intro l
       induction l with
       |nil=>intro x;simp[dm]
       |cons b l kC=>
        intro x;have hb:=Tv L b;simp only[dm];split
        .omega
        .have:=kC (x+bm L b);omega
     have uu:n<(if 60<m+bm L a then m+bm L a else dm (bm L) l (m+bm L a)):=by
       have:=gen l (m+bm L a);split<;>omega
     exact⟨λh=>by omega,λ_=>by omega⟩
  show(dm (bm L) t.args 1<=n->_)/\(n<dm (bm L) t.args 1->_)
  exact key t.args 1 (by omega) (by omega)
def aja (t:Tm):gM 8 t 60<0↔60<bm 8 t:=by
 obtain⟨h1,h2⟩:=ajb 8 t 60 (by omega) (by omega);constructor
 .intro h;refine vB λhc=>?_;have:=h1 (by omega);omega
 .exact h2
def fA (op:Int):Int:=if op=0\/op=1\/op=2 then 0 else if op=3 then 1 else if op=6 then 3 else 2
def axB (op:Int):ah T 181 [.int op] (.int (fA op)):=by
 refine zyw 123 aAT ?_;unfold fA;by_cases h0:op=0
 .simp[xI,h0]
 by_cases h1:op=1
 .simp[xI,h0,h1]
 by_cases h2:op=2
 .simp[xI,h0,h1,h2]
 by_cases h3:op=3
 .simp[xI,h0,h1,h2,h3]
 by_cases h6:op=6
 .simp[xI,h0,h1,h2,h3,h6]
 .simp[xI,h0,h1,h2,h3,h6]
def ah1 (v:Int):ah T 184 [.int v] (.tup [.int (jR v).1,.bool (jR v).2]):=by
 refine zyw 125 aAS ?_;unfold jR;by_cases h1:v<0
 .simp[DY,h1]
 by_cases h2:19<v
 .simp[DY,h1,h2,show 20<=v by omega]
 by_cases h3:v<7
 .simp[DY,h1,h2,h3,show ¬20<=v by omega,show v<=6 by omega]
 .simp[DY,h1,h2,h3,show ¬20<=v by omega,show ¬v<=6 by omega]
def axD (t:Tm)(ha:t.args.length=0)(ho:t.op=0\/t.op=1\/t.op=2):ah T 182 [cQ t] (.tup [.int (sO t).1,.int (sO t).2]):=by
 have hv:=ah1 t.n;refine zyw 124 aAW ?_;unfold sO;rw[if_neg (by omega)];by_cases h0:t.op=0
 .have hc:lJ t.n≠t.n↔t.n< -1099511627776\/1099511627776<t.n:=by unfold lJ;omega
  by_cases h:t.n< -1099511627776\/1099511627776<t.n
  .rw[if_pos h0,if_pos (hc.2 h)];simp[xJ,h0,h]
  .rw[if_pos h0,if_neg (λe=>h (hc.1 e))];simp[xJ,h0,h]
 by_cases h1:t.op=1
 .by_cases h:t.n=0
  .simp[xJ,h0,h1,h]
  by_cases h':t.n=1
  .simp[xJ,h0,h1,h']
  .have:t.n<0\/1<t.n:=by omega
   simp[xJ,h0,h1,h,h',this]
 .simp[xJ,h0,h1];refine⟨_,hv,?_⟩;cases h2:(jR t.n).2<;>simp[h2]
def CK (op:Int)(l:List Int):Int×Bool:=
 if op=3 then(1,decide (l.getD 0 0=1)) else if op=4\/op=5 then(1,decide (l.getD 0 0=1)&&decide (l.getD 1 0=1))
 else if op=6 then(l.getD 1 0,decide (l.getD 0 0=1)&&decide (l.getD 1 0=l.getD 2 0)) else if op=7 then(1,decide (l.getD 0 0=0)&&decide (l.getD 1 0=0))
 else if op=8 then(1,decide (l.getD 0 0=l.getD 1 0)) else(0,decide (l.getD 0 0=0)&&decide (l.getD 1 0=0))
def axC (op:Int)(l:List Int)(h1:1<=l.length)(h2:op≠3->2<=l.length)(h3:op=6->3<=l.length):ah T 183 [.int op,ints l] (.tup [.int (CK op l).1,.bool (CK op l).2]):=by
 have g0:0<l.length:=by omega
 refine zyw 126 aAV ?_;unfold CK;by_cases o3:op=3
 .simp[vp,o3,g0]
 have g1:1<l.length:=by have:=h2 o3;omega
 have fD:(1:Int)<l.length:=by omega
 by_cases o4:op=4
 .by_cases e0:l[0]=1<;>simp[vp,o4,g0,g1,fD,e0]
 by_cases o5:op=5
 .by_cases e0:l[0]=1<;>simp[vp,o5,g0,g1,fD,e0]
 by_cases o6:op=6
 .have g2:2<l.length:=by have:=h3 o6;omega
  have mm:(2:Int)<l.length:=by omega
  by_cases e0:l[0]=1<;>simp[vp,o6,g0,g1,g2,fD,mm,e0]
 by_cases o7:op=7
 .by_cases e0:l[0]=0<;>simp[vp,o7,g0,g1,fD,e0]
 by_cases o8:op=8
 .simp[vp,o8,g0,g1,fD]
 .by_cases e0:l[0]=0<;>simp[vp,o3,o4,o5,o6,o7,o8,g0,g1,fD,e0]
def atV {α:Type}{l:List α}(h:l.length=1):∃a,l=[a]:=by
 match l,h with
 |[a],_=>exact⟨a,rfl⟩
def atW {α:Type}{l:List α}(h:l.length=2):∃a b,l=[a,b]:=by
 match l,h with
 |[a,b],_=>exact⟨a,b,rfl⟩
def atX {α:Type}{l:List α}(h:l.length=3):∃a b c,l=[a,b,c]:=by
 match l,h with
 |[a,b,c],_=>exact⟨a,b,c,rfl⟩
def av0 (t:Tm)(ks:List Int)(hk:ks.length=t.args.length)(cI:∀x,x∈ks->x=0\/x=1):sP t ks=if t.op<0\/13<t.op then(0,1) else if(ks.length:Int)≠fA t.op\/(0<fA t.op/\t.n≠0) then(0,2) else
 if fA t.op=0 then sO t else if(CK t.op ks).2=false then(0,11) else((CK t.op ks).1,0):=by
 unfold sP;by_cases h0:t.op<0\/13<t.op
 .rw[if_pos h0,if_pos h0]
 rw[if_neg h0,if_neg h0];by_cases hl:t.op=0\/t.op=1\/t.op=2
 .have ha:fA t.op=0:=by unfold fA;rw[if_pos hl]
  rw[if_pos hl,ha];by_cases hz:ks.length=0
  .rw[if_neg (by omega),if_pos rfl]
  .rw[if_pos (by omega)];unfold sO;rw[if_pos (by omega)]
 rw[if_neg hl];have hr:3<=t.op/\t.op<=13:=by omega
 have LH:fA t.op=((dU t.op).1.length:Int):=by
  unfold fA dU;rw[if_neg hl];by_cases o3:t.op=3
  .simp[o3]
  by_cases o6:t.op=6
  .simp[o6]
  rw[if_neg o3,if_neg o6];split
  .omega
  split
  .rfl
  split
  .rfl
  split<;>rfl
 by_cases hc:ks.length≠(dU t.op).1.length\/t.n≠0
 .rw[if_pos hc,if_pos];rw[LH];have:1<=(dU t.op).1.length:=by
   unfold dU
   repeat' split
   all_goals simp
  omega
 have hB:¬((ks.length:Int)≠fA t.op\/(0<fA t.op/\t.n≠0)):=by rw[LH];omega
 rw[if_neg hc,if_neg hB];clear hB;have aB:fA t.op≠0:=by
  unfold fA;rw[if_neg hl]
  repeat' split
  all_goals omega
 rw[if_neg aB];have hlen:ks.length=(dU t.op).1.length:=by omega
 by_cases o3:t.op=3
 .simp[dU,o3] at hlen;obtain⟨a,rfl⟩:=atV hlen;rw[o3];rcases cI a (by simp) with rfl|rfl<;>rfl
 have two:ks.length=2->∃a b,ks=[a,b]/\(a=0\/a=1)/\(b=0\/b=1):=λh=>by
  obtain⟨a,b,rfl⟩:=atW h;exact⟨a,b,rfl,cI a (by simp),cI b (by simp)⟩
 by_cases o6:t.op=6
 .simp[dU,o6] at hlen;obtain⟨a,b,c,rfl⟩:=atX hlen;rcases cI a (by simp) with rfl|rfl<;>rcases cI b (by simp) with rfl|rfl<;>rcases cI c (by simp) with rfl|rfl<;>rw[o6]<;>rfl
 have ade:t.op=4\/t.op=5\/t.op=7\/t.op=8\/t.op=9\/t.op=10\/t.op=11\/t.op=12\/t.op=13:=by omega
 have q7:ks.length=2:=by
  rw[hlen];rcases ade with h|h|h|h|h|h|h|h|h<;>rw[h]<;>rfl
 obtain⟨a,b,rfl,ha,hb⟩:=two q7;rcases ade with h|h|h|h|h|h|h|h|h<;>rw[h]<;>rcases ha with rfl|rfl<;>rcases hb with rfl|rfl<;>rfl
def alS {op:Int}(h:fA op=0):op=0\/op=1\/op=2:=by
 unfold fA at h;split at h
 .assumption
 .exfalso
  repeat' split at h
  all_goals omega
def U8:∀(L:Nat) (t:Tm),t.OK->bm L t<=60->ah T 157 [cQ t] (.tup [.int (ba L t).1,.int (ba L t).2])
 |0,t,ht,hm=>by simp[bm] at hm
 |L+1,t,ht,hm=>by
  refine zyw 122 aA1 ?_;obtain⟨hl,hp⟩:=zB hm;simp[X6];refine vi t.args.length (λk=>(ba L (t.args.getD k default)).2) (λk=>[.int 0,.int 0,.none,.int k]) (λk=>[ints ((t.args.map λa=>(ba L a).1).take k)]) ?_ (λk hk ho=>?_) (λk hk ho hb=>?_) (λhj=>?_)
  .simp[ints]
  .have hw:=bu hk (by omega);have cR:=bW hk;have dS:=U8 L t.args[k] (ht.arg cR) (hp _ cR);have F0:(t.args.map λa=>(ba L a).1)[k]'(by simpa using hk)=(ba L t.args[k]).1:=by simp
   have ze:(t.args.map λa=>(ba L a).1).take (k+1)=(t.args.map λa=>(ba L a).1).take k++[(ba L t.args[k]).1]:=by
    rw[lG (by simpa using hk),F0]
   have hlen:((t.args.map λa=>(ba L a).1).take k).length=k:=by simp;omega
   rw[ze];generalize (t.args.map λa=>(ba L a).1).take k=A at*;simp[hk] at ho;rw[ho] at dS;generalize (ba L t.args[k]).1=kd at*;simp[VL,H5,hk];refine⟨_,dS,?_⟩;simp[hlen,hk,hw,ints];omega
  .have cR:=bW hk;have dS:=U8 L t.args[k] (ht.arg cR) (hp _ cR);have hf:ba (L+1) t=(0,(ba L (t.args.getD k default)).2):=by
    rw[E1,hb,if_pos ho]
   rw[hf];simp[hk] at ho ⊢;simp[VL,H5,hk];refine⟨_,dS,?_⟩;simp[ho]
  .have hf:ba (L+1) t=sP t (t.args.map λa=>(ba L a).1):=by
    rw[E1,hj];simp
   have cI:∀x,x∈(t.args.map λa=>(ba L a).1)->x=0\/x=1:=by
    intro x hx;obtain⟨a,ha,rfl⟩:=dW.1 hx;obtain⟨k,hk,rfl⟩:=lE ha;have hz:(ba L t.args[k]).2=0:=by
     have:=(Ra.1 hj) k hk;simpa [hk] using this
    cases L with
    |zero=>have:=hp _ ha;simp[bm] at this
    |succ L=>exact(vS (L:=L) (t:=t.args[k]) (k:=(ba (L+1) t.args[k]).1) (by rw[<-hz])).2
   rw[hf,av0 t _ (by simp) cI];have ux:(t.args.map λa=>(ba L a).1).length=t.args.length:=by simp
   have e0:(t.args.map λa=>(ba L a).1).take t.args.length=t.args.map λa=>(ba L a).1:=by rw[<-ux,Ec]
   rw[e0];generalize (t.args.map λa=>(ba L a).1)=ks at*;simp[VL,H5];by_cases h0:t.op<0\/13<t.op
   .have fE:t.op<0\/14<=t.op:=by omega
    simp[h0,fE]
   have fE:¬(t.op<0\/14<=t.op):=by omega
   simp[h0,fE];refine⟨_,axB t.op,?_⟩;by_cases h1:(ks.length:Int)≠fA t.op\/(0<fA t.op/\t.n≠0)
   .rw[if_pos h1];have cA:¬(ks.length:Int)=fA t.op\/(0<fA t.op/\¬t.n=0):=h1;simp[cA]
   rw[if_neg h1];have cA:¬(¬(ks.length:Int)=fA t.op\/(0<fA t.op/\¬t.n=0)):=h1;simp[cA];by_cases h2:fA t.op=0
   .have bQ:=alS h2;simp[h2];refine⟨_,axD t (by omega) bQ,?_⟩;simp
   have bQ:¬(t.op=0\/t.op=1\/t.op=2):=by
    intro h;apply h2;unfold fA;rw[if_pos h]
   have bN:1<=ks.length:=by
    have:1<=fA t.op:=by
     unfold fA;rw[if_neg bQ]
     repeat' split
     all_goals omega
    omega
   simp[h2];refine⟨_,axC t.op ks bN (λh3=>?_) (λh6=>?_),?_⟩
   .have:2<=fA t.op:=by
     unfold fA;rw[if_neg bQ,if_neg h3];split<;>omega
    omega
   .have:fA t.op=3:=by rw[h6];rfl
    omega
   .cases h3:(CK t.op ks).2<;>simp[h3]
def U5 (t:Tm)(ht:t.OK):ah T 118 [cQ t] (.tup [.int (jc t).1,.int (jc t).2]):=by
 refine zyw 121 aAK ?_;simp[XX,jc];refine⟨_,U7 8 t 60 ht (by omega) (by omega) (by omega),?_⟩;by_cases h:60<bm 8 t
 .have:=(aja t).2 h;simp[h,this]
 have hn:¬gM 8 t 60<0:=λe=>h ((aja t).1 e);simp[h,hn];refine⟨_,U8 8 t ht (by omega),?_⟩;simp
end Rm
