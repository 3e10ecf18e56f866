/-
  Shared texts of this claim.
-/
import Derived.Test.YtbemlocmcgcbdaaGreatDoorKAP
import Derived.Test.YtbemlocmcgcbdaaGreatDoorKAK
import Derived.Test.YtbemlocmcgcbdaaGreatDoorKAJ
import Derived.Test.YtbemlocmcgcbdaaGreatDoorKAO
set_option linter.defProp false
set_option linter.unusedSimpArgs false
set_option linter.unusedVariables false
noncomputable section
open Go.IntKind (i64)
namespace Rm
open Go Go.Proofs Cx
def acs (R Y:Int)(hR:0<=R/\R<146097)(h1:365*Y<=R-R/1460+R/36524-R/146096)(h2:R-R/1460+R/36524-R/146096<365*Y+365):0<=R-(365*Y+Y/4-Y/100)/\R-(365*Y+Y/4-Y/100)<=500:=by
 have k0:R/36524<=R/1460:=by omega
 have k1:Y/4<=R/1460:=by omega
 have hY:0<=Y:=by omega
 have hc:R/36524=0\/R/36524=1\/R/36524=2\/R/36524=3\/R/36524=4:=by omega
 have k2:25*(R/36524)<=R/1460:=by omega
 refine⟨?_,?_⟩
 .rcases Int.lt_or_le Y (100*(R/36524)) with hy|hy
  .have k3:Y/4<=25*(R/36524)-1:=by omega
   have k4:R/36524-1<=Y/100:=by omega
   omega
  .have k3:R/36524<=Y/100:=by omega
   omega
 .omega
def acu (n:Int)(h:0<=n/\n<=100400):aj T 193 [.int n] (.tup [.int (fA n).1,.int (fA n).2.1,.int (fA n).2.2]):=by
 refine zyw 143 aBx ?_;have w:∀x:Int,-1000000000<=x->x<=1000000000->i64.wrap x=x:=λx a b=>aQ (by omega);have t:∀x y:Int,0<=x->x.tdiv y=x/y:=λx y hx=>AZ hx;have u:∀x y:Int,0<=x->x.tmod y=x%y:=λx y hx=>Py hx;simp[Yj];unfold fA;simp only[];rw[w (n+730425) (by omega) (by omega),u (n+730425) 146097 (by omega),t (n+730425) 146097 (by omega)];have hR:0<=(n+730425)%146097/\(n+730425)%146097<146097:=by omega
 have hE:0<=(n+730425)/146097/\(n+730425)/146097<100:=by omega
 generalize (n+730425)%146097=R at*;generalize (n+730425)/146097=e at*;rw[t R 1460 (by omega),t R 36524 (by omega),t R 146096 (by omega),w (R/1460) (by omega) (by omega),w (R-R/1460) (by omega) (by omega),w (R/36524) (by omega) (by omega),w (R-R/1460+R/36524) (by omega) (by omega),w (R/146096) (by omega) (by omega),w (R-R/1460+R/36524-R/146096) (by omega) (by omega),t (R-R/1460+R/36524-R/146096) 365 (by omega)];have hY:0<=(R-R/1460+R/36524-R/146096)/365/\(R-R/1460+R/36524-R/146096)/365<400:=by omega
 have hD:0<=R-(365*((R-R/1460+R/36524-R/146096)/365)+(R-R/1460+R/36524-R/146096)/365/4-(R-R/1460+R/36524-R/146096)/365/100)/\R-(365*((R-R/1460+R/36524-R/146096)/365)+(R-R/1460+R/36524-R/146096)/365/4-(R-R/1460+R/36524-R/146096)/365/100)<=500:=by
  exact acs R _ hR (by omega) (by omega)
 generalize (R-R/1460+R/36524-R/146096)/365=Y at*;rw[w Y (by omega) (by omega),w (365*Y) (by omega) (by omega),t Y 4 (by omega),t Y 100 (by omega),w (Y/4) (by omega) (by omega),w (Y/100) (by omega) (by omega),w (365*Y+Y/4) (by omega) (by omega),w (365*Y+Y/4-Y/100) (by omega) (by omega),w (R-(365*Y+Y/4-Y/100)) (by omega) (by omega)];generalize R-(365*Y+Y/4-Y/100)=D at*;rw[w (5*D) (by omega) (by omega),w (5*D+2) (by omega) (by omega),t (5*D+2) 153 (by omega)];have hM:0<=(5*D+2)/153/\(5*D+2)/153<=20:=by omega
 generalize (5*D+2)/153=M at*;rw[w M (by omega) (by omega),w (M+3) (by omega) (by omega),w (M+3-12) (by omega) (by omega),w e (by omega) (by omega),w (400*e) (by omega) (by omega),w (Y+400*e) (by omega) (by omega),w (Y+400*e+1) (by omega) (by omega)];rw[w (153*M) (by omega) (by omega),w (153*M+2) (by omega) (by omega),t (153*M+2) 5 (by omega),w ((153*M+2)/5) (by omega) (by omega),w (D-(153*M+2)/5) (by omega) (by omega),w (D-(153*M+2)/5+1) (by omega) (by omega)];refine⟨?_,?_,rfl⟩
 .generalize (if 12<M+3 then M+3-12 else M+3)=m;split<;>rfl
 .split<;>rfl
def akM (d n:Int):∃x e:Int,aj T 160 [.int d,.int n] (.tup [.int x,.int e])/\(e=0->0<=x/\x<=100000):=by
 by_cases h0:fc d=true/\-5000<=n/\n<=5000
 .have hd:0<=d/\d<=100400:=by have:=h0.1;simp[fc] at this;omega
  obtain⟨A,hA⟩:∃A,A=i64.wrap (i64.wrap (i64.wrap (i64.wrap (12*(fA d).1)+(fA d).2.1)-1)+n):=⟨_,rfl⟩
  obtain⟨Y,hY⟩:∃Y,Y=i64.wrap (A.tdiv 12):=⟨_,rfl⟩
  obtain⟨M,hM⟩:∃M,M=i64.wrap (A.tmod 12+1):=⟨_,rfl⟩
  obtain⟨x,e,hD,hb⟩:=akV Y M (if C8 Y M<(fA d).2.2 then C8 Y M else(fA d).2.2);refine⟨x,e,.of_tree rfl abM aku ?_,hb⟩;have n1:¬n< -5000:=by omega
  have n2:¬5000<n:=by omega
  simp[O8,n1,n2];refine⟨_,I1 d,?_⟩;simp[h0.1];refine⟨_,acu d hd,?_⟩;simp[<-hA,<-hY,<-hM];refine⟨_,ME Y M,?_⟩;by_cases hl:C8 Y M<(fA d).2.2
  .simp only[if_pos hl] at hD;simp[hl];refine⟨_,hD,?_⟩;simp
  .simp only[if_neg hl] at hD;simp[hl];refine⟨_,hD,?_⟩;simp
 .refine⟨0,3,.of_tree rfl abM aku ?_,by simp⟩;simp[O8];refine⟨_,I1 d,?_⟩;simp;intro a b c;exact absurd ⟨a,b,c⟩ h0
def RZ (l:List Int)(x:Int):hasB l x=l.contains x:=by
 rw[uh];simp[hasB]
def IN (c:City):Prop:=c.rest.length<=100000/\c.feasts.length<=100000/\c.shut.length<=100000
def ani (n:Int)(h:0<=n/\n<=100400):(0<=(fA n).2.1/\(fA n).2.1<=30)/\-1000<=(fA n).2.2/\(fA n).2.2<=1000:=by
 unfold fA;simp only[];have hR:0<=(n+730425)%146097/\(n+730425)%146097<146097:=by omega
 generalize (n+730425)%146097=R at*;have hD:=acs R ((R-R/1460+R/36524-R/146096)/365) hR (by omega) (by omega);generalize (R-R/1460+R/36524-R/146096)/365=Y at*;generalize R-(365*Y+Y/4-Y/100)=D at*;have hM:0<=(5*D+2)/153/\(5*D+2)/153<=20:=by omega
 generalize (5*D+2)/153=M at*;refine⟨?_,by omega,by omega⟩;split<;>omega
def axX (c:City)(hc:IN c)(n:Int)(h:0<=n/\n<=100400):aj T 197 [gX c,.int n] (.bool (z8 c.rest c.feasts c.shut n)):=by
 refine zyw 151 aBB ?_;simp[Ym];refine⟨_,acu n h,?_⟩;have w5:i64.wrap (n+5)=n+5:=aQ (by omega);have m7:(n+5).tmod 7=(n+5)%7:=Py (by omega);obtain⟨h1,h2,h3⟩:=hc;simp[w5,m7];refine⟨_,xN c.rest ((n+5)%7) (by omega),?_⟩;unfold z8;rw[<-RZ];cases hr:hasB c.rest ((n+5)%7)
 .obtain⟨jN,dA⟩:=ani n h;have wm:i64.wrap (100*(fA n).2.1)=100*(fA n).2.1:=aQ (by omega);have wd:i64.wrap (100*(fA n).2.1+(fA n).2.2)=100*(fA n).2.1+(fA n).2.2:=aQ (by omega);simp[hr,wm,wd];refine⟨_,xN c.feasts _ (by omega),?_⟩;have e1:=RZ c.feasts (100*(fA n).2.1+(fA n).2.2);have e2:=RZ c.shut n;simp at e1 e2;cases hf:hasB c.feasts (100*(fA n).2.1+(fA n).2.2)
  .simp[hf,<-e1,<-e2];exact⟨_,xN c.shut n (by omega),rfl⟩
  .simp[hf,<-e1]
 .simp[hr]
def fe (c:City)(a:Int)(k:Nat):List Int:=((List.range k).map λ(i:Nat)=>a+i).filter (z8 c.rest c.feasts c.shut)
def acD (c:City)(a:Int)(k:Nat):fe c a (k+1)=fe c a k++if z8 c.rest c.feasts c.shut (a+k) then[a+k] else[]:=by
 unfold fe;rw[PL,py,PB]
 congr 1
 cases h:z8 c.rest c.feasts c.shut (a+k)<;>simp[h]
def anK (c:City)(a:Int){k n:Nat}(h:k<=n):∃r,fe c a n=fe c a k++r:=by
 induction n with
 |zero=>obtain rfl:k=0:=by omega
        exact⟨[],by simp⟩
 |succ n ih=>
  by_cases e:k=n+1
  .subst e;exact⟨[],by simp⟩
  .obtain⟨r,hr⟩:=ih (by omega);exact⟨r++_,by rw[acD,hr,qC]⟩
def sM (d:Int):D:=.tup [.int d]
def anL (c:City)(a b:Int):acF [.ref (.int a),.ref (.int b),.ref (gX c)]=(fe c a (b-a+1).toNat).map sM:=by
 have hi:∀l:List Int,zF (ints l)=l:=λl=>by
  show(l.map D.int).map D.i=l;rw[nJ];exact xU l
 show(acE (zF (ints c.rest)) (zF (ints c.feasts)) (zF (ints c.shut)) a b).map _=_;rw[hi,hi,hi];rfl
def anI (c:City)(hc:IN c)(a b:Int)(ha:0<=a)(hb:b<=100400)(mc:a<=100400):aj T 196 [.ref (.int a),.ref (.int b),.ref (gX c)] (.list ((fe c a (b-a+1).toNat).map sM)):=by
 have wA:=anL c a b;rw[<-wA];obtain⟨N,hN⟩:∃N,N=(b-a+1).toNat:=⟨_,rfl⟩
 refine aj.of_it (pc:=(ab uy)) (J:=1000) (k:=1) rfl (λx hx=>?_) (λm hm=>?_)
 .rw[wA] at hx;obtain⟨i,_,rfl⟩:=cd.1 hx;exact⟨_,rfl,rfl⟩
 .rw[wA] at hm ⊢;rw[<-hN] at hm ⊢;refine Pj ?_;rw[aBy];simp[Yl];refine aK.forLoop (α:=Nat) (λk vr vo=>k<=N/\vr=[.int (a+k)]/\vo=[.list ((fe c a k).map sM)]/\(fe c a k).length<=m) (λk=>N-k) 0 ?_ ?_
  .simp[aoZ,fe]
  .rintro k vr vo ⟨hk,rfl,rfl,oz⟩;by_cases af:k<N
   .have hle:a+(k:Int)<=b:=by omega
    have jh:i64.wrap (a+(k:Int)+1)=a+((k+1:Nat):Int):=by rw[aQ (by omega)];omega
    have eG:=(axX c hc (a+k) (by omega))
    have CZ:=acD c a k;obtain⟨r,hr⟩:=anK c a (k:=k+1) (n:=N) af;simp[ajw,N7,hle];refine⟨_,eG.yld (by decide),?_⟩;cases hi:z8 c.rest c.feasts c.shut (a+k)
    .simp[hi] at CZ ⊢;exact⟨k+1,by omega,by omega,jh,by rw[CZ],by rw[CZ];exact oz⟩
    .simp[hi] at CZ ⊢;have hlen:(fe c a (k+1)).length=(fe c a k).length+1:=by rw[CZ];simp
     have uT:(fe c a k).map sM++[D.tup [D.int (a+k)]]=(fe c a (k+1)).map sM:=by rw[CZ,py];rfl
     have Gw:(fe c a (k+1)).map sM=((fe c a N).map sM).take ((fe c a k).length+1):=by
      rw[hr,py,List.take_append_of_le_length (by simp[hlen]),xY (by simp[hlen])]
     have bh:(fe c a k).length<((fe c a N).map sM).length:=by rw[hr];simp[hlen];omega
     rw[uT];refine⟨_,aj.answer Gw bh oz,?_⟩;by_cases zj:(fe c a k).length<m
     .simp[zj];exact⟨k+1,by omega,by omega,jh,rfl,by omega⟩
     .obtain rfl:(fe c a k).length=m:=by omega
      simp;rw[Gw]
   .obtain rfl:k=N:=by omega
    have hle:¬a+(k:Int)<=b:=by omega
    simp[ajw,N7,hle];rw[xY (by simp;omega)]
def anM (c:City)(a b:Int):aj T 162 [gX c,.int a,.int b] (.clo 196 [.ref (.int a),.ref (.int b),.ref (gX c)]):=by
 refine zyw 150 aBz ?_;simp[Yk]
def oh (d:Int):Int:=if 100000<d+400 then 100000 else d+400
def jA (c:City)(d:Int):Int×Int:=
 if fc d=false then(0,3) else match fe c d (oh d-d+1).toNat with|[]=>(0,3)|x::_=>(x,0)
def anJ {c:City}{a:Int}{k:Nat}{x:Int}(h:x∈fe c a k):a<=x/\x<a+k:=by
 unfold fe at h;obtain⟨h1,_⟩:=dK.mp h;obtain⟨i,hi,rfl⟩:=cd.mp h1;have:=fR.mp hi;omega
def agz {c:City}{d:Int}(h:(jA c d).2=0):fc d=true/\d<=(jA c d).1/\(jA c d).1<=100000:=by
 unfold jA at h ⊢;cases hd:fc d
 .simp[hd] at h
 .simp only[hd] at h ⊢;cases hk:fe c d (oh d-d+1).toNat with
  |nil=>rw[hk] at h;simp at h
  |cons x l=>
   have hm:x∈fe c d (oh d-d+1).toNat:=by rw[hk];simp
   have:=anJ hm;have he:oh d<=100000:=by unfold oh;split<;>omega
   simp[fc] at hd;simp;unfold oh at*;omega
def ale (c:City)(hc:IN c)(d:Int):aj T 123 [gX c,.int d] (.tup [.int (jA c d).1,.int (jA c d).2]):=by
 refine zyw 149 aBw ?_;simp[Yi];refine⟨_,I1 d,?_⟩;cases hd:fc d
 .simp[jA,hd]
 have gy:0<=d/\d<=100000:=by simpa [fc] using hd
 have hw:i64.wrap (d+400)=d+400:=aQ (by omega);have he:oh d<=100000:=by unfold oh;split<;>omega
 simp[hd,hw];have hE:(if 100000<d+400 then D.int 100000 else D.int (d+400))=D.int (oh d):=by unfold oh;split<;>rfl
 rw[hE];refine⟨_,anM c d (oh d),_,_,rfl,_,anI c hc d (oh d) gy.1 (by omega) (by omega),?_⟩;cases hk:fe c d (oh d-d+1).toNat with
 |nil=>
  have hn:jA c d=(0,3):=by unfold jA;simp[hd,hk]
  rw[hn];refine aK.eachR [] (by simp) (λ_ vo=>vo=[.agg [.int 0],.agg [.int 0]]) ?_ (λk x vo hx hi=>by simp at hx) (λvo hi=>?_)
  .simp
  .subst hi;simp
 |cons x l=>
  have hn:jA c d=(x,0):=by unfold jA;simp[hd,hk]
  rw[hn];refine aK.eachR ((x::l).map sM) (by simp) (λk vo=>k=0/\vo=[.agg [.int 0],.agg [.int 0]]) ?_ (λk y vo hx hi=>?_) (λvo hi=>?_)
  .simp
  .obtain⟨rfl,rfl⟩:=hi;simp at hx;subst hx;simp[azq,Wv,sM];rfl
  .exact absurd hi.1 (by simp)
def OR (o:Int)(d:Int)(h:Halt):Int:=if(h.order=o/\h.fr<=d)/\d<=h.to then h.to+1 else d
def nz (r:Realm)(o d:Int)(k:Nat):Int:=(r.halts.take k).foldl (OR o) d
def akf (r:Realm)(o d:Int){k:Nat}(hk:k<r.halts.length):nz r o d (k+1)=OR o (nz r o d k) r.halts[k]:=by
 unfold nz;rw[iS hk,sw];rfl
def xP (r:Realm):Prop:=r.halts.length<=100000/\∀h,h∈r.halts->0<=h.fr/\h.to<=100000
def XL {r:Realm}(hh:xP r)(o d:Int)(hd:d<=100001):∀k,k<=r.halts.length->d<=nz r o d k/\nz r o d k<=100001
 |0,_=>⟨by simp[nz],by simpa [nz] using hd⟩
 |k+1,hk=>by
  obtain⟨h1,h2⟩:=XL hh o d hd k (by omega);rw[akf r o d (by omega)];have:=hh.2 _ (bQ (show k<r.halts.length by omega));unfold OR;split<;>omega
def AG (r:Realm)(o:Int):Nat->Int->Int
 |0,d=>d
 |n+1,d=>if nz r o d r.halts.length=d then d else AG r o n (nz r o d r.halts.length)
def jZ (r:Realm)(o d:Int):Int:=AG r o (100002-d).toNat d
def XM {r:Realm}(hh:xP r)(o:Int):∀(n:Nat) (d:Int),d<=100001->d<=AG r o n d/\AG r o n d<=100001
 |0,d,hd=>⟨l7 _,hd⟩
 |n+1,d,hd=>by
  obtain⟨h1,h2⟩:=XL hh o d hd r.halts.length (aZ _);unfold AG;split
  .omega
  .have:=XM hh o n _ h2;omega
def aAB (r:Realm)(hh:xP r)(o d:Int)(h0:0<=d)(hd:d<=100001):aj T 122 [aV r,.int o,.int d] (.int (jZ r o d)):=by
 refine zyw 148 aDz ?_;simp[aab];refine aK.forLoop (α:=Int×Bool×Nat) (λs vr vo=>vr=[.int s.1,.bool s.2.1]/\vo=[]/\d<=s.1/\s.1<=100001/\(s.2.1=true->(100002-s.1).toNat<=s.2.2)/\(s.2.1=true->AG r o s.2.2 s.1=jZ r o d)/\(s.2.1=false->s.1=jZ r o d)) (λs=>2*(100001-s.1).toNat+(if s.2.1 then 1 else 0)) (d,true,(100002-d).toNat) ?_ ?_
 .simp;exact⟨by omega,rfl⟩
 .rintro⟨e,ch,n⟩ vr vo ⟨rfl,rfl,h1,h2,h3,h4,h5⟩;simp only at*;cases ch
  .simp[ajM,Oz];exact h5 rfl
  .have h3:=h3 rfl;have h4:=h4 rfl;obtain⟨n,rfl⟩:∃m,n=m+1:=⟨n-1,by omega⟩
   have cg:=XL hh o e h2;simp[ajM,Oz];refine aK.forRounds r.halts.length (λk=>[.int (nz r o e k),.bool (decide (e<nz r o e k)),.int k]) (λ_=>[]) ?_ (λk hk=>?_) ?_
   .simp[nz]
   .have hw:=bq hk (by have:=hh.1;omega);have ct:=cg k (by omega);have zw:=hh.2 _ (bQ hk);rw[akf r o e hk];unfold OR;generalize nz r o e k=x at*;by_cases hc:(r.halts[k].order=o/\r.halts[k].fr<=x)/\x<=r.halts[k].to
    .have cZ:i64.wrap (r.halts[k].to+1)=r.halts[k].to+1:=aQ (by omega);simp[Oy,DU,hk,hw,hc,cZ];omega
    .simp[Oy,DU,hk,hw,hc]
   .have hE:=cg r.halts.length (aZ _);unfold AG at h4;generalize nz r o e r.halts.length=x at*;by_cases hx:x=e
    .rw[if_pos hx] at h4;subst hx;simp[Oy,DU];exact⟨x,by omega,rfl,h1,h2,h4⟩
    .rw[if_neg hx] at h4;have af:e<x:=by omega
     simp[Oy,DU,af];exact⟨x,by omega,rfl,by omega,by omega,n,by omega,h4⟩
def ua (r:Realm)(c:City)(o:Int):Nat->Int->Int×Int
 |0,d=>(d,0)
 |n+1,d=>
  if(jA c (jZ r o d)).2≠0 then(0,3)
  else if(jA c (jZ r o d)).1=jZ r o d then(jZ r o d,0)
  else ua r c o n (jA c (jZ r o d)).1
def akb (r:Realm)(c:City)(o:Int)(n:Nat)(d:Int):ua r c o (n+1) d=
 if(jA c (jZ r o d)).2≠0 then(0,3)
 else if(jA c (jZ r o d)).1=jZ r o d then(jZ r o d,0)
 else ua r c o n (jA c (jZ r o d)).1:=rfl
def vt (r:Realm)(city d:Int):Int×Int:=ua r (r.cities.getD city.toNat default) (gG r city) (100002-d).toNat d
def akc (r:Realm)(hh:xP r)(city d:Int)(hc:0<=city/\city<r.cities.length)(hs:∀c,c∈r.cities->IN c)(h0:0<=d)(hd:d<=100001):aj T 81 [aV r,.int city,.int d] (.tup [.int (vt r city d).1,.int (vt r city d).2]):=by
 refine zyw 147 aDy ?_;simp[aaa];refine⟨_,rV r city,?_⟩;have bh:city.toNat<r.cities.length:=by omega
 have hcg:r.cities.getD city.toNat default=r.cities[city.toNat]:=by simp[bh]
 have hsc:=hs _ (bQ bh);have hF:vt r city d=ua r r.cities[city.toNat] (gG r city) (100002-d).toNat d:=by unfold vt;rw[hcg]
 rw[hF];refine aK.forLoop (α:=Int×Nat) (λs vr vo=>(∃a b,vr=[.int s.1,a,b])/\vo=[]/\0<=s.1/\s.1<=100001/\(100002-s.1).toNat<=s.2/\ua r r.cities[city.toNat] (gG r city) s.2 s.1=ua r r.cities[city.toNat] (gG r city) (100002-d).toNat d) (λs=>s.2) (d,(100002-d).toNat) ?_ ?_
 .simp;omega
 .rintro⟨e,n⟩ vr vo ⟨⟨a,b,rfl⟩,rfl,h1,h2,h3,h4⟩;simp only at*;obtain⟨n,rfl⟩:∃m,n=m+1:=⟨n-1,by omega⟩
  rw[<-h4];have CY:=XM hh (gG r city) (100002-e).toNat e h2;have hsr:=aAB r hh (gG r city) e h1 h2;rw[akb];change e<=jZ r (gG r city) e/\jZ r (gG r city) e<=100001 at CY;generalize jZ r (gG r city) e=x at*;have SG:=ale r.cities[city.toNat] hsc x;have pR:=agz (c:=r.cities[city.toNat]) (d:=x);generalize jA r.cities[city.toNat] x=N at*;obtain⟨y,er⟩:=N;simp only at SG pR;simp[azI,Xk];refine⟨_,hsr,?_⟩;simp[bh,hc];refine⟨_,SG,?_⟩;by_cases he:er=0
  .obtain⟨g1,g2,g3⟩:=pR he;by_cases hy:y=x
   .simp[he,hy]
   .simp[he,hy];exact⟨y,n,by omega,rfl,by omega,by omega,by omega,rfl⟩
  .simp[he]
structure RightD (r:Realm):Prop where
 small:Small r
 halts:xP r
def RightD.cities {r:Realm}(h:RightD r)(c:City)(hc:c∈r.cities):IN c:=by
 obtain⟨h1,h2,h3,_⟩:=h.small.city c hc;exact⟨by omega,by omega,by omega⟩
def Ey (d:Int)(t:Tenor):∃n e:Int,aj T 120 [.int d,pH t] (.tup [.int n,.int e]):=by
 by_cases h0:t.n<0
 .refine⟨0,3,.of_tree rfl JC Pg ?_⟩;simp[Ed,h0]
 by_cases h1:20000<t.n
 .refine⟨0,3,.of_tree rfl JC Pg ?_⟩;simp[Ed,h0,h1]
 by_cases h2:t.unit=1
 .obtain⟨n,e,h,_⟩:=akM d t.n;refine⟨n,e,.of_tree rfl JC Pg ?_⟩;simp[Ed,h0,h1,h2];refine⟨_,h,?_⟩;simp
 .refine⟨i64.wrap (d+t.n),0,.of_tree rfl JC Pg ?_⟩;simp[Ed,h0,h1,h2]
def amm (r:Realm)(hr:RightD r)(b:Bill)(seen:Int):∃n e:Int,aj T 80 [aV r,ed b,.int seen] (.tup [.int n,.int e]):=by
 have Tj:D.agg [D.int b.tenor.kind,D.int b.tenor.n,D.int b.tenor.unit]=pH b.tenor:=rfl;by_cases h0:b.tenor.kind=0
 .refine⟨seen,0,.of_tree rfl Bd Ee ?_⟩;simp[qs,h0]
 by_cases h1:b.tenor.kind=1
 .obtain⟨n,e,h⟩:=Ey seen b.tenor;refine⟨n,e,.of_tree rfl Bd Ee ?_⟩;have cC:(b.tenor.kind=1)=True:=eq_true h1;simp[qs,h0,cC];refine⟨_,h,?_⟩;simp
 by_cases h2:b.tenor.kind=2
 .obtain⟨n,e,h⟩:=Ey b.day b.tenor;refine⟨n,e,.of_tree rfl Bd Ee ?_⟩;have gZ:(b.tenor.kind=2)=True:=eq_true h2;simp[qs,h0,h1,gZ];refine⟨_,h,?_⟩;simp
 by_cases h4:b.tenor.kind=4
 .obtain⟨n,e,h,_⟩:=alp r b.city b.pay (by have:=hr.small.us;omega);refine⟨i64.wrap (b.day+n),e,.of_tree rfl Bd Ee ?_⟩;have ox:(b.tenor.kind=4)=True:=eq_true h4;simp[qs,h0,h1,h2,ox];refine⟨_,h,?_⟩;simp
 .refine⟨b.tenor.n,0,.of_tree rfl Bd Ee ?_⟩;simp[qs,h0,h1,h2,h4]
def aj.ex_of_tree {tab:Nat->Option PC}{ext:Nat->Option (aO->List D->Option D)}{f:Nat}{pc:PC}{t:PT}{ds:List D}{P:D->Prop}(hx:ext f=none)(ht:tab f=some pc)(he:tree pc=t)
 (h:aI (cP tab ext) t (lF ds) (λx=>∃d,x=.ret d/\P d)):∃d,aj (cP tab ext) f ds d/\P d:=by
 subst he;obtain⟨x,⟨d,rfl,hd⟩,n0,hn⟩:=akB (Nw ⟨λ_ _ _ h=>(by obtain⟨_,h,_⟩:=h;cases h),λ_ _ _ _ _ _ h=>(by obtain⟨_,h,_⟩:=h;cases h),λ_ h=>h⟩ h);exact⟨d,.of_pc hx ht ⟨.ret d,rfl,n0,hn⟩,hd⟩
def Jq (d:D):Prop:=∃n e:Int,d=.tup [.int n,.int e]
@[simp] def aGB (n e:Int):Jq (.tup [.int n,.int e])=True:=eq_true ⟨n,e,rfl⟩
def AV (r:Realm)(hr:RightD r)(b:Bill)(seen bX:Int):∃d,aj T 41 [aV r,ed b,.int seen,.int bX] d/\Jq d:=by
 have Tj:D.agg [D.int b.tenor.kind,D.int b.tenor.n,D.int b.tenor.unit]=pH b.tenor:=rfl;have oy:=Xq r hr.small;refine aj.ex_of_tree rfl ab0 aky ?_;simp[Pf];refine⟨_,oy,?_⟩;by_cases h0:iV r=0
 case neg=>simp[h0]
 simp[h0];refine⟨_,Mx r b.city,?_⟩;cases h1:aC b.city r.cities.length
 .simp[h1]
 simp[h1];refine⟨_,Mx r b.pay,?_⟩;cases h2:aC b.pay r.cities.length
 .simp[h2]
 simp[h2];refine⟨_,C6 b.day,?_⟩;cases h3:fc b.day
 .simp[h3]
 simp[h3];intro _ _ _ _;have hp:0<=b.pay/\b.pay<r.cities.length:=by simpa [aC] using h2
 have fin:0<=bX->bX<=20000->∃d,aj T 80 [aV r,ed b,D.int seen] d/\
  if(d.tget 1).i=0 then ∃d1,aj T 78 [d.tget 0] d1/\(d1.b=true->i64.wrap ((d.tget 0).i+bX)<=100000->
        ∃d2,aj T 81 [aV r,D.int b.pay,D.int (i64.wrap ((d.tget 0).i+bX))] d2/\Jq (D.tup [d2.tget 0,d2.tget 1]))
  else Jq (D.tup [D.int 0,d.tget 1]):=by
  intro zb kO;obtain⟨n,e,h⟩:=amm r hr b seen;refine⟨_,h,?_⟩;by_cases he:e=0
  .simp[he];refine⟨_,C6 n,?_⟩;cases hd:fc n
   .simp[hd]
   have gy:0<=n/\n<=100000:=by simpa [fc] using hd
   have hw:i64.wrap (n+bX)=n+bX:=aQ (by omega);simp[hd,hw];intro hle;refine⟨_,akc r hr.halts b.pay (n+bX) hp hr.cities (by omega) (by omega),?_⟩;simp
  .simp[he]
 by_cases hs:seen=-1
 .simp[hs] at fin ⊢;intro zb kO;refine⟨_,Jp b.tenor,?_⟩;simp;intro _;exact fin zb kO
 .simp[hs] at fin ⊢;refine⟨_,C6 seen,?_⟩;cases hk:fc seen
  .simp[hk]
  simp[hk];intro zb kO;exact⟨⟨_,Jp b.tenor⟩,fin zb kO⟩
def vQ (r:Realm)(b:Bill)(seen bX:Int):Int×Int:=
 open Classical in if h:RightD r then((AV r h b seen bX).choose_spec.2.choose,(AV r h b seen bX).choose_spec.2.choose_spec.choose) else(0,0)
def aa1 (r:Realm)(hr:RightD r)(b:Bill)(seen bX:Int):aj T 41 [aV r,ed b,.int seen,.int bX] (.tup [.int (vQ r b seen bX).1,.int (vQ r b seen bX).2]):=by
 have h:=(AV r hr b seen bX).choose_spec.2.choose_spec.choose_spec;have h1:=(AV r hr b seen bX).choose_spec.1;rw[h] at h1;have e:vQ r b seen bX=((AV r hr b seen bX).choose_spec.2.choose,(AV r hr b seen bX).choose_spec.2.choose_spec.choose):=by unfold vQ;rw[dif_pos hr]
 rw[e];exact h1
def eI (r:Realm)(forum:Int)(f:File)(day:Int):Int:=
 if(bT f day).signs=[] then-1
 else if(vQ r f.bill (rZ (bT f day)) (max (va (nM r forum 6 (bT f day) day)) 0)).2≠0 then-1
 else(vQ r f.bill (rZ (bT f day)) (max (va (nM r forum 6 (bT f day) day)) 0)).1
@[simp] def aKN (x:File)(a0 a1 a2 a3 a4 a5 a6 a7 a8 a9 mJ mK a12 mL mM pA pB a17 qH:D):(dI [a0,a1,a2,a3,a4,a5,a6,a7,a8,a9,mJ,mK,a12,mL,mM,pA,pB,a17,qH] 0 [.int x.bill.drawer,.int x.bill.drawee,.int x.bill.payee,.int x.bill.sum,.int x.bill.currency,.int x.bill.tenor.kind,.int x.bill.tenor.n,.int x.bill.tenor.unit,.int x.bill.day,.int x.bill.city,.int x.bill.pay,.int x.bill.need,.int x.bill.rate,.int x.bill.flags,.int x.bill.parts,signs x.signs,alters x.alters,acts x.acts,facts x.facts])[15]?.getD D.none=signs x.signs:=zyz
def Jl (r:Realm)(hr:Right r)(hd:RightD r)(forum:Int)(f:File)(day:Int)(hf:FewS f):aj T 11 [aV r,.int forum,cr f,.int day] (.int (eI r forum f day)):=by
 refine zyw 131 aBf ?_;simp[X3];refine⟨_,Xr f day (by have:=hf.signs;omega) (by have:=hf.acts;omega) (by have:=hf.alters;omega) (by have:=hf.facts;omega),?_⟩;have hg:=hf.at_ day;have hb:(bT f day).bill=f.bill:=rfl;unfold eI;generalize bT f day=g at*;simp;by_cases h0:g.signs=[]
 .simp[h0]
 simp[h0];refine⟨_,abJ r hr forum 6 g day hg,_,alO _,_,azR g (by have:=hg.signs;omega) (by have:=hg.acts;omega),?_⟩;have hm:(if(D.int (va (nM r forum 6 g day))).i<0 then D.int 0 else D.int (va (nM r forum 6 g day)))=D.int (max (va (nM r forum 6 g day)) 0):=by
  simp only[anX];split
  .rw[Int.max_eq_right (by omega)]
  .rw[Int.max_eq_left (by omega)]
 rw[hm,hb];refine⟨_,aa1 r hd f.bill _ _,?_⟩;by_cases he:(vQ r f.bill (rZ g) (max (va (nM r forum 6 g day)) 0)).2=0<;>simp[he]
def aw9 (y:Nat)(h:y<18446744073709551616):aj T 153 [u y] (.int ((64-wP y:Nat):Int)):=by
 refine zyw 168 aBt ?_;have hb:=(afG h).2.2.2;have hw:i64.wrap (64-(wP y:Nat))=((64-wP y:Nat):Int):=by rw[aQ (by omega)];omega
 simp[Yf];refine⟨_,auv y h,?_⟩;simp[hw]
set_option maxHeartbeats 4000000 in
def an0 (hi lo y:Nat)(hy:0<y)(CL:hi<y)(pQ:lo<18446744073709551616)(wG:y<18446744073709551616):
 aj T 117 [u hi,u lo,u y] (.tup [u ((hi*18446744073709551616+lo)/y),u ((hi*18446744073709551616+lo)%y)]):=by
 refine zyw 167 aBs ?_;have c1:¬y=0:=by omega
 have c2:¬y<=hi:=by omega
 by_cases c3:hi=0
 .subst c3;have hq:IntKind.u64.wrap ((lo:Int)/(y:Int))=((lo/y:Nat):Int):=by
   rw[<-Int.natCast_ediv];exact j3 (abl (abk ..) pQ)
  have hr:((lo:Int).tmod (y:Int))=((lo%y:Nat):Int):=(Int.ofNat_tmod lo y).symm;simp[O7,c1,c2,hq,hr,-Int.natCast_emod]
 .have hb:=afG wG;obtain⟨L,hL⟩:∃L,L=wP y:=⟨_,rfl⟩
  have wk:=aw9 y wG;rw[<-hL] at hb wk;have LF:0<L:=by
   rcases Eu L with h|h
   .have:=hb.1 h;omega
   .exact h
  have hLs:=hb.2.2.2;obtain⟨s,hs⟩:∃s,s=64-L:=⟨_,rfl⟩
  obtain⟨s',eh⟩:∃s',s'=L:=⟨_,rfl⟩
  rw[<-hs] at wk;have Gn:2^s'*2^s=18446744073709551616:=by rw[<-PQ,show s'+s=64 by omega]
  have aeS:2^(L-1)*2^s=9223372036854775808:=by rw[<-PQ,show L-1+s=63 by omega]
  have aL:y*2^s<18446744073709551616:=by rw[<-Gn];exact Nat.mul_lt_mul_of_pos_right (by rw[eh];exact hb.2.2.1) (ya s)
  have iL:9223372036854775808<=y*2^s:=by rw[<-aeS];exact kc _ (hb.2.1 LF)
  have ws:IntKind.u64.wrap (s:Int)=s:=j3 (by omega);have nQ:bS .shl .u64 (y:Int) (s:Int)=((y*2^s:Nat):Int):=by rw[XH y s (by omega),PO aL]
  have aex:lo/2^s'<2^s:=by rw[xZ (ya s'),x9,Gn];exact pQ
  have wv:0<2^s:=ya s;have asc:hi*2^s+2^s<=y*2^s:=by rw[<-Nat.succ_mul];exact kc _ CL
  have nT:bS .shl .u64 (hi:Int) (s:Int)=((hi*2^s:Nat):Int):=by rw[XH hi s (by omega),PO (by omega)]
  have nU:IntKind.u64.wrap (64-(s:Int))=s':=by rw[kI (by omega)];omega
  have nV:bS .shr .u64 (lo:Int) (s':Int)=((lo/2^s':Nat):Int):=IM lo s' (by omega);have nW:bS .or .u64 ((hi*2^s:Nat):Int) ((lo/2^s':Nat):Int)=((hi*2^s+lo/2^s':Nat):Int):=ax1 _ _ s (by omega) aex (Nat.mul_mod_left ..) (by omega);have nX:bS .shl .u64 (lo:Int) (s:Int)=((lo*2^s%18446744073709551616:Nat):Int):=XH lo s (by omega);have law:((hi*2^s+lo/2^s')*18446744073709551616+lo*2^s%18446744073709551616)/(y*2^s)=(hi*18446744073709551616+lo)/y:=by
   have h1:lo*2^s/18446744073709551616=lo/2^s':=by rw[<-Gn];exact abo _ _ (ya s)
   have h2:=A6 (lo*2^s) 18446744073709551616;rw[h1] at h2;have h3:(hi*2^s+lo/2^s')*18446744073709551616+lo*2^s%18446744073709551616=(hi*18446744073709551616+lo)*2^s:=by
        rw[ka,ka,Nat.mul_right_comm hi];omega
   rw[h3];exact abo _ _ (ya s)
  have afK:((hi*2^s+lo/2^s')*18446744073709551616+lo*2^s%18446744073709551616)%(y*2^s)/2^s=(hi*18446744073709551616+lo)%y:=by
   have h1:lo*2^s/18446744073709551616=lo/2^s':=by rw[<-Gn];exact abo _ _ (ya s)
   have h2:=A6 (lo*2^s) 18446744073709551616;rw[h1] at h2;have h3:(hi*2^s+lo/2^s')*18446744073709551616+lo*2^s%18446744073709551616=(hi*18446744073709551616+lo)*2^s:=by
        rw[ka,ka,Nat.mul_right_comm hi];omega
   rw[h3,Nat.mul_mod_mul_right];exact Nat.mul_div_cancel _ (ya s)
  have hu:hi*2^s+lo/2^s'<y*2^s:=by omega
  have mi:lo*2^s%18446744073709551616<18446744073709551616:=qG _ (by decide);clear hb Gn aeS aex asc hL;rw[<-law,<-afK];clear law afK;generalize y*2^s=v at*;generalize hi*2^s+lo/2^s'=u32 at*;generalize lo*2^s%18446744073709551616=un at*;have nR:bS .shr .u64 (v:Int) 32=((v/4294967296:Nat):Int):=dy v;have nS:bS .and .u64 (v:Int) 4294967295=((v%4294967296:Nat):Int):=EA v aL;have nY:bS .shr .u64 (un:Int) 32=((un/4294967296:Nat):Int):=dy un;have nZ:bS .and .u64 (un:Int) 4294967295=((un%4294967296:Nat):Int):=EA un mi;have hv:v=v/4294967296*4294967296+v%4294967296:=by omega
  have hn:un=un/4294967296*4294967296+un%4294967296:=by omega
  have ae3:2147483648<=v/4294967296:=by omega
  have ae4:v/4294967296<4294967296:=by omega
  have eT:v%4294967296<4294967296:=by omega
  have kQ:un/4294967296<4294967296:=by omega
  have Sz:un%4294967296<4294967296:=by omega
  generalize v/4294967296=v1 at*;generalize v%4294967296=v0 at*;generalize un/4294967296=n1 at*;generalize un%4294967296=n0 at*;have gu:¬v1=0:=by omega
  have oa:IntKind.u64.wrap ((u32:Int)/(v1:Int))=((u32/v1:Nat):Int):=by
   rw[<-Int.natCast_ediv];exact j3 (abl (abk ..) (by omega))
  have Mk:u32/v1*v1+u32%v1=u32:=Et u32 v1;have oc:IntKind.u64.wrap (((u32/v1:Nat):Int)*(v1:Int))=((u32/v1*v1:Nat):Int):=by
   rw[<-Int.natCast_mul];exact j3 (by omega)
  have od:IntKind.u64.wrap ((u32:Int)-((u32/v1*v1:Nat):Int))=((u32%v1:Nat):Int):=by
   rw[kI (by omega)];omega
  simp[O7,c1,c2,c3,-dy,-Int.natCast_add,-Int.natCast_mul,-Int.natCast_ediv,-Int.natCast_emod];refine⟨_,wk,?_⟩;simp[-dy,-Int.natCast_add,-Int.natCast_mul,-Int.natCast_ediv,-Int.natCast_emod,ws,nQ,nR,nS,nT,nU,nV,nW,nX,nY,nZ,gu,oa,oc,od];refine auC _ (u32/v1) (u32%v1) v1 v0 u32 n1 eT ae3 ae4 kQ (by omega) rfl rfl (by simp[-dy,-Int.natCast_add,-Int.natCast_mul,-Int.natCast_ediv,-Int.natCast_emod,ws,nQ,nR,nS,nT,nU,nV,nW,nX,nY,nZ,gu,oa,oc,od]) (by simp[-dy,-Int.natCast_add,-Int.natCast_mul,-Int.natCast_ediv,-Int.natCast_emod,ws,nQ,nR,nS,nT,nU,nV,nW,nX,nY,nZ,gu,oa,oc,od]) (by simp[-dy,-Int.natCast_add,-Int.natCast_mul,-Int.natCast_ediv,-Int.natCast_emod,ws,nQ,nR,nS,nT,nU,nV,nW,nX,nY,nZ,gu,oa,oc,od]) (by simp[-dy,-Int.natCast_add,-Int.natCast_mul,-Int.natCast_ediv,-Int.natCast_emod,ws,nQ,nR,nS,nT,nU,nV,nW,nX,nY,nZ,gu,oa,oc,od]) (by simp[-dy,-Int.natCast_add,-Int.natCast_mul,-Int.natCast_ediv,-Int.natCast_emod,ws,nQ,nR,nS,nT,nU,nV,nW,nX,nY,nZ,gu,oa,oc,od]) _ _ λO hq hk=>?_;have k2:O.r 2=u v:=by rw[hk 2 (by simp)];simp[-dy,-Int.natCast_add,-Int.natCast_mul,-Int.natCast_ediv,-Int.natCast_emod,ws,nQ,nR,nS,nT,nU,nV,nW,nX,nY,nZ,gu,oa,oc,od]
  have k8:O.r 8=u s:=by rw[hk 8 (by simp)];simp[-dy,-Int.natCast_add,-Int.natCast_mul,-Int.natCast_ediv,-Int.natCast_emod,ws,nQ,nR,nS,nT,nU,nV,nW,nX,nY,nZ,gu,oa,oc,od]
  have k9:O.r 9=u v1:=by rw[hk 9 (by simp)];simp[-dy,-Int.natCast_add,-Int.natCast_mul,-Int.natCast_ediv,-Int.natCast_emod,ws,nQ,nR,nS,nT,nU,nV,nW,nX,nY,nZ,gu,oa,oc,od]
  have tB:O.r 10=u v0:=by rw[hk 10 (by simp)];simp[-dy,-Int.natCast_add,-Int.natCast_mul,-Int.natCast_ediv,-Int.natCast_emod,ws,nQ,nR,nS,nT,nU,nV,nW,nX,nY,nZ,gu,oa,oc,od]
  have rB:O.r 11=u u32:=by rw[hk 11 (by simp)];simp[-dy,-Int.natCast_add,-Int.natCast_mul,-Int.natCast_ediv,-Int.natCast_emod,ws,nQ,nR,nS,nT,nU,nV,nW,nX,nY,nZ,gu,oa,oc,od]
  have rC:O.r 13=u n1:=by rw[hk 13 (by simp)];simp[-dy,-Int.natCast_add,-Int.natCast_mul,-Int.natCast_ediv,-Int.natCast_emod,ws,nQ,nR,nS,nT,nU,nV,nW,nX,nY,nZ,gu,oa,oc,od]
  have tC:O.r 14=u n0:=by rw[hk 14 (by simp)];simp[-dy,-Int.natCast_add,-Int.natCast_mul,-Int.natCast_ediv,-Int.natCast_emod,ws,nQ,nR,nS,nT,nU,nV,nW,nX,nY,nZ,gu,oa,oc,od]
  clear hk;rw[<-hv] at hq;obtain⟨q1,Gp⟩:∃q1,q1=(u32*4294967296+n1)/v:=⟨_,rfl⟩
  obtain⟨R,hR⟩:∃R,R=(u32*4294967296+n1)%v:=⟨_,rfl⟩
  rw[<-Gp] at hq;have Gz:0<v:=by omega
  have aI9:R<v:=by rw[hR];exact qG _ Gz
  have hqR:q1*v+R=u32*4294967296+n1:=by rw[Gp,hR];exact Et _ v
  have aJL:q1<4294967296:=by rw[Gp,xZ Gz];omega
  have qX:IntKind.u64.wrap (IntKind.u64.wrap (IntKind.u64.wrap ((u32:Int)*4294967296)+(n1:Int))-IntKind.u64.wrap ((q1:Int)*(v:Int)))=(R:Int):=by
   have h1:(q1:Int)*(v:Int)+(R:Int)=(u32:Int)*4294967296+n1:=by rw[<-Int.natCast_mul];omega
   simp only[I3];generalize (q1:Int)*(v:Int)=M at*;omega
  have qY:IntKind.u64.wrap ((R:Int)/(v1:Int))=((R/v1:Nat):Int):=by
   rw[<-Int.natCast_ediv];exact j3 (abl (abk ..) (by omega))
  have aJP:R/v1*v1+R%v1=R:=Et R v1;have qV:IntKind.u64.wrap (((R/v1:Nat):Int)*(v1:Int))=((R/v1*v1:Nat):Int):=by
   rw[<-Int.natCast_mul];exact j3 (by omega)
  have qW:IntKind.u64.wrap ((R:Int)-((R/v1*v1:Nat):Int))=((R%v1:Nat):Int):=by
   rw[kI (by omega)];omega
  simp[-dy,-Int.natCast_add,-Int.natCast_mul,-Int.natCast_ediv,-Int.natCast_emod,k2,k9,rB,rC,hq,gu,qX,qY,qV,qW];refine auD _ (R/v1) (R%v1) v1 v0 R n0 eT ae3 ae4 Sz (by omega) rfl rfl (by simp[-dy,-Int.natCast_add,-Int.natCast_mul,-Int.natCast_ediv,-Int.natCast_emod,k2,k8,k9,tB,rB,rC,tC,hq,gu,qX,qY,qV,qW]) (by simp[-dy,-Int.natCast_add,-Int.natCast_mul,-Int.natCast_ediv,-Int.natCast_emod,k2,k8,k9,tB,rB,rC,tC,hq,gu,qX,qY,qV,qW]) (by simp[-dy,-Int.natCast_add,-Int.natCast_mul,-Int.natCast_ediv,-Int.natCast_emod,k2,k8,k9,tB,rB,rC,tC,hq,gu,qX,qY,qV,qW]) (by simp[-dy,-Int.natCast_add,-Int.natCast_mul,-Int.natCast_ediv,-Int.natCast_emod,k2,k8,k9,tB,rB,rC,tC,hq,gu,qX,qY,qV,qW]) (by simp[-dy,-Int.natCast_add,-Int.natCast_mul,-Int.natCast_ediv,-Int.natCast_emod,k2,k8,k9,tB,rB,rC,tC,hq,gu,qX,qY,qV,qW]) _ _ λV ie hk=>?_;have j15:V.r 15=u q1:=by rw[hk 15 (by simp)];simp[-dy,-Int.natCast_add,-Int.natCast_mul,-Int.natCast_ediv,-Int.natCast_emod,k2,k8,k9,tB,rB,rC,tC,hq,gu,qX,qY,qV,qW]
  have j8:V.r 8=u s:=by rw[hk 8 (by simp)];simp[-dy,-Int.natCast_add,-Int.natCast_mul,-Int.natCast_ediv,-Int.natCast_emod,k2,k8,k9,tB,rB,rC,tC,hq,gu,qX,qY,qV,qW]
  have j17:V.r 17=u R:=by rw[hk 17 (by simp)];simp[-dy,-Int.natCast_add,-Int.natCast_mul,-Int.natCast_ediv,-Int.natCast_emod,k2,k8,k9,tB,rB,rC,tC,hq,gu,qX,qY,qV,qW]
  have j14:V.r 14=u n0:=by rw[hk 14 (by simp)];simp[-dy,-Int.natCast_add,-Int.natCast_mul,-Int.natCast_ediv,-Int.natCast_emod,k2,k8,k9,tB,rB,rC,tC,hq,gu,qX,qY,qV,qW]
  have j2:V.r 2=u v:=by rw[hk 2 (by simp)];simp[-dy,-Int.natCast_add,-Int.natCast_mul,-Int.natCast_ediv,-Int.natCast_emod,k2,k8,k9,tB,rB,rC,tC,hq,gu,qX,qY,qV,qW]
  rw[<-hv] at ie;clear hk;obtain⟨q0,tp⟩:∃q0,q0=(R*4294967296+n0)/v:=⟨_,rfl⟩
  rw[<-tp] at ie;have aJK:q0<4294967296:=by rw[tp,xZ Gz];omega
  have w1:IntKind.u64.wrap (IntKind.u64.wrap ((q1:Int)*4294967296)+(q0:Int))=((q1*4294967296+q0:Nat):Int):=by
   rw[kI (n:=(q1:Int)*4294967296) (by omega),kI (by omega)];omega
  have fin:(u32*18446744073709551616+un)/v=q1*4294967296+q0:=by
   have h1:u32*18446744073709551616+un=R*4294967296+n0+v*(q1*4294967296):=by
        have:v*(q1*4294967296)=(q1*v)*4294967296:=by rw[<-abn,x9 v q1]
        omega
   rw[h1,Nat.add_mul_div_left _ _ Gz,<-tp];omega
  obtain⟨R2,RU⟩:∃R2,R2=(R*4294967296+n0)%v:=⟨_,rfl⟩
  have aJN:q0*v+R2=R*4294967296+n0:=by rw[tp,RU];exact Et _ v
  have aI8:R2<v:=by rw[RU];exact qG _ Gz
  have apc:(u32*18446744073709551616+un)%v=R2:=by
   have h1:u32*18446744073709551616+un=R*4294967296+n0+v*(q1*4294967296):=by
        have:v*(q1*4294967296)=(q1*v)*4294967296:=by rw[<-abn,x9 v q1]
        omega
   rw[h1,Nat.add_mul_mod_self_left,<-RU]
  have w2:IntKind.u64.wrap (IntKind.u64.wrap (IntKind.u64.wrap ((R:Int)*4294967296)+(n0:Int))-IntKind.u64.wrap ((q0:Int)*(v:Int)))=(R2:Int):=by
   have h1:(q0:Int)*(v:Int)+(R2:Int)=(R:Int)*4294967296+n0:=by rw[<-Int.natCast_mul];omega
   simp only[I3];generalize (q0:Int)*(v:Int)=M at*;omega
  have w3:bS .shr .u64 (R2:Int) (s:Int)=((R2/2^s:Nat):Int):=IM R2 s (by omega);rw[fin,apc];simp[j8,j15,j17,j14,j2,ie,w1,w2,w3,-Int.natCast_add,-Int.natCast_mul,-Int.natCast_ediv,-dy]
structure View where
 realm:Realm
 forum:Int
 day:Int
 file:File
 form:Int
 due:Int
 deriving Inhabited
def dz (x:View):D:=.agg [strs x.realm.currencies,sJ x.realm.cities,groups x.realm.groups,firms x.realm.firms,orders x.realm.orders,usances x.realm.usances,rates x.realm.rates,halts x.realm.halts,.int x.forum,.int x.day,.int x.file.bill.drawer,.int x.file.bill.drawee,.int x.file.bill.payee,.int x.file.bill.sum,.int x.file.bill.currency,.int x.file.bill.tenor.kind,.int x.file.bill.tenor.n,.int x.file.bill.tenor.unit,.int x.file.bill.day,.int x.file.bill.city,.int x.file.bill.pay,.int x.file.bill.need,.int x.file.bill.rate,.int x.file.bill.flags,.int x.file.bill.parts,signs x.file.signs,alters x.file.alters,acts x.file.acts,facts x.file.facts,.int x.form,.int x.due]
@[simp] def aG3 (x:View):(dz x).cells=[strs x.realm.currencies,sJ x.realm.cities,groups x.realm.groups,firms x.realm.firms,orders x.realm.orders,usances x.realm.usances,rates x.realm.rates,halts x.realm.halts,.int x.forum,.int x.day,.int x.file.bill.drawer,.int x.file.bill.drawee,.int x.file.bill.payee,.int x.file.bill.sum,.int x.file.bill.currency,.int x.file.bill.tenor.kind,.int x.file.bill.tenor.n,.int x.file.bill.tenor.unit,.int x.file.bill.day,.int x.file.bill.city,.int x.file.bill.pay,.int x.file.bill.need,.int x.file.bill.rate,.int x.file.bill.flags,.int x.file.bill.parts,signs x.file.signs,alters x.file.alters,acts x.file.acts,facts x.file.facts,.int x.form,.int x.due]:=zyz
@[simp] def aKD (x:View):D.agg [strs x.realm.currencies,sJ x.realm.cities,groups x.realm.groups,firms x.realm.firms,orders x.realm.orders,usances x.realm.usances,rates x.realm.rates,halts x.realm.halts,.int x.forum,.int x.day,.int x.file.bill.drawer,.int x.file.bill.drawee,.int x.file.bill.payee,.int x.file.bill.sum,.int x.file.bill.currency,.int x.file.bill.tenor.kind,.int x.file.bill.tenor.n,.int x.file.bill.tenor.unit,.int x.file.bill.day,.int x.file.bill.city,.int x.file.bill.pay,.int x.file.bill.need,.int x.file.bill.rate,.int x.file.bill.flags,.int x.file.bill.parts,signs x.file.signs,alters x.file.alters,acts x.file.acts,facts x.file.facts,.int x.form,.int x.due]=dz x:=zyz
@[simp] def aHj (x:View):kg 31 (dz x)=dz x:=zyz
@[simp] def aKO (x:View)(a0 a1 a2 a3 a4 a5 a6 a7 a8 a9 mJ mK a12 mL mM pA pB a17 qH PX a20 a21 a22 a23 a24 a25 a26 a27 a28 a29 a30:D):D.agg (dI [a0,a1,a2,a3,a4,a5,a6,a7,a8,a9,mJ,mK,a12,mL,mM,pA,pB,a17,qH,PX,a20,a21,a22,a23,a24,a25,a26,a27,a28,a29,a30] 0 [strs x.realm.currencies,sJ x.realm.cities,groups x.realm.groups,firms x.realm.firms,orders x.realm.orders,usances x.realm.usances,rates x.realm.rates,halts x.realm.halts,.int x.forum,.int x.day,.int x.file.bill.drawer,.int x.file.bill.drawee,.int x.file.bill.payee,.int x.file.bill.sum,.int x.file.bill.currency,.int x.file.bill.tenor.kind,.int x.file.bill.tenor.n,.int x.file.bill.tenor.unit,.int x.file.bill.day,.int x.file.bill.city,.int x.file.bill.pay,.int x.file.bill.need,.int x.file.bill.rate,.int x.file.bill.flags,.int x.file.bill.parts,signs x.file.signs,alters x.file.alters,acts x.file.acts,facts x.file.facts,.int x.form,.int x.due])=dz x:=zyz
@[simp] def aG1 (x:View):(dz x).c 8=.int x.forum:=zyz
@[simp] def aG2 (x:View):(dz x).c 9=.int x.day:=zyz
@[simp] def aGG (x:View):(dz x).c 10=.int x.file.bill.drawer:=zyz
@[simp] def aGH (x:View):(dz x).c 11=.int x.file.bill.drawee:=zyz
@[simp] def aGI (x:View):(dz x).c 12=.int x.file.bill.payee:=zyz
@[simp] def aGJ (x:View):(dz x).c 13=.int x.file.bill.sum:=zyz
@[simp] def aGK (x:View):(dz x).c 14=.int x.file.bill.currency:=zyz
@[simp] def aGL (x:View):(dz x).c 15=.int x.file.bill.tenor.kind:=zyz
@[simp] def aGM (x:View):(dz x).c 16=.int x.file.bill.tenor.n:=zyz
@[simp] def aGN (x:View):(dz x).c 17=.int x.file.bill.tenor.unit:=zyz
@[simp] def aGO (x:View):(dz x).c 18=.int x.file.bill.day:=zyz
@[simp] def aGP (x:View):(dz x).c 19=.int x.file.bill.city:=zyz
@[simp] def aGQ (x:View):(dz x).c 20=.int x.file.bill.pay:=zyz
@[simp] def aGR (x:View):(dz x).c 21=.int x.file.bill.need:=zyz
@[simp] def aGS (x:View):(dz x).c 22=.int x.file.bill.rate:=zyz
@[simp] def aGT (x:View):(dz x).c 23=.int x.file.bill.flags:=zyz
@[simp] def aGU (x:View):(dz x).c 24=.int x.file.bill.parts:=zyz
@[simp] def aGV (x:View):(dz x).c 25=signs x.file.signs:=zyz
@[simp] def aGW (x:View):(dz x).c 26=alters x.file.alters:=zyz
@[simp] def aGX (x:View):(dz x).c 27=acts x.file.acts:=zyz
@[simp] def aGY (x:View):(dz x).c 28=facts x.file.facts:=zyz
@[simp] def aGZ (x:View):(dz x).c 29=.int x.form:=zyz
@[simp] def aG0 (x:View):(dz x).c 30=.int x.due:=zyz
@[simp] def aHa (x:View):kg 8 (dz x)=aV x.realm:=zyz
def kY:List Int->Int->Int
 |[],o=>o
 |x::l,o=>if x=0 then 0 else kY l (if x=2 then 2 else o)
def aum {l:List Int}{o:Int}(hn:∀x,x∈l->¬x=0)(h2:o=1\/o=2):kY l o=if o=2\/2∈l then 2 else 1:=by
 induction l generalizing o with
 |nil=>rcases h2 with h|h<;>simp[kY,h]
 |cons x l ih=>
  have hx:=hn x (by simp);unfold kY;rw[if_neg hx];by_cases e:x=2
  .rw[if_pos e,ih (λy hy=>hn y (by simp[hy])) (.inr rfl)];simp[e]
  .rw[if_neg e,ih (λy hy=>hn y (by simp[hy])) h2];simp[yb e]
def afA:∀{l:List Int} {o:Int} {k:Nat} (hk:k<l.length),(∀j (hj:j<k),¬l[j]'(by omega)=0)->l[k]=0->kY l o=0
 |[],o,k,hk,_,_=>by simp at hk
 |x::l,o,0,hk,hj,h=>by
  unfold kY;rw[if_pos (by simpa using h)]
 |x::l,o,k+1,hk,hj,h=>by
  unfold kY;rw[if_neg (by have:=hj 0 (by omega);simpa using this)];exact afA (k:=k) (by simpa using hk) (λj mY=>by have:=hj (j+1) (by omega);simpa using this) (by simpa using h)
def De (l:List Int)(k:Nat):Int:=if 2∈l.take k then 2 else 1
def aun (l:List Int)(hl:l.length<=100000):aj T 165 [ints l] (.int (kY l 1)):=by
 refine zyw 156 aBn ?_;simp[Ya];refine aK.scan l.length (λk=>l.getD k 0≠0) (λk=>[.int 0,.int (De l k),.int k]) (λ_=>[]) ?_ (λk hk hj ax=>?_) (λk hk hj ax=>?_) (λhj=>?_)
 .simp[De]
 .have hw:=bq hk (by omega);have hx:¬l[k]=0:=by simpa [hk] using ax
  have hm:De l (k+1)=if l[k]=2 then 2 else De l k:=by
   unfold De;rw[iS hk];simp only[dZ,A5];by_cases e:l[k]=2
   .simp[e]
   .simp[e,yb e]
  rw[hm];simp[Wr,HA,hk,hw,hx];by_cases e:l[k]=2<;>simp[e]
 .have hx:l[k]=0:=by simpa [hk] using ax
  simp[Wr,HA,hk,hx];rw[afA hk (λj mY=>by simpa [show j<l.length by omega] using hj j mY) hx]
 .simp[Wr,HA];rw[aum (λx hx=>by obtain⟨j,ia,rfl⟩:=fw hx;simpa [ia] using hj j ia) (.inl rfl)];simp[De]
def cm (v:View)(q sign:Int):Int:=qt (sF v.realm v.forum q ⟨v.file,sign,sign,-1,v.due,v.day⟩)
def XE (v:View)(hr:Right v.realm)(hf:FewS v.file)(q sign:Int):aj T 166 [dz v,.int q,.int sign] (.int (cm v q sign)):=by
 refine zyw 155 aBq ?_;simp[Yd];refine⟨re (sF v.realm v.forum q ⟨v.file,sign,sign,-1,v.due,v.day⟩),abI v.realm hr v.forum q ⟨v.file,sign,sign,-1,v.due,v.day⟩ hf,abK _⟩
def mN (f:File)(sign:Int)(n:Nat):Bool:=(f.alters.take n).any λa=>decide (sign<a.at_)
def rD (f:File):Int:=(f.alters.getD (f.alters.length-1) default).sum
def kG (v:View)(sign:Int):Int×Int:=
 if mN v.file sign v.file.alters.length=false then(0,lj v.file sign v.file.alters.length)
 else if cm v 4 sign=1 then(1,rD v.file)
 else if cm v 4 sign=2 then(2,min (lj v.file sign v.file.alters.length) (rD v.file))
 else(cm v 4 sign,lj v.file sign v.file.alters.length)
def aA6 (v:View)(hr:Right v.realm)(hf:FewS v.file)(sign:Int):aj T 167 [dz v,.int sign] (.tup [.int (kG v sign).1,.int (kG v sign).2]):=by
 refine zyw 157 aBr ?_;simp[Ye];have y5:=hf.alters;refine⟨_,ayf v.file sign (by omega),?_⟩;refine aK.forRounds v.file.alters.length (λk=>[.bool (mN v.file sign k),.int k]) (λ_=>[]) ?_ (λk hk=>?_) ?_
 .simp[mN]
 .have hw:=bq hk (by omega);have hs:mN v.file sign (k+1)=(mN v.file sign k||decide (sign<v.file.alters[k].at_)):=by
   unfold mN;rw[iS hk,List.any_append];simp
  rw[hs];cases mN v.file sign k<;>simp[Ws,HC,hk,hw]
 .unfold kG;cases ha:mN v.file sign v.file.alters.length
  .simp[Ws,HC,ha]
  simp[Ws,HC,ha];have Gl:0<v.file.alters.length:=by
   rcases Eu v.file.alters.length with e|e
   .simp[mN,vH.mp e] at ha
   .exact e
  have hw:i64.wrap ((v.file.alters.length:Int)-1)=(v.file.alters.length:Int)-1:=aQ (by omega);have hn:((v.file.alters.length:Int)-1).toNat=v.file.alters.length-1:=by omega
  have af:v.file.alters.length-1<v.file.alters.length:=by omega
  have ze:rD v.file=v.file.alters[v.file.alters.length-1].sum:=by simp[rD,af]
  simp[hw,hn,af];refine⟨by omega,_,XE v hr hf 4 sign,?_⟩;rw[ze];by_cases h1:cm v 4 sign=1
  .simp[h1]
  by_cases h2:cm v 4 sign=2
  .simp[h1,h2];split
   .rw[Int.min_eq_right (by omega)]
   .rw[Int.min_eq_left (by omega)]
  .simp[h1,h2]
@[simp] def aLl (a0 a1 a2 a3 a4 a5 a6 x:D):dI [a0,a1,a2,a3,a4,a5,a6] 3 [x]=[a0,a1,a2,x,a4,a5,a6]:=zyz
@[simp] def aLm (a0 a1 a2 a3 a4 a5 a6 x:D):dI [a0,a1,a2,a3,a4,a5,a6] 4 [x]=[a0,a1,a2,a3,x,a5,a6]:=zyz
@[simp] def aLn (a0 a1 a2 a3 a4 a5 a6 x:D):dI [a0,a1,a2,a3,a4,a5,a6] 5 [x]=[a0,a1,a2,a3,a4,x,a6]:=zyz
def jK (v:View)(sign:Int):Effect:=
 let s:=v.file.signs.getD sign.toNat default
 ⟨sign,s.kind,s.who,if AH v.file sign v.day=true then 0 else kY [v.form,cm v 1 sign,cm v 2 sign] 1,(kG v sign).1,
    if s.kind=1\/s.kind=4 then min (kG v sign).2 s.sum else(kG v sign).2,decide (s.kind≠1)&&decide (bS .and .i64 s.flags 1=0)⟩
def aoQ (v:View)(hr:Right v.realm)(hf:FewS v.file)(sign:Int)(h0:0<=sign)(h1:sign<v.file.signs.length):aj T 126 [dz v,.int sign] (jL (jK v sign)):=by
 refine zyw 152 aBp ?_;obtain⟨k,rfl⟩:=qB h0;have hk:k<v.file.signs.length:=by omega
 have cX:=aA9 v.file k v.day (by have:=hf.acts;omega);have Tl:=aA6 v hr hf k;have lN:v.file.signs.getD (k:Int).toNat default=v.file.signs[k]:=by simp[hk]
 have Mm:=XE v hr hf 1 k;have eH:=XE v hr hf 2 k;have hj:aj T 165 [.list [.int v.form,.int (cm v 1 k),.int (cm v 2 k)]] (.int (kY [v.form,cm v 1 k,cm v 2 k] 1)):=aun [v.form,cm v 1 k,cm v 2 k] (by simp);have hif:(if v.file.signs[k].kind=1 then D.bool false else D.bool (decide (bS BinOp.and IntKind.i64 v.file.signs[k].flags 1=0)))=D.bool (decide (v.file.signs[k].kind≠1)&&decide (bS BinOp.and IntKind.i64 v.file.signs[k].flags 1=0)):=by
  by_cases h:v.file.signs[k].kind=1<;>simp[h]
 unfold jK;rw[lN];generalize cm v 1 k=s1 at*;generalize cm v 2 k=s2 at*;generalize kY [v.form,s1,s2] 1=jj at*;generalize kG v k=tx at*;obtain⟨t1,t2⟩:=tx;simp only at Tl;simp[Yc,hk,hif];refine⟨_,cX,?_⟩;have zi:∀a b:Int,(if b<a then D.int b else D.int a)=D.int (min a b):=by
  intro a b;split
  .rw[Int.min_eq_right (by omega)]
  .rw[Int.min_eq_left (by omega)]
 cases CY:AH v.file k v.day
 .simp[CY];refine⟨_,Mm,_,eH,_,hj,_,Tl,?_⟩;by_cases h1:v.file.signs[k].kind=1\/v.file.signs[k].kind=4
  .simp[h1,zi];rfl
  .simp[h1,zi];rfl
 .simp[CY];refine⟨_,Tl,?_⟩;by_cases h1:v.file.signs[k].kind=1\/v.file.signs[k].kind=4
  .simp[h1,zi];rfl
  .simp[h1,zi];rfl
def gF (r:Realm)(forum:Int)(f:File)(day:Int):View:=⟨r,forum,day,bT f day,qt (nM r forum 0 (bT f day) day),eI r forum (bT f day) day⟩
def axY (r:Realm)(hr:Right r)(hd:RightD r)(forum:Int)(f:File)(day:Int)(hf:FewS f):aj T 125 [aV r,.int forum,cr f,.int day] (dz (gF r forum f day)):=by
 refine zyw 89 aBo ?_;simp[Yb];have hg:=hf.at_ day;refine⟨_,Xr f day (by have:=hf.signs;omega) (by have:=hf.acts;omega) (by have:=hf.alters;omega) (by have:=hf.facts;omega),?_⟩;simp;refine⟨_,abJ r hr forum 0 _ day hg,_,abK _,_,Jl r hr hd forum _ day hg,?_⟩;simp;rfl
def qZ (r:Realm)(forum:Int)(f:File)(day:Int):List Effect:=(List.range (gF r forum f day).file.signs.length).map λ(k:Nat)=>jK (gF r forum f day) k
def akY (r:Realm)(hr:Right r)(hd:RightD r)(forum:Int)(f:File)(day:Int)(hf:FewS f):aj T 85 [aV r,.int forum,cr f,.int day] (og (qZ r forum f day)):=by
 refine zyw 88 aBm ?_;simp[X9];refine⟨_,axY r hr hd forum f day hf,?_⟩;have hg:FewS (gF r forum f day).file:=hf.at_ day;have oJ:(gF r forum f day).realm=r:=rfl;unfold qZ;generalize gF r forum f day=v at*;have hl:=hg.signs;refine aK.forRounds v.file.signs.length (λk=>[.none,.int k]) (λk=>[og ((List.range k).map λ(k:Nat)=>jK v k)]) ?_ (λk hk=>?_) ?_
 .simp[og]
 .have hw:=bq hk (by omega);have he:=aoQ v (oJ▸hr) hg k (by omega) (by omega);rw[PL,py];have hln:((List.range k).map λ(k:Nat)=>jK v k).length=k:=by simp
  generalize ((List.range k).map λ(k:Nat)=>jK v k)=A at*;simp[ajv,N6,hk,hw];exact⟨_,he,by omega,by simp[og]⟩
 .simp[ajv,N6]
def Rw {n:Nat}{f:Nat->Int}(h:fW n f=0)(k:Nat)(hk:k<n):f k=0:=Ry.1 h k hk
def ana {r:Realm}(h:iV r=0)(k:Nat)(hk:k<r.orders.length):rJ r.orders[k]=true:=by
 unfold iV at h;rw[OM] at h;have h1:=h (eL (eX r) 20 (oU r)) (by simp);unfold eL at h1;split at h1
 .cases h1
 have h2:=Rw h1 k (by simpa [eX] using hk);have h3:=(Cr h2).2;unfold oU at h3;simpa [hk] using h3
def aqG {r:Realm}(hs:Small r)(h:iV r=0):El r:=by
 intro o ho;obtain⟨k,hk,rfl⟩:=fw ho;have h1:=ana h k hk;obtain⟨hc,_⟩:=hs.order _ ho;refine⟨by omega,λch kN=>?_⟩;unfold rJ at h1;simp only[au] at h1;obtain⟨j,hj,rfl⟩:=fw kN;have h2:=yd.1 h1.1 j hj;simpa [aC,hj] using h2
def aqH {r:Realm}(hs:Small r)(h:iV r=0):xP r:=by
 refine⟨by have:=hs.halts;omega,λx hx=>?_⟩;obtain⟨k,hk,rfl⟩:=fw hx;unfold iV at h;rw[OM] at h;have h1:=h (ql r) (by simp);unfold ql at h1;split at h1
 .cases h1
 split at h1
 .cases h1
 split at h1
 .cases h1
 split at h1
 .rename_i aP;have h2:=yd.1 aP k hk;simp[v7,wi,aC,hk] at h2;omega
 .cases h1
structure Good (r:Realm) (f:File):Prop where
 right:Right r
 rightD:RightD r
 few:FewS f
def aqJ {r:Realm}{f:File}(hr:r.OK)(h:yW r f=true):Good r f:=by
 unfold yW sQ at h;simp only[au,decide_eq_true_eq] at h;obtain⟨⟨⟨h1,h2⟩,h3⟩,h4⟩:=h;have hs:=Rt hr h1;refine⟨⟨aqG hs h4,by have:=hs.orders;omega,λo ho=>?_⟩,⟨hs,aqH hs h4⟩,?_⟩
 .have:=hs.order o ho;refine⟨?_,by omega⟩;exact hr.2.2.2.2.1.2 o ho
 .simp[Co] at h2;exact⟨by omega,by omega,by omega,by omega⟩
def j6 (a b:Cell):Prop:=a.known=true->b=a
def j6.rfl' (a:Cell):j6 a a:=λ_=>rfl
def j6.no (b:Cell):j6 dT b:=λh=>by cases h
def su (l l':List Cell):Prop:=l.length=l'.length/\∀i,j6 (aN l i) (aN l' i)
def acj {α:Type}(f:α->Cell)(l:List α)(i:Nat)(hi:i<l.length):aN (l.map f) i=f l[i]:=by
 simp[aN,hi]
def ack (l:List Cell)(i:Nat)(hi:l.length<=i):aN l i=default:=by
 simp[aN,hi]
def su.map {α:Type}{f g:α->Cell}{l:List α}(h:∀a,a∈l->j6 (f a) (g a)):su (l.map f) (l.map g):=by
 refine⟨by simp,λi=>?_⟩;by_cases hi:i<l.length
 .rw[acj f l i hi,acj g l i hi];exact h _ (bQ hi)
 .rw[ack _ i (by simpa using hi),ack _ i (by simpa using hi)];exact .rfl' _
def aD8 {cs fU:List Cell}(h:su cs fU)(v:Int):j6 (kH cs v) (kH fU v):=by
 intro hk;have hv:=h.2 v.toNat;unfold kH at hk ⊢;unfold cellAt at hk ⊢;unfold aN at hv;by_cases h1:cs.length<=v.toNat\/(cs.getD v.toNat default).known=false
 .rw[if_pos h1] at hk;cases hk
 .have h2:(cs.getD v.toNat default).known=true:=by
   cases e:(cs.getD v.toNat default).known
   .exact absurd (.inr e) h1
   .rfl
  rw[hv h2,<-h.1]
def acv {l l':List Cell}(h:su l l')(op:Int):j6 (fT op l) (fT op l'):=by
 intro hk;have h0:=h.2 0;have h1:=h.2 1;have h2:=h.2 2;unfold fT at hk ⊢;by_cases o3:op=3
 .rw[if_pos o3] at hk ⊢;rw[if_pos o3];cases e:(aN l 0).known
  .rw[e] at hk;cases hk
  .rw[h0 e,e]
 rw[if_neg o3] at hk ⊢;rw[if_neg o3];by_cases o4:(op=4\/op=5)/\(aN l 0=ew (decide (op=5))\/aN l 1=ew (decide (op=5)))
 .have o4':(op=4\/op=5)/\(aN l' 0=ew (decide (op=5))\/aN l' 1=ew (decide (op=5))):=by
   refine⟨o4.1,?_⟩;have hy:∀b,(ew b).known=true:=λb=>by cases b<;>rfl
   rcases o4.2 with e|e
   .exact .inl ((h0 (by rw[e];exact hy _)).trans e)
   .exact .inr ((h1 (by rw[e];exact hy _)).trans e)
  rw[if_pos o4,if_pos o4']
 rw[if_neg o4] at hk ⊢;by_cases o6:op=6
 .have o5:¬((op=4\/op=5)/\(aN l' 0=ew (decide (op=5))\/aN l' 1=ew (decide (op=5)))):=by omega
  rw[if_pos o6] at hk ⊢;rw[if_neg o5,if_pos o6];by_cases e:(aN l 1).known=true/\aN l 1=aN l 2
  .have e1:=h1 e.1;have e2:=h2 (by rw[<-e.2];exact e.1);rw[if_pos e,e1,e2,if_pos e]
  .rw[if_neg e] at hk;cases hk
 rw[if_neg o6] at hk ⊢;by_cases ok:(aN l 0).known=false\/(aN l 1).known=false
 .rw[if_pos ok] at hk;cases hk
 have k0:(aN l 0).known=true:=by cases e:(aN l 0).known<;>simp[e] at ok ⊢
 have k1:(aN l 1).known=true:=by cases e:(aN l 1).known<;>simp[e] at ok ⊢
 rw[h0 k0,h1 k1,if_neg o4,if_neg o6]
def ac6:∀{L:Nat} {t:Tm} {k:Int} {cs fU:List Cell},su cs fU->bW L t=(k,0)->j6 (bC L cs t) (bC L fU t)
 |0,t,k,cs,fU,hc,h=>.no _
 |L+1,t,k,cs,fU,hc,h=>by
  obtain⟨hn,hk⟩:=K8 h;obtain⟨ha,_⟩:=K7 h;have ih:∀a,a∈t.args->j6 (bC L cs a) (bC L fU a):=λa hm=>ac6 hc (show bW L a=((bW L a).1,0) by rw[<-ha a hm]);have ir:∀(c:List Cell) a,a∈t.args->vJ (bW L a).1 (bC L c a):=λc a hm=>Rr c (show bW L a=((bW L a).1,0) by rw[<-ha a hm]);have im:=su.map ih;rw[Cn,Cn];by_cases o0:t.op=0\/t.op=1
  .rw[if_pos o0,if_pos o0];exact .rfl' _
  rw[if_neg o0,if_neg o0];by_cases o2:t.op=2
  .rw[if_pos o2,if_pos o2];exact aD8 hc _
  rw[if_neg o2,if_neg o2];by_cases o6:t.op=6
  .cases hn with
   |ite k h0 ct=>
    obtain⟨a,b,c,hl,e1,e2,e3⟩:=MJ ct;rw[hl] at ih ir im ⊢;have r1:=ir fU a (by simp);rw[e1] at r1;have m1:=ih a (by simp);have m2:=ih b (by simp);have m3:=ih c (by simp);by_cases g:t.op=6/\(aN ([a,b,c].map (bC L cs)) 0).known=true
    .have e:aN ([a,b,c].map (bC L fU)) 0=aN ([a,b,c].map (bC L cs)) 0:=im.2 0 g.2;have g':t.op=6/\(aN ([a,b,c].map (bC L fU)) 0).known=true:=⟨g.1,by rw[e];exact g.2⟩
     rw[if_pos g,if_pos g',e];exact im.2 _
    rw[if_neg g];by_cases g':t.op=6/\(aN ([a,b,c].map (bC L fU)) 0).known=true
    .rw[if_pos g'];intro rp;unfold fT at rp ⊢;rw[if_neg (by omega),if_neg (by omega),if_pos o6] at rp ⊢;simp only[iy,List.map_nil,aN,qD,A0] at rp g' ⊢;by_cases e:(bC L cs b).known=true/\bC L cs b=bC L cs c
     .rw[if_pos e];have q1:=m2 e.1;have q2:=m3 (by rw[<-e.2];exact e.1);rcases(r1.2 g'.2).1 rfl with h1|h1<;>rw[h1]
      .show bC L fU c=_;rw[q2,e.2]
      .show bC L fU b=_;exact q1
     .rw[if_neg e] at rp;cases rp
    .rw[if_neg g'];exact acv im _
   |_=>omega
  .rw[if_neg (by omega),if_neg (by omega)];exact acv im _
def ao4 {cs fU:List Cell}(h:su cs fU)(t:Tm):j6 (sP cs t) (sP fU t):=by
 unfold sP;by_cases e:(nP t).2=0
 .rw[if_pos e,if_pos e];exact ac6 h (acp e).2
 .rw[if_neg e];exact .no _
def alK {cs fU:List Cell}(h:su cs fU)(o:Order)(ask:Int):j6 (qJ o ask cs).1 (qJ o ask fU).1/\(qJ o ask fU).2=(qJ o ask cs).2:=by
 unfold qJ;by_cases e:(findF o ask).2≠0
 .rw[if_pos e,if_pos e];exact⟨.rfl' _,rfl⟩
 rw[if_neg e,if_neg e];refine⟨?_,rfl⟩;intro hk;have hm:=ao4 h (findF o ask).1;simp only at hk ⊢;cases e2:(sP cs (findF o ask).1).known
 .rw[e2] at hk;simp[e2] at hk
 .rw[hm e2,e2]
structure SameF (f g:File):Prop where
 bill:g.bill=f.bill
 signs:g.signs=f.signs
 alters:g.alters=f.alters
 acts:g.acts=f.acts
def SameF.at_ {f g:File}(h:SameF f g)(day:Int):SameF (bT f day) (bT g day):=by
 obtain⟨h1,h2,h3,h4⟩:=h;constructor<;>simp[bT,h1,h2,h3,h4]
def jE (c:Case)(g:File):Case:={c with file:=g}
def aAh {c:Case}{g:File}(h:SameF c.file g)(r:Realm)(s:Sign)(i:Nat):aN (sT r (jE c g) s) i=
 if i=15 then cB g 0 c.sign else if i=16 then cB g 1 c.sign else if i=17 then cB g 2 c.sign else if i=18 then cB g 3 (jx c) else if i=19 then cB g 4 (jx c) else aN (sT r c s) i:=by
 obtain⟨h1,h2,h3,h4⟩:=h
 have e:(sT r (jE c g) s)=(pj c s).map (λp=>⟨true,p.2⟩)++(qn r c s).map (λp=>ew p.2)++
  [cB g 0 c.sign,cB g 1 c.sign,cB g 2 c.sign,cB g 3 (jx c),cB g 4 (jx c)]:=by
  simp[sT,jE,pj,qn,jx,P0,h1,h3,zI];exact⟨rfl,rfl,rfl,rfl⟩
 rw[e];unfold sT pj qn;rcases i with _|_|_|_|_|_|_|_|_|_|_|_|_|_|_|_|_|_|_|_|i<;>simp[aN]
def aAj {c:Case}{g:File}(h:SameF c.file g)(r:Realm):(gn r (jE c g)=[]↔gn r c=[]):=by
 obtain⟨h1,h2,h3,h4⟩:=h;have e1:mP (jE c g)=mP c:=by simp[mP,jE,h2,jx];rfl
 unfold gn;rw[e1];simp only[jE,h2];split
 .simp[sT,pj]
 .simp
def FLe (f g:File)(s h:Int):Prop:=(∀k,j6 (cB f k s) (cB g k s))/\(∀k,j6 (cB f k h) (cB g k h))
def aEa {c:Case}{g:File}(h:SameF c.file g)(hf:FLe c.file g c.sign (jx c))(r:Realm):su (gn r c) (gn r (jE c g)):=by
 have e1:mP (jE c g)=mP c:=by simp[mP,jE,h.signs,jx];rfl
 unfold gn;rw[e1];simp only[show(jE c g).file.signs=c.file.signs from h.signs,show(jE c g).sign=c.sign from rfl];split
 .generalize c.file.signs.getD c.sign.toNat default=s;refine⟨by simp[sT,pj,qn],λi=>?_⟩;rw[aAh h r s i];have hs:∀j,j=15\/j=16\/j=17\/j=18\/j=19\/(j≠15/\j≠16/\j≠17/\j≠18/\j≠19):=by omega
  rcases hs i with e|e|e|e|e|⟨a,b,c',d,e⟩
  .subst e;exact hf.1 0
  .subst e;exact hf.1 1
  .subst e;exact hf.1 2
  .subst e;exact hf.2 3
  .subst e;exact hf.2 4
  .rw[if_neg a,if_neg b,if_neg c',if_neg d,if_neg e];exact .rfl' _
 .exact⟨rfl,λi=>.rfl' _⟩
def aAi {c:Case}{g:File}(h:SameF c.file g)(r:Realm)(forum:Int):jD r forum (jE c g)=jD r forum c:=by
 obtain⟨h1,h2,h3,h4⟩:=h;simp[jD,qK,mm,jE,eN,h1,h2]
def agM (c:Case)(g:File):fi (jE c g)=jE (fi c) (bT g c.day):=rfl
def alQ (r:Realm)(forum q:Int){c:Case}{g:File}(h:SameF c.file g)(hf:FLe (bT c.file c.day) (bT g c.day) c.sign (jx c)):
 j6 (sF r forum q c).cell (sF r forum q (jE c g)).cell/\(sF r forum q (jE c g)).err=(sF r forum q c).err:=by
 have hs:=h.at_ c.day;have hv:=aEa (c:=fi c) hs hf r;have he:=aAj (c:=fi c) hs r;have hp:=aAi (c:=fi c) hs r forum;have e1:(gT r forum q (jE c g)).1=(gT r forum q c).1:=by
  unfold gT;rw[agM];rw[hp];by_cases e:gn r (fi c)=[]
  .rw[if_pos e,if_pos (he.2 e)]
  .rw[if_neg e,if_neg (λx=>e (he.1 x))];split
   .rfl
   split
   .rfl
   rfl
 have e2:su (gT r forum q c).2 (gT r forum q (jE c g)).2:=by
  unfold gT;rw[agM];rw[hp];by_cases e:gn r (fi c)=[]
  .rw[if_pos e,if_pos (he.2 e)];exact⟨rfl,λi=>.rfl' _⟩
  .rw[if_neg e,if_neg (λx=>e (he.1 x))];split
   .exact⟨rfl,λi=>.rfl' _⟩
   split
   .exact⟨rfl,λi=>.rfl' _⟩
   exact hv
 unfold sF;rw[e1];split
 .exact⟨.rfl' _,rfl⟩
 .exact alK e2 _ _
def aDS {a b:Said}(h:j6 a.cell b.cell)(he:b.err=a.err)(hn:qt a≠2):qt b=qt a:=by
 unfold qt at*;rw[he];split
 .rfl
 .rename_i e;rw[if_neg e] at hn;cases hk:a.cell.known
  .rw[hk] at hn;simp at hn
  .rw[h hk,hk]
def ac9 (f:File)(day k s:Int):cB (bT f day) k s=if aC s (vw day f.signs).length=true then cB f k s else dT:=by
 unfold cB;have h:(bT f day).facts.find? (iW k s)=if aC s (vw day f.signs).length=true then f.facts.find? (iW k s) else none:=by
  show(f.facts.filter (ma (vw day f.signs).length)).find? (iW k s)=_;generalize (vw day f.signs).length=n
  induction f.facts with
  |nil=>simp
  |cons x l ih=>
   by_cases hx:iW k s x=true
   .have hs:x.at_=s:=by simp[iW] at hx;exact hx.2
    by_cases hn:aC s n=true
    .have:ma n x=true:=by unfold ma;rw[hs];exact hn
     simp[En,this,hx,hn]
    .have:¬ma n x=true:=by unfold ma;rw[hs];exact hn
     simp only[En,if_neg this,ih,if_neg hn]
   .by_cases hn:ma n x=true
    .simp[En,hn,hx,ih]
    .simp[En,hn,hx,ih]
 rw[h];by_cases hn:aC s (vw day f.signs).length=true
 .rw[if_pos hn,if_pos hn]
 .rw[if_neg hn,if_neg hn]
def ab3 (r:Realm)(forum q:Int){f g:File}(h:SameF f g)(day:Int):nM r forum q g day=nM r forum q f day:=by
 obtain⟨h1,h2,h3,h4⟩:=h;unfold nM;rw[show({g with facts:=[]}:File)={f with facts:=[]} by rw[h1,h2,h3,h4]]
def aAq {f g:File}(h:SameF f g):rZ g=rZ f:=by
 obtain⟨h1,h2,h3,h4⟩:=h;have e:xt g=xt f:=by funext a;unfold xt;rw[h1]
 unfold rZ nw l0;rw[h4,h2,e,h1]
def MM (r:Realm)(forum:Int){f g:File}(h:SameF f g)(day:Int):eI r forum g day=eI r forum f day:=by
 have ha:=h.at_ day;unfold eI;rw[ha.signs,h.bill,aAq ha,ab3 r forum 6 ha]
def aAP {f g:File}(h:SameF f g)(sign day:Int):AH g sign day=AH f sign day:=by
 unfold AH;rw[h.signs,h.acts]
def aAT {f g:File}(h:SameF f g)(sign:Int)(n:Nat):lj g sign n=lj f sign n:=by
 unfold lj;rw[h.alters,h.bill]
def eu (v:View)(g:File):View:={v with file:=g}
def axZ (r:Realm)(forum:Int){f g:File}(h:SameF f g)(day:Int):gF r forum g day=eu (gF r forum f day) (bT g day):=by
 have ha:=h.at_ day;unfold gF eu;rw[ab3 r forum 0 ha,MM r forum ha]
def ay8 (f:File)(kind sign:Int)(hl:f.facts.length<=4294967295):aj T 35 [cr f,.int kind,.int sign] (cR (cB f kind sign)):=by
 refine zyw 78 aCJ ?_;simp[Zq];refine .scan f.facts.length (λk=>iW kind sign (f.facts.getD k default)=false) (λk=>[.int k]) (λ_=>[cR dT]) ?_ (λk hk hj ho=>?_) (λk hk hj ho=>?_) (λhj=>?_)
 .simp
 .have hw:=bq hk (by omega);simp[hk,iW] at ho;by_cases h1:f.facts[k].kind=kind<;>by_cases h2:f.facts[k].at_=sign
  .exact absurd h2 (ho h1)
  all_goals simp[Oj,DO,hk,hw,h1,h2]
 .have hf:cB f kind sign=ew (decide (f.facts[k].n≠0)):=by
   unfold cB;rw[yT hk (by simpa [hk] using ho) (λj bA=>by have:=hj j bA;simpa [show j<f.facts.length by omega] using this)]
  simp[hk,iW] at ho;by_cases hn:f.facts[k].n=0
  .simp[Oj,DO,hk,ho,hf,hn];rfl
  .simp[Oj,DO,hk,ho,hf,hn];rfl
 .have hf:cB f kind sign=dT:=by
   unfold cB;rw[Cq (λj bA=>by have:=hj j bA;simpa [bA] using this)]
  simp[Oj,DO,hf]
def jk (x y:Fact):Bool:=decide (y.at_<x.at_)||(decide (y.at_=x.at_)&&decide (y.kind<x.kind))
def kl (x y:Fact):Bool:=decide (x.at_<y.at_)||(decide (y.at_=x.at_)&&decide (x.kind<y.kind))
def vy (l:List Fact)(x:Fact):List Fact:=l.filter (jk x)++[x]++l.filter (kl x)
def mD (f:File)(x:Fact):File:=if(cB f x.kind x.at_).known=true then f else {f with facts:=vy f.facts x}
@[simp] def aLk (a0 a1 a2 a3 a4 a5 a6 a7 a8 a9 mJ mK a12 mL mM pA pB a17 qH x:D):dI [a0,a1,a2,a3,a4,a5,a6,a7,a8,a9,mJ,mK,a12,mL,mM,pA,pB,a17,qH] 18 [x]=[a0,a1,a2,a3,a4,a5,a6,a7,a8,a9,mJ,mK,a12,mL,mM,pA,pB,a17,x]:=zyz
@[simp] def aKI:D.none.cells=[D.none]:=zyz
def alq (f:File)(x:Fact)(hl:f.facts.length<=100000):aj T 8 [cr f,sN x] (cr (mD f x)):=by
 refine zyw 77 aCL ?_;simp[Zs];refine⟨_,ay8 f x.kind x.at_ (by omega),?_⟩;unfold mD;cases hk:(cB f x.kind x.at_).known
 case true=>simp[hk]
 simp[hk];refine aK.forRounds f.facts.length (λk=>[.none,.int k]) (λk=>[facts ((f.facts.take k).filter (jk x))]) ?_ (λk hk=>?_) ?_
 .simp[facts]
 .have hw:=bq hk (by omega);rw[D8 (jk x) f.facts hk];have hlen:((f.facts.take k).filter (jk x)).length<=k:=fb (kJ _ _) (by simp;omega);generalize (f.facts.take k).filter (jk x)=A at*;cases hd:jk x f.facts[k]
  .simp[jk] at hd;by_cases h2:f.facts[k].at_=x.at_
   .simp[Ol,DP,hk,hw,hd,h2];intro h;have:=hd.2 h2;omega
   .simp[Ol,DP,hk,hw,hd,h2];intro h;omega
  .simp[jk] at hd;simp[Ol,DP,hk,hw,hd];exact⟨by omega,by simp[facts]⟩
 .have kP:=kJ (jk x) f.facts;simp[Ol,DP];refine⟨by omega,?_⟩;refine aK.forRounds f.facts.length (λk=>[.none,.int k]) (λk=>[facts (f.facts.filter (jk x)++[x]++(f.facts.take k).filter (kl x))]) ?_ (λk hk=>?_) ?_
  .simp[facts]
  .have hw:=bq hk (by omega);rw[D8 (kl x) f.facts hk];have hlen:((f.facts.take k).filter (kl x)).length<=k:=fb (kJ _ _) (by simp;omega);generalize (f.facts.take k).filter (kl x)=A at*;generalize f.facts.filter (jk x)=B at*;cases hd:kl x f.facts[k]
   .simp[kl] at hd;by_cases h2:f.facts[k].at_=x.at_
    .simp[Om,DQ,hk,hw,hd,h2];intro h;have:=hd.2 h2;omega
    .simp[Om,DQ,hk,hw,hd,h2];intro h;omega
   .simp[kl] at hd;simp[Om,DQ,hk,hw,hd];exact⟨by omega,by simp[facts]⟩
  .simp[Om,DQ];have e:f.facts.filter (jk x)++x::f.facts.filter (kl x)=vy f.facts x:=by unfold vy;simp
   have e2:f.facts.filter (jk x)++[x]++f.facts.filter (kl x)=vy f.facts x:=rfl;simp only[e,e2];generalize vy f.facts x=L;rfl
def adg {α:Type}{p q:α->Bool}(h:∀y,p y=true->q y=true)(l:List α):(l.filter q).find? p=l.find? p:=by
 induction l with
 |nil=>rfl
 |cons y l ih=>
  cases hq:q y
  .have hp:p y=false:=by
        cases e:p y
        .rfl
        .rw[h y e] at hq;cases hq
   rw[En,if_neg (by simp[hq]),ih,PD,hp]
  .rw[En,if_pos hq,PD,PD,ih]
def adh {α:Type}{p q:α->Bool}(h:∀y,p y=true->q y=false)(l:List α):(l.filter q).find? p=none:=by
 rw[xS];intro y hy hp;have:=(dK.mp hy).2;rw[h y hp] at this;cases this
def aEk (f:File)(x:Fact):SameF f (mD f x):=by
 unfold mD;split<;>exact⟨rfl,rfl,rfl,rfl⟩
def aEi (f:File)(x:Fact)(k s:Int):j6 (cB f k s) (cB (mD f x) k s):=by
 unfold mD;by_cases hk:(cB f x.kind x.at_).known=true
 .rw[if_pos hk];exact .rfl' _
 rw[if_neg hk];by_cases e:k=x.kind/\s=x.at_
 .obtain⟨rfl,rfl⟩:=e;intro h;exact absurd h hk
 .intro _;have hx:iW k s x=false:=by
   cases h:iW k s x
   .rfl
   .simp[iW] at h;exact absurd ⟨h.1.symm,h.2.symm⟩ e
  have hf:(vy f.facts x).find? (iW k s)=f.facts.find? (iW k s):=by
   unfold vy;rw[qC,aa8,aa8];have h1:[x].find? (iW k s)=none:=by simp[hx]
   rw[h1];have key:∀y,iW k s y=true->y.kind=k/\y.at_=s:=λy hy=>by simpa [iW] using hy
   by_cases af:s<x.at_\/(s=x.at_/\k<x.kind)
   .rw[adg (q:=jk x) (λy hy=>by obtain⟨rfl,rfl⟩:=key y hy;simpa [jk] using af),adh (q:=kl x) (λy hy=>by obtain⟨rfl,rfl⟩:=key y hy;simp[kl];omega)];cases f.facts.find? (iW k s)<;>rfl
   .rw[adh (q:=jk x) (λy hy=>by obtain⟨rfl,rfl⟩:=key y hy;simp[jk];omega),adg (q:=kl x) (λy hy=>by obtain⟨rfl,rfl⟩:=key y hy;simp[kl];omega)];rfl
  unfold cB;rw[hf]
def aEh (l:List Fact)(x:Fact):(vy l x).length<=l.length+1:=by
 have h:(l.filter (jk x)).length+(l.filter (kl x)).length<=l.length:=by
  induction l with
  |nil=>simp
  |cons y l ih=>
   have hd:¬(jk x y=true/\kl x y=true):=by simp[jk,kl];omega
   cases h1:jk x y<;>cases h2:kl x y<;>simp[h1,h2] at hd ⊢<;>omega
 unfold vy;simp;omega
def aEj (f:File)(x:Fact):(mD f x).facts.length<=f.facts.length+1:=by
 unfold mD;split
 .omega
 .exact aEh _ _
structure MoreF (f g:File):Prop where
 same:SameF f g
 le:∀k s,j6 (cB f k s) (cB g k s)
def MoreF.rfl' (f:File):MoreF f f:=⟨⟨rfl,rfl,rfl,rfl⟩,λ_ _=>.rfl' _⟩
def MoreF.with_ {f g:File}(h:MoreF f g)(x:Fact):MoreF f (mD g x):=by
 obtain⟨⟨h1,h2,h3,h4⟩,hl⟩:=h;obtain⟨k1,k2,k3,k4⟩:=aEk g x;refine⟨⟨k1.trans h1,k2.trans h2,k3.trans h3,k4.trans h4⟩,λk s hk=>?_⟩;have e:=hl k s hk;rw[aEi g x k s (by rw[e];exact hk),e]
def MoreF.at_ {f g:File}(h:MoreF f g)(day:Int):MoreF (bT f day) (bT g day):=by
 refine⟨h.same.at_ day,λk s=>?_⟩;rw[ac9,ac9,h.same.signs];split
 .exact h.le k s
 .exact .no _
def XD {v:View}{g:File}(h:MoreF v.file g)(q s:Int)(hn:cm v q s≠2):cm (eu v g) q s=cm v q s:=by
 unfold cm at*;have hm:=alQ v.realm v.forum q (c:=⟨v.file,s,s,-1,v.due,v.day⟩) h.same ⟨λk=>(h.at_ v.day).le k _,λk=>(h.at_ v.day).le k _⟩;exact aDS hm.1 hm.2 hn
def afz (a b c:Int)(ha:a=0\/a=1\/a=2)(hb:b=0\/b=1\/b=2)(hc:c=0\/c=1\/c=2):kY [a,b,c] 1=if a=0\/b=0\/c=0 then 0 else if a=2\/b=2\/c=2 then 2 else 1:=by
 rcases ha with rfl|rfl|rfl<;>rcases hb with rfl|rfl|rfl<;>rcases hc with rfl|rfl|rfl<;>decide
def IW (x:Said):qt x=0\/qt x=1\/qt x=2:=by
 unfold qt
 repeat' split
 all_goals simp
def RK (a b:Effect):Bool:=(decide (a.binds=2)||decide (b.binds=a.binds))&&(decide (a.text=2)||decide (b.text=a.text))&&decide (a.sum<=b.sum)&&decide (a.recourse=b.recourse)
def aoP {v:View}{g:File}(h:MoreF v.file g)(s:Int)(LX:v.form=0\/v.form=1\/v.form=2):RK (jK v s) (jK (eu v g) s)=true:=by
 have m1:=XD h 1 s;have m2:=XD h 2 s;have m4:=XD h 4 s;have t1:cm v 1 s=0\/cm v 1 s=1\/cm v 1 s=2:=IW _;have t2:cm v 2 s=0\/cm v 2 s=1\/cm v 2 s=2:=IW _;have u1:cm (eu v g) 1 s=0\/cm (eu v g) 1 s=1\/cm (eu v g) 1 s=2:=IW _;have u2:cm (eu v g) 2 s=0\/cm (eu v g) 2 s=1\/cm (eu v g) 2 s=2:=IW _;have e1:(eu v g).file.alters=v.file.alters:=h.same.alters;have e2:mN (eu v g).file s v.file.alters.length=mN v.file s v.file.alters.length:=by unfold mN;rw[e1]
 have e3:rD (eu v g).file=rD v.file:=by unfold rD;rw[e1]
 have e4:=aAT (g:=(eu v g).file) h.same s v.file.alters.length;have es:=aAP (g:=(eu v g).file) h.same s v.day;have hb:kY [v.form,cm v 1 s,cm v 2 s] 1=2\/kY [v.form,cm (eu v g) 1 s,cm (eu v g) 2 s] 1=kY [v.form,cm v 1 s,cm v 2 s] 1:=by
  rw[afz _ _ _ LX t1 t2,afz _ _ _ LX u1 u2];generalize cm v 1 s=a1 at*;generalize cm v 2 s=a2 at*;generalize cm (eu v g) 1 s=b1 at*;generalize cm (eu v g) 2 s=b2 at*
  repeat' split
  all_goals omega
 have ht:((kG v s).1=2\/(kG (eu v g) s).1=(kG v s).1)/\(kG v s).2<=(kG (eu v g) s).2:=by
  unfold kG;rw[e1,e2,e3,e4];split
  .exact⟨.inr rfl,l7 _⟩
  generalize lj v.file s v.file.alters.length=x at*;generalize rD v.file=y at*;generalize cm v 4 s=a at*;generalize cm (eu v g) 4 s=b at*;by_cases ha:a=2
  .subst ha;rw[if_neg (by decide),if_pos rfl];refine⟨.inl rfl,?_⟩
   repeat' split
   all_goals simp
   all_goals omega
  .have:=m4 ha;subst this;exact⟨.inr rfl,l7 _⟩
 unfold RK jK;simp only[show(eu v g).file.signs=v.file.signs from h.same.signs,show(eu v g).day=v.day from rfl,show(eu v g).form=v.form from rfl,es];generalize kG v s=tx at*;generalize kG (eu v g) s=ty at*;generalize kY [v.form,cm v 1 s,cm v 2 s] 1=ja at*;generalize kY [v.form,cm (eu v g) 1 s,cm (eu v g) 2 s] 1=jb at*;obtain⟨h1,h2⟩:=ht;simp only[au,j5,decide_eq_true_eq];refine⟨⟨⟨?_,h1⟩,?_⟩,trivial⟩
 .split
  .exact .inr rfl
  .exact hb
 .split<;>omega
end Rm
namespace Rm
open Go Cx
end Rm
namespace Rm
open Go Go.Proofs Cx
structure SumsOK (f:File):Prop where
 bill:1<=f.bill.sum/\f.bill.sum<=1099511627776
 rate:0<=f.bill.rate/\f.bill.rate<=1000
 alters:∀a,a∈f.alters->1<=a.sum/\a.sum<=1099511627776
 signs:∀s,s∈f.signs->s.kind=1\/s.kind=4->1<=s.sum/\s.sum<=1099511627776
def SumsOK.at_ {f:File}(h:SumsOK f)(day:Int):SumsOK (bT f day):=
 ⟨h.bill,h.rate,λa ha=>h.alters a ((dK.1 ha).1),λs hs=>h.signs s ((Ji _).subset hs)⟩
def aAS {f:File}(h:SumsOK f)(sign:Int)(n:Nat):1<=lj f sign n/\lj f sign n<=1099511627776:=by
 unfold lj
 have key:∀(l:List Alter) (s:Int),(∀a,a∈l->a∈f.alters)->1<=s/\s<=1099511627776->1<=l.foldl (λs a=>if a.at_<=sign then a.sum else s) s/\l.foldl (λs a=>if a.at_<=sign then a.sum else s) s<=1099511627776:=by
  intro l
  induction l with
  |nil=>exact λs _ hs=>hs
  |cons a l ih=>
   intro s hl hs;rw[vG];refine ih _ (λb hb=>hl b (by simp[hb])) ?_;split
   .exact h.alters a (hl a (by simp))
   .exact hs
 exact key _ _ (λa ha=>abh ha) h.bill
def aus {f:File}{sign:Int}(h:SumsOK f)(ay:mN f sign f.alters.length=true):1<=rD f/\rD f<=1099511627776:=by
 unfold rD;have Gl:0<f.alters.length:=by
  rcases Eu f.alters.length with e|e
  .simp[mN,vH.mp e] at ay
  .exact e
 have af:f.alters.length-1<f.alters.length:=by omega
 have e:f.alters.getD (f.alters.length-1) default=f.alters[f.alters.length-1]:=by simp[af]
 rw[e];exact h.alters _ (bQ af)
def aA5 {v:View}(h:SumsOK v.file)(sign:Int):1<=(kG v sign).2/\(kG v sign).2<=1099511627776:=by
 have h1:=aAS h sign v.file.alters.length;unfold kG;split
 .exact h1
 rename_i ha;have h2:=aus (sign:=sign) h (by simpa using ha);split
 .exact h2
 split
 .simp only;omega
 .exact h1
def acY {v:View}(h:SumsOK v.file)(sign:Int)(h0:0<=sign)(h1:sign<v.file.signs.length):1<=(jK v sign).sum/\(jK v sign).sum<=1099511627776:=by
 have ht:=aA5 h sign;have af:sign.toNat<v.file.signs.length:=by omega
 have e:v.file.signs.getD sign.toNat default=v.file.signs[sign.toNat]:=by simp[af]
 unfold jK;simp only[e];split
 .rename_i hk;have:=h.signs _ (bQ af) hk;omega
 .exact ht
def aaM (n m:Int):aj T 73 [.int n,.int m] (.bool (wi n 0 m)):=by
 refine zyw 165 aBQ ?_;simp[Yx];by_cases h:0<=n<;>simp[wi,h]
end Rm
namespace Rm
open Go Cx
structure Ratio where
 num:Int
 den:Int
 deriving DecidableEq,Inhabited
structure Quote where
 perMille:Int
 fails:List Ratio
 deriving DecidableEq,Inhabited
def Ratio.right (p:Ratio):Prop:=1<=p.den/\p.den<=1073741824/\0<=p.num/\p.num<=p.den
def j0 (n:Int)(p:Ratio):Int:=(n*p.num+p.den-1)/p.den
def aAK {n m:Int}{p:Ratio}(hp:p.right)(h:n<=m):j0 n p<=j0 m p:=by
 unfold j0;have h1:n*p.num<=m*p.num:=ak7 h hp.2.2.1;exact Pv (by have:=hp.1;omega) (by omega)
def IP {n:Int}{p:Ratio}(hp:p.right)(h:0<=n):0<=j0 n p:=by
 unfold j0;have h1:0<=n*p.num:=uk h hp.2.2.1;exact Pw (by have:=hp.1;omega) (by have:=hp.1;omega)
def XO {n:Int}{p:Ratio}(hp:p.right)(h:0<=n):j0 n p<=n:=by
 unfold j0;have h1:n*p.num<=n*p.den:=aa3 hp.2.2.2 h;have h2:n*p.num+p.den-1<(n+1)*p.den:=by rw[Jc];omega
 have h3:=Int.ediv_lt_of_lt_mul (by have:=hp.1;omega:0<p.den) h2;omega
def rA (p:Ratio):Nat->Int->Int
 |0,n=>n
 |k+1,n=>rA p k (j0 n p)
def afx {p:Ratio}(hp:p.right):∀(k:Nat) {n:Int},0<=n->0<=rA p k n
 |0,_,h=>h
 |k+1,_,h=>afx hp k (IP hp h)
def TJ {p:Ratio}(hp:p.right):∀(k:Nat) {n:Int},0<=n->rA p k n<=n
 |0,_,h=>l7 _
 |k+1,_,h=>Jd (TJ hp k (IP hp h)) (XO hp h)
def afw {p:Ratio}(hp:p.right):∀(a b:Nat) {n m:Int},a<=b->0<=n->n<=m->rA p b n<=rA p a m
 |0,b,n,m,_,h0,h=>Jd (TJ hp b h0) h
 |a+1,b,n,m,mc,h0,h=>by
  obtain⟨b,rfl⟩:∃c,b=c+1:=⟨b-1,by omega⟩
  exact afw hp a b (by omega) (IP hp h0) (aAK hp h)
def nO (ps:List Ratio)(uB:Nat->Nat):Nat->Int
 |0=>1000000000
 |g+1=>rA (ps.getD g default) (uB g) (nO ps uB g)
def mI (ps:List Ratio):Prop:=ps.length=10/\∀p,p∈ps->p.right
def mI.at {ps:List Ratio}(h:mI ps){g:Nat}(hg:g<10):(ps.getD g default).right:=by
 have:g<ps.length:=by rw[h.1];exact hg
 rw[aH,aY this];exact h.2 _ (bQ this)
def K6 {ps:List Ratio}(h:mI ps)(uB:Nat->Nat):∀g,g<=10->0<=nO ps uB g
 |0,_=>by simp[nO]
 |g+1,hg=>afx (h.at (by omega)) _ (K6 h uB g (by omega))
def acm {ps:List Ratio}(h:mI ps)(uB:Nat->Nat):∀g,g<=10->nO ps uB g<=1000000000
 |0,_=>l7 _
 |g+1,hg=>Jd (TJ (h.at (by omega)) _ (K6 h uB g (by omega))) (acm h uB g (by omega))
def acn {ps:List Ratio}(h:mI ps){a b:Nat->Nat}(mc:∀g,a g<=b g):∀g,g<=10->nO ps b g<=nO ps a g
 |0,_=>l7 _
 |g+1,hg=>afw (h.at (by omega)) _ _ (mc g) (K6 h b g (by omega)) (acn h mc g (by omega))
def aco (ps:List Ratio){a:Nat->Nat}(h:∀g,a g=0):∀g,nO ps a g=1000000000
 |0=>rfl
 |g+1=>by rw[nO,h g,rA,aco ps h g]
def gq (gs:List Int)(g:Nat):Nat:=(gs.filter λx=>decide (x=(g:Int))).length
def adp (ps:List Ratio):∀(k a:Nat) (gs:List Int) (n:Int),a+k=10->gs.Pairwise (·<=·)->(∀x,x∈gs->(a:Int)<=x/\x<10)->
 gs.foldl (λn x=>j0 n (ps.getD x.toNat default)) n=(List.range k).foldl (λn i=>rA (ps.getD (a+i) default) (gq gs (a+i)) n) n
 |0,a,gs,n,hk,hs,hx=>by
  cases gs with
  |nil=>rfl
  |cons x gs=>have:=hx x (by simp);omega
 |k+1,a,gs,n,hk,hs,hx=>by
  have key:∀(gs:List Int) (n:Int),gs.Pairwise (·<=·)->(∀x,x∈gs->(a:Int)<=x/\x<10)->gs.foldl (λn x=>j0 n (ps.getD x.toNat default)) n=(gs.filter λx=>decide (x≠(a:Int))).foldl (λn x=>j0 n (ps.getD x.toNat default)) (rA (ps.getD a default) (gq gs a) n):=by
   intro gs
   induction gs with
   |nil=>intro n _ _;rfl
   |cons x gs ih=>
    intro n hs hx;obtain⟨h1,h2⟩:=xX.1 hs;by_cases e:x=(a:Int)
    .subst e;rw[vG,ih _ h2 (λy hy=>hx y (by simp[hy]))];have e1:gq ((a:Int)::gs) a=gq gs a+1:=by simp[gq]
     rw[e1,rA];simp
    .have aP:∀y,y∈x::gs->y≠(a:Int):=λy hy e'=>by
       subst e';rcases cv.1 hy with h|h
       .exact e h.symm
       .have:=h1 _ h;have:=(hx x (by simp)).1;omega
     have e1:gq (x::gs) a=0:=by
       unfold gq;rw[vH,List.filter_eq_nil_iff];intro y hy;simpa using aP y hy
     have e2:(x::gs).filter (λx=>decide (x≠(a:Int)))=x::gs:=by
       rw[List.filter_eq_self];intro y hy;simpa using aP y hy
     rw[e1,e2];rfl
  rw[key gs n hs hx,adp ps k (a+1) _ _ (by omega) (hs.sublist List.filter_sublist) (λx da=>by
   obtain⟨h1,h2⟩:=dK.1 da;have h3:=hx x h1;have h4:x≠(a:Int):=by simpa using h2
   omega)]
  rw[List.range_succ_eq_map,vG,aba]
  have ec:∀i:Nat,gq (gs.filter λx=>decide (x≠(a:Int))) (a+1+i)=gq gs (a+1+i):=by
   intro i;unfold gq;rw[List.filter_filter]
   congr 1
   apply List.filter_congr;intro x _;by_cases e:x=((a+1+i:Nat):Int)
   .subst e;simp;omega
   .rw[decide_eq_false e,sr]
  simp only[ec,l9]
  congr 1
  funext n i;rw[show a+1+i=a+i.succ by omega]
def aqz (ps:List Ratio){gs:List Int}(hs:gs.Pairwise (·<=·))(hx:∀x,x∈gs->0<=x/\x<10):
 gs.foldl (λn x=>j0 n (ps.getD x.toNat default)) 1000000000=nO ps (gq gs) 10:=by
 rw[adp ps 10 0 gs _ rfl hs (λx h=>by have:=hx x h;omega)]
 have:∀k,(List.range k).foldl (λn i=>rA (ps.getD (0+i) default) (gq gs (0+i)) n) 1000000000=nO ps (gq gs) k:=by
  intro k
  induction k with
  |zero=>rfl
  |succ k ih=>rw[PL,sw,ih];simp[nO]
 exact this 10
def gQ (f:Nat->Int):Nat->Int
 |0=>0
 |n+1=>gQ f n+f (n+1)
def XP {f:Nat->Int}{p:Int}:∀(k a:Nat),(∀s,a<s->s<=a+k->f s=p)->gQ f (a+k)=gQ f a+(k:Int)*p
 |0,a,_=>by simp
 |k+1,a,h=>by
  show gQ f (a+k)+f (a+k+1)=_;rw[XP k a λs h1 h2=>h s h1 (by omega),h (a+k+1) (by omega) (by omega)];rw[Int.natCast_add,Jc];simp;omega
def OY {f g:Nat->Int}:∀n,(∀s,0<s->s<=n->f s<=g s)->gQ f n<=gQ g n
 |0,_=>l7 _
 |n+1,h=>by
  have h1:=OY n λs h1 h2=>h s h1 (by omega);have h2:=h (n+1) (by omega) (by omega);show gQ f n+f (n+1)<=gQ g n+g (n+1);omega
def XQ {f:Nat->Int}{m:Nat}(h:∀s,m<s->f s=0){n:Nat}(hn:m<=n):gQ f n=gQ f m:=by
 have:=XP (f:=f) (p:=0) (n-m) m λs h1 h2=>h s h1;rw[show m+(n-m)=n by omega] at this;simpa using this
abbrev WS:Type:=Int×Int×Int
def xx (pay:Nat->Int)(w:WS)(s:Int):WS:=
 if s<=w.2.2 then w else
    (w.1+(s-w.2.2)/1000000000*pay s.toNat+((s-w.2.2)%1000000000*pay s.toNat+w.2.1)/1000000000,((s-w.2.2)%1000000000*pay s.toNat+w.2.1)%1000000000,s)
def iX (pay:Nat->Int)(L:List Int):WS:=L.foldl (xx pay) (0,0,0)
structure InvW (pay:Nat->Int) (w:WS):Prop where
 sum:1000000000*w.1+w.2.1=gQ pay w.2.2.toNat
 r0:0<=w.2.1
 r1:w.2.1<1000000000
 b0:0<=w.2.2
def InvW.start (pay:Nat->Int):InvW pay (0,0,0):=⟨by simp[gQ],by simp,by simp,by simp⟩
def InvW.step {pay:Nat->Int}(hp:∀s,0<=pay s){w:WS}(h:InvW pay w){x:Int}(hc:∀s:Nat,w.2.2<s->(s:Int)<=x->pay s=pay x.toNat):InvW pay (xx pay w x):=by
 unfold xx;by_cases hx:x<=w.2.2
 .rw[if_pos hx];exact h
 rw[if_neg hx];obtain⟨h1,h2,h3,h4⟩:=h;obtain⟨whole,rest,below⟩:=w;simp only at*;have hk:below.toNat+(x-below).toNat=x.toNat:=by omega
 have hs:=XP (f:=pay) (p:=pay x.toNat) (x-below).toNat below.toNat λs k1 k2=>hc s (by omega) (by omega);rw[hk] at hs;have e1:(((x-below).toNat:Nat):Int)=x-below:=by omega
 rw[e1] at hs;have hm:=Int.mul_ediv_add_emod ((x-below)%1000000000*pay x.toNat+rest) 1000000000;have hw:=Int.mul_ediv_add_emod (x-below) 1000000000;have hmul:(x-below)*pay x.toNat=1000000000*((x-below)/1000000000*pay x.toNat)+(x-below)%1000000000*pay x.toNat:=by
  rw[<-Int.mul_assoc,<-Jc,hw]
 have p0:=hp x.toNat;refine⟨?_,?_,?_,?_⟩
 .show 1000000000*(whole+(x-below)/1000000000*pay x.toNat+((x-below)%1000000000*pay x.toNat+rest)/1000000000)+((x-below)%1000000000*pay x.toNat+rest)%1000000000=gQ pay x.toNat;rw[hs,<-h1,hmul];generalize (x-below)/1000000000*pay x.toNat=A at*;generalize (x-below)%1000000000*pay x.toNat=B at*;omega
 .exact Int.emod_nonneg _ (by omega)
 .exact Int.emod_lt_of_pos _ (by omega)
 .show 0<=x;omega
def Pu (pay:Nat->Int)(L:List Int):Prop:=∀s x:Nat,s<=x->(∀y,y∈L->y<(s:Int)\/(x:Int)<=y)->pay s=pay x
def RF {pay:Nat->Int}(hp:∀s,0<=pay s){L:List Int}(hg:Pu pay L)(hs:L.Pairwise (·<=·))(h0:∀x,x∈L->0<=x):∀k,k<=L.length->
 InvW pay (iX pay (L.take k))/\(∀j (hj:j<L.length),j<k->L[j]<=(iX pay (L.take k)).2.2)/\((iX pay (L.take k)).2.2=0\/(iX pay (L.take k)).2.2∈L)
 |0,_=>⟨.start pay,λj _ h=>absurd h (Nat.not_lt_zero _),.inl rfl⟩
 |k+1,hk=>by
  obtain⟨h1,h2,h3⟩:=RF hp hg hs h0 k (by omega);have af:k<L.length:=by omega
  have e:iX pay (L.take (k+1))=xx pay (iX pay (L.take k)) L[k]:=by
   unfold iX;rw[iS af,sw];rfl
  rw[e];generalize iX pay (L.take k)=w at*;have hx0:=h0 _ (bQ af);refine⟨h1.step hp λs k1 k2=>?_,λj hj mY=>?_,?_⟩
  .refine hg s _ (by omega) λy hy=>?_;obtain⟨j,hj,rfl⟩:=fw hy;by_cases mY:j<k
   .have:=h2 j hj mY;omega
   .have:L[k]<=L[j]:=by
     by_cases e:j=k
     .subst e;exact l7 _
     .exact PH.1 hs k j af hj (by omega)
    omega
  .unfold xx;by_cases hx:L[k]<=w.2.2
   .rw[if_pos hx];by_cases e:j=k
    .subst e;exact hx
    .exact h2 j hj (by omega)
   .rw[if_neg hx];show L[j]<=L[k];by_cases e:j=k
    .subst e;exact l7 _
    .exact PH.1 hs j k hj af (by omega)
  .unfold xx;by_cases hx:L[k]<=w.2.2
   .rw[if_pos hx];exact h3
   .rw[if_neg hx];exact .inr (bQ af)
def aqy {pay:Nat->Int}(hp:∀s,0<=pay s){L:List Int}(hg:Pu pay L)(hs:L.Pairwise (·<=·))(h0:∀x,x∈L->0<=x){m:Nat}(hm:∀x,x∈L->x<=(m:Int))(hz:∀s:Nat,(∀y,y∈L->y<(s:Int))->pay s=0):
 (iX pay L).1=gQ pay m/1000000000:=by
 obtain⟨h1,h2,h3⟩:=RF hp hg hs h0 L.length (aZ _);rw[Jk] at h1 h2 h3;generalize iX pay L=w at*;have hb:w.2.2.toNat<=m:=by
  rcases h3 with e|e
  .rw[e];exact kf _
  .have:=hm _ e;omega
 have aeY:gQ pay m=gQ pay w.2.2.toNat:=XQ (λs eh=>hz s λy hy=>by
  obtain⟨j,hj,rfl⟩:=fw hy;have:=h2 j hj hj;have:=h1.b0;omega) hb
 rw[aeY,<-h1.sum];have:=h1.r0;have:=h1.r1;omega
def Ug (e:Effect):Bool:=decide (e.binds=1)&&(decide (e.kind=1)||e.recourse)
def mT (r:Realm)(e:Effect):Int:=(r.firms.getD e.firm.toNat default).group
def fC (r:Realm)(g:Int):Int:=(r.groups.getD g.toNat default).grade
def dN (r:Realm)(l:List Effect)(s:Int):List Int:=kh (lR ((l.filter λe=>decide (s<=e.sum)).map (mT r)))
def sW {r:Realm}{l:List Effect}{s g:Int}:g∈dN r l s↔∃e,e∈l/\s<=e.sum/\mT r e=g:=by
 unfold dN;rw[anP (Mv _),aue];simp only[cd,dK,decide_eq_true_eq,and_assoc]
def vX (r:Realm)(l:List Effect)(s:Int):(dN r l s).Pairwise (·<·):=anQ (Mv _)
def sH (r:Realm)(gs:List Int)(ps:List Ratio):Int:=nO ps (gq (gs.map (fC r))) 10
def eZ (r:Realm)(l:List Effect)(ps:List Ratio)(s:Nat):Int:=1000000000-sH r (dN r l s) ps
def zD:∀{a b:List Int},a.Pairwise (·<·)->b.Pairwise (·<·)->(∀x,x∈a->x∈b)->a.Sublist b
 |[],b,_,_,_=>List.nil_sublist b
 |x::a,[],_,_,h=>by have:=h x (by simp);cases this
 |x::a,y::b,ha,hb,h=>by
  obtain⟨a1,a2⟩:=xX.1 ha;obtain⟨b1,b2⟩:=xX.1 hb;by_cases e:x=y
  .subst e;refine List.Sublist.cons_cons _ (zD a2 b2 λz hz=>?_);rcases cv.1 (h z (by simp[hz])) with e|e
   .have:=a1 z hz;omega
   .exact e
  .refine .cons _ (zD ha b2 λz hz=>?_);rcases cv.1 (h z hz) with e'|e'
   .subst e';rcases cv.1 hz with e2|e2
    .exact absurd e2.symm e
    .have h1:=a1 _ e2;rcases cv.1 (h x (by simp)) with e3|e3
     .exact absurd e3 e
     .have:=b1 _ e3;omega
   .exact e'
def afk {a b:List Int}(ha:a.Pairwise (·<·))(hb:b.Pairwise (·<·))(h:∀x,x∈a↔x∈b):a=b:=
 (zD ha hb λx hx=>(h x).1 hx).eq_of_length (Nat.le_antisymm (zD ha hb λx hx=>(h x).1 hx).length_le (zD hb ha λx hx=>(h x).2 hx).length_le)
def ano {a b:List Int}(h:a.Sublist b)(f:Int->Int)(g:Nat):gq (a.map f) g<=gq (b.map f) g:=((h.map f).filter _).length_le
def am3 {r:Realm}{ps:List Ratio}(hq:mI ps){a b:List Int}(ha:a.Pairwise (·<·))(hb:b.Pairwise (·<·))(h:∀x,x∈a->x∈b):sH r b ps<=sH r a ps:=
 acn hq (λg=>ano (zD ha hb h) _ g) 10 (aZ _)
def Ae {r:Realm}{ps:List Ratio}(hq:mI ps)(l:List Effect)(s:Nat):0<=eZ r l ps s/\eZ r l ps s<=1000000000:=by
 unfold eZ sH;have h1:=K6 hq (gq ((dN r l s).map (fC r))) 10 (aZ _);have h2:=acm hq (gq ((dN r l s).map (fC r))) 10 (aZ _);omega
def ayq {r:Realm}{ps:List Ratio}{l:List Effect}{s:Nat}(h:∀e,e∈l->e.sum<(s:Int)):eZ r l ps s=0:=by
 have e1:dN r l s=[]:=by
  rw[aa7];intro g hg;obtain⟨e,he,h1,_⟩:=sW.1 hg;have:=h e he;omega
 unfold eZ sH;rw[e1,aco ps (a:=gq (([]:List Int).map (fC r))) (λg=>rfl)];rfl
def aiG (r:Realm)(l:List Effect)(ps:List Ratio):Pu (eZ r l ps) (l.map (·.sum)):=by
 intro s x wB h;have e1:dN r l s=dN r l x:=by
  refine afk (vX _ _ _) (vX _ _ _) λg=>?_;rw[sW,sW];refine exists_congr λe=>and_congr_right λhe=>and_congr_left λ_=>?_;have:=h e.sum (A4 he);omega
 unfold eZ;rw[e1]
def aqL {r:Realm}{l l':List Effect}(h:∀e,e∈l↔e∈l')(s:Int):dN r l s=dN r l' s:=
 afk (vX _ _ _) (vX _ _ _) λg=>by
  rw[sW,sW];exact exists_congr λe=>and_congr_left λ_=>h e
def pv (r:Realm)(l:List Effect)(ps:List Ratio):Int:=gQ (eZ r l ps) 1099511627776/1000000000
def aEo {r:Realm}{l l':List Effect}{ps:List Ratio}(hq:mI ps)(hp:∀e,e∈l'↔e∈l)(hs:l'.Pairwise (λa b=>a.sum<=b.sum))(h0:∀e,e∈l->0<=e.sum/\e.sum<=1099511627776):
 (iX (eZ r l ps) (l'.map (·.sum))).1=pv r l ps:=by
 have hm:∀y,y∈l'.map (·.sum)->∃e,e∈l/\e.sum=y:=λy hy=>by
  obtain⟨e,he,rfl⟩:=cd.1 hy;exact⟨e,(hp e).1 he,rfl⟩
 refine aqy (λs=>(Ae hq l s).1) (λs x wB h=>?_) (Jh.2 hs) (λx hx=>?_) (λx hx=>?_) (λs h=>?_)
 .refine aiG r l ps s x wB λy hy=>?_;obtain⟨e,he,rfl⟩:=cd.1 hy;exact h _ (A4 ((hp e).2 he))
 .obtain⟨e,he,rfl⟩:=hm x hx;exact(h0 e he).1
 .obtain⟨e,he,rfl⟩:=hm x hx;exact(h0 e he).2
 .exact ayq λe he=>h _ (A4 ((hp e).2 he))
def aEp {r:Realm}{l l':List Effect}{ps:List Ratio}(hq:mI ps)(h:∀e,e∈l->∃e',e'∈l'/\e.sum<=e'.sum/\mT r e'=mT r e):pv r l ps<=pv r l' ps:=by
 unfold pv;refine Pv (by omega) (OY _ λs _ _=>?_)
 have:=am3 (r:=r) hq (vX r l s) (vX r l' s) λg hg=>by
  obtain⟨e,he,h1,h2⟩:=sW.1 hg;obtain⟨e',oA,h3,h4⟩:=h e he;exact sW.2 ⟨e',oA,by omega,by rw[h4,h2]⟩
 unfold eZ;omega
def XR {f:Nat->Int}{c:Int}:∀n,(∀s,0<s->s<=n->f s<=c)->gQ f n<=(n:Int)*c
 |0,_=>by simp[gQ]
 |n+1,h=>by
  have h1:=XR n λs h1 h2=>h s h1 (by omega);have h2:=h (n+1) (by omega) (by omega);show gQ f n+f (n+1)<=_;rw[Int.natCast_add,Jc];simp;omega
def aaN {r:Realm}{l:List Effect}{ps:List Ratio}(hq:mI ps):0<=pv r l ps:=by
 unfold pv;refine Pw ?_ (by omega);have h1:=OY (f:=λ_=>0) (g:=eZ r l ps) 1099511627776 λs _ _=>(Ae hq l s).1;have h2:=XQ (f:=λ_=>(0:Int)) (m:=0) (λ_ _=>rfl) (kf 1099511627776);have h3:gQ (λ_=>(0:Int)) 0=0:=rfl;rw[h2,h3] at h1;exact h1
def jV (w x:Int):Int:=(w*x+359999)/360000
def pG (w pm d:Int):Int×Int:=
 if wi w 0 1099511627776=true/\wi pm 0 1000=true/\wi d 0 20000=true then(if jV w (pm*d)<=w then(jV w (pm*d),0) else(0,3)) else(0,1)
def rG (w x:Int):Int:=if jV w x<=w then w-jV w x else 0
def axB {w x:Int}(hw:0<=w)(hx:0<=x):0<=jV w x:=by
 unfold jV;have:=uk hw hx;omega
def Uu {w x:Int}(hw:0<=w)(hx:0<=x):0<=rG w x/\rG w x<=w:=by
 have:=axB hw hx;unfold rG;split<;>omega
def axp {w w' x:Int}(hw:0<=w)(hx:0<=x)(h:w<=w'):rG w x<=rG w' x:=by
 by_cases hb:x<=360000
 .have h1:w'*x<=w*x+(w'-w)*360000:=by
   have e:w'*x=w*x+(w'-w)*x:=by rw[<-Jc];congr 1;omega
   rw[e];have:=aa3 hb (show 0<=w'-w by omega);omega
  have h2:jV w' x<=jV w x+(w'-w):=by
   unfold jV;generalize w'*x=A at*;generalize w*x=B at*;omega
  unfold rG;split<;>split<;>omega
 .have:rG w x=0:=by
   unfold rG;by_cases h0:w=0
   .subst h0;have:jV 0 x=0:=by unfold jV;rw[Int.zero_mul];rfl
    rw[this];simp
   .have h1:w*360001<=w*x:=aa3 (by omega) hw;have h2:w<jV w x:=by
     unfold jV;generalize w*x=A at*;omega
    rw[if_neg (by omega)]
  rw[this];exact(Uu (by omega) hx).1
def anZ {w pm d:Int}(hw:0<=w/\w<=1099511627776)(hp:0<=pm/\pm<=1000)(hd:0<=d/\d<=20000):(if(pG w pm d).2≠0 then 0 else w-(pG w pm d).1)=rG w (pm*d):=by
 have e:pG w pm d=if jV w (pm*d)<=w then(jV w (pm*d),0) else(0,3):=by
  unfold pG;rw[if_pos ⟨by simp[wi];omega,by simp[wi];omega,by simp[wi];omega⟩]
 rw[e];unfold rG;split<;>simp
def w6 (w pm due day:Int):Int×Int:=
 if due=-1 then(0,4) else if day<due/\20000<due-day then(0,3) else(rG w (pm*max (due-day) 0),0)
def ayJ {w w' pm due day:Int}(hw:0<=w)(hp:0<=pm)(h:w<=w'):(w6 w pm due day).1<=(w6 w' pm due day).1/\(w6 w pm due day).2=(w6 w' pm due day).2:=by
 unfold w6;have:0<=pm*max (due-day) 0:=uk hp (by omega);split
 .exact⟨l7 _,rfl⟩
 split
 .exact⟨l7 _,rfl⟩
 .exact⟨axp hw this h,rfl⟩
def ann {a b:List Int}(h:a.Perm b)(g:Nat):gq a g=gq b g:=(h.filter _).length_eq
end Rm
namespace Rm
open Go Go.Proofs Cx
def q9 (x:Ratio):D:=.agg [.int x.num,.int x.den]
@[simp] def aF2 (x:Ratio):(q9 x).cells=[.int x.num,.int x.den]:=zyz
@[simp] def aKv (x:Ratio):D.agg [.int x.num,.int x.den]=q9 x:=zyz
@[simp] def aF0 (x:Ratio):(q9 x).c 0=.int x.num:=zyz
@[simp] def aF1 (x:Ratio):(q9 x).c 1=.int x.den:=zyz
def vn (l:List Ratio):D:=.list (l.map q9)
@[simp] def aK0 (l:List Ratio):(vn l).l=l.map q9:=zyz
@[simp] def aKZ (l:List Ratio):(vn l).cells=[vn l]:=zyz
def q7 (x:Quote):D:=.agg [.int x.perMille,vn x.fails]
@[simp] def aFT (x:Quote):(q7 x).cells=[.int x.perMille,vn x.fails]:=zyz
@[simp] def aKt (x:Quote):D.agg [.int x.perMille,vn x.fails]=q7 x:=zyz
@[simp] def aFR (x:Quote):(q7 x).c 0=.int x.perMille:=zyz
@[simp] def aFS (x:Quote):(q7 x).c 1=vn x.fails:=zyz
abbrev akD:Ty:=.agg [.int .i64,.int .i64]
abbrev aDV:Ty:=.agg [.int .i64,.slice akD]
def Ratio.OK (x:Ratio):Prop:=aX x.num/\aX x.den
def Quote.OK (x:Quote):Prop:=aX x.perMille/\x.fails.length<=maxLen/\∀p,p∈x.fails->p.OK
def azo {d:D}(h:DTy akD d):∃x:Ratio,d=q9 x/\x.OK:=by
 obtain⟨ds,rfl,hs⟩:=h.agg_inv;obtain⟨d0,ds,rfl,h0,hs⟩:=hs.cons_inv;obtain⟨d1,ds,rfl,h1,hs⟩:=hs.cons_inv;obtain rfl:=hs.nil_inv;obtain⟨n0,rfl,b0⟩:=h0.i64_inv;obtain⟨n1,rfl,b1⟩:=h1.i64_inv;exact⟨⟨n0,n1⟩,rfl,⟨b0,b1⟩⟩
def ayS {d:D}(h:DTy aDV d):∃x:Quote,d=q7 x/\x.OK:=by
 obtain⟨ds,rfl,hs⟩:=h.agg_inv;obtain⟨d0,ds,rfl,h0,hs⟩:=hs.cons_inv;obtain⟨d1,ds,rfl,h1,hs⟩:=hs.cons_inv;obtain rfl:=hs.nil_inv;obtain⟨n0,rfl,b0⟩:=h0.i64_inv;obtain⟨xs,rfl,hm,hx⟩:=h1.slice_inv;obtain⟨l,rfl,hl⟩:=kz (enc:=q9) (P:=Ratio.OK) λx hh=>azo (hx x hh);exact⟨⟨n0,l⟩,rfl,⟨b0,by simpa using hm,hl⟩⟩
def pC (p:Ratio):Bool:=decide (p.den<1)||decide (1073741824<p.den)||decide (p.num<0)||decide (p.den<p.num)
def lf (q:Quote):Int:=if q.perMille<0\/1000<q.perMille\/q.fails.length≠10\/q.fails.any pC=true then 1 else 0
def Hn {q:Quote}(h:lf q=0):0<=q.perMille/\q.perMille<=1000/\mI q.fails:=by
 unfold lf at h;split at h
 .cases h
 rename_i h1;have h2:q.fails.any pC=false:=by
  cases e:q.fails.any pC with
  |false=>rfl
  |true=>exact absurd (.inr (.inr (.inr e))) h1
 refine⟨by omega,by omega,?_,λp hp=>?_⟩
 .exact vB λe=>h1 (.inr (.inr (.inl e)))
 .have:=List.any_eq_false.1 h2 p hp;simp[pC] at this;unfold Ratio.right;omega
def ak1 (l:List Ratio)(f:Nat)(caps:List D)(g:Nat->Bool)(hg:∀k (hk:k<l.length),aj T f (q9 l[k]::caps) (.bool (g k)))(hl:l.length<=4294967296):
 aj T 143 [vn l,.clo f caps] (.int (ml l.length g)):=by
 refine zyw 85 aDm ?_;simp[Z1];refine .scan l.length (λk=>g k=false) (λk=>[.int 0,.int k]) (λ_=>[]) ?_ (λk hk hj ho=>?_) (λk hk hj ho=>?_) (λhj=>?_)
 .simp
 .have hw:=bq hk hl;simp[Xf,Ir,hk,hw];refine⟨_,_,⟨rfl,rfl⟩,_,hg k hk,?_⟩;simp[ho,hw]
 .have he:=GN hk (by simpa using ho) hj;simp[Xf,Ir,hk,he];refine⟨_,_,⟨rfl,rfl⟩,_,hg k hk,?_⟩;simp[ho]
 .have he:=GM hj;simp[Xf,Ir,he]
def akS (l:List Ratio)(f:Nat)(caps:List D)(g:Nat->Bool)(hg:∀k (hk:k<l.length),aj T f (q9 l[k]::caps) (.bool (g k)))(hl:l.length<=4294967296):
 aj T 111 [vn l,.clo f caps] (.bool ((List.range l.length).any g)):=by
 refine zyw 84 aDg ?_;simp[ZV];refine⟨_,ak1 l f caps g hg hl,?_⟩;have:=My l.length g;simp[<-this]
def akN (p:Ratio):aj T 110 [q9 p] (.bool (pC p)):=by
 refine zyw 83 aCi ?_;simp[YT,pC];by_cases h1:p.den<1<;>by_cases h2:1073741824<p.den<;>by_cases h3:p.num<0<;>by_cases h4:p.den<p.num<;>simp[h1,h2,h3,h4]
def akO (q:Quote)(hl:q.fails.length<=4294967296):aj T 69 [q7 q] (.int (lf q)):=by
 refine zyw 82 aCj ?_
 have h:=akS q.fails 110 [] (λk=>pC (q.fails.getD k default)) (λk hk=>by
  have e:q.fails.getD k default=q.fails[k]:=by simp[hk]
  rw[e];exact akN _) hl
 have e:(List.range q.fails.length).any (λk=>pC (q.fails.getD k default))=q.fails.any pC:=by
  rw[uh,xR,xR];constructor
  .rintro⟨k,hk,hb⟩;have bn:=fR.1 hk;exact⟨q.fails[k],bQ bn,by simpa [bn] using hb⟩
  .rintro⟨p,hp,hb⟩;obtain⟨k,hk,rfl⟩:=fw hp;exact⟨k,fR.2 hk,by simpa [hk] using hb⟩
 rw[e] at h;by_cases p1:0<=q.perMille
 case neg=>
  have n1:q.perMille<0:=by omega
  have e1:lf q=1:=by unfold lf;rw[if_pos (.inl n1)]
  rw[e1];simp[Ec,p1,n1]
 have n1:¬q.perMille<0:=by omega
 by_cases p2:q.perMille<=1000
 case neg=>
  have n2:1000<q.perMille:=by omega
  have e1:lf q=1:=by unfold lf;rw[if_pos (.inr (.inl n2))]
  rw[e1];simp[Ec,p1,n1,p2,n2]
 have n2:¬1000<q.perMille:=by omega
 by_cases p3:q.fails.length=10
 case neg=>
  have n3:¬(q.fails.length:Int)=10:=by omega
  have e1:lf q=1:=by unfold lf;rw[if_pos (.inr (.inr (.inl p3)))]
  rw[e1];simp[Ec,p1,n1,p2,n2,p3,n3]
 have n3:(q.fails.length:Int)=10:=by omega
 have e1:lf q=if q.fails.any pC=true then 1 else 0:=by
  unfold lf;by_cases hb:q.fails.any pC=true
  .rw[if_pos hb,if_pos (.inr (.inr (.inr hb)))]
  .rw[if_neg hb,if_neg (by rintro(h|h|h|h);exact n1 h;exact n2 h;exact h p3;exact hb h)]
 rw[e1];clear e e1;generalize q.fails.any pC=b at h ⊢;simp[Ec,p1,n1,p2,n2,p3,n3];refine⟨_,h,?_⟩;cases b<;>simp
def ayl (a b c:Nat)(ha:a<9223372036854775808)(hb:b<9223372036854775808)(hc:0<c)(hc2:c<9223372036854775808):
 aj T 74 [.int a,.int b,.int c] (if 1099511627776<a*b/c then .tup [.int 0,.int 0,.bool false] else .tup [.int ((a*b/c:Nat):Int),.int ((a*b%c:Nat):Int),.bool true]):=by
 refine zyw 166 aBP ?_;have wa:IntKind.u64.wrap (a:Int)=a:=j3 (by omega);have wb:IntKind.u64.wrap (b:Int)=b:=j3 (by omega);have wc:IntKind.u64.wrap (c:Int)=c:=j3 (by omega);simp[Yw,wa,wb,wc,-Int.natCast_ediv,-Int.natCast_emod,-Int.natCast_mul];refine⟨_,agw a b (by omega) (by omega),?_⟩;have CH:=A6 (a*b) 18446744073709551616;have pQ:a*b%18446744073709551616<18446744073709551616:=qG _ (by decide);generalize CL:a*b/18446744073709551616=hi at*;generalize aJw:a*b%18446744073709551616=lo at*;by_cases h1:c<=hi
 .have cC:(c:Int)<=(hi:Int):=by omega
  have ad2:18446744073709551616<=a*b/c:=by
   rw[PN hc];have:=Nat.mul_le_mul_left 18446744073709551616 h1;omega
  have dA:1099511627776<a*b/c:=by omega
  simp[h1,dA]
 .have cC:¬(c:Int)<=(hi:Int):=by omega
  have hd:=an0 hi lo c hc (by omega) pQ (by omega);have e:hi*18446744073709551616+lo=a*b:=by omega
  rw[e] at hd;have gA:a*b%c<c:=qG _ hc;simp[h1,-Int.natCast_ediv,-Int.natCast_emod,-Int.natCast_mul];refine⟨_,hd,?_⟩;generalize a*b/c=q at*;generalize a*b%c=r at*;by_cases h2:1099511627776<q
  .have gZ:(1099511627776:Int)<(q:Int):=by omega
   simp[h2,gZ]
  .have gZ:¬(1099511627776:Int)<(q:Int):=by omega
   have hw:i64.wrap (q:Int)=q:=aQ (by omega);have cZ:i64.wrap (r:Int)=r:=aQ (by omega);simp[h2,gZ,hw,cZ]
def amU (n:Nat):((n:Int)+359999)/360000=((n/360000:Nat):Int)+if 0<n%360000 then 1 else 0:=by
 split<;>omega
def akW (w pm d:Int):aj T 37 [.int w,.int pm,.int d] (.tup [.int (pG w pm d).1,.int (pG w pm d).2]):=by
 refine zyw 164 aBO ?_;simp[Yv];refine⟨_,aaM _ _,?_⟩;cases h1:wi w 0 1099511627776
 .simp[pG,h1]
 simp;refine⟨_,aaM _ _,?_⟩;cases h2:wi pm 0 1000
 .simp[pG,h1,h2]
 simp;refine⟨_,aaM _ _,?_⟩;cases h3:wi d 0 20000
 .simp[pG,h1,h2,h3]
 simp[wi] at h1 h2 h3;obtain⟨a,rfl⟩:=qB h1.1;obtain⟨b,rfl⟩:=qB h2.1;obtain⟨c,rfl⟩:=qB h3.1;have R3:b*c<=20000000:=fb (Ev (show b<=1000 by omega) (show c<=20000 by omega)) (by decide);have hw:i64.wrap ((b:Int)*(c:Int))=((b*c:Nat):Int):=by rw[<-Int.natCast_mul];exact aQ (by omega)
 have hp:=ayl a (b*c) 360000 (by omega) (by omega) (by decide) (by decide);have hdF:pG a b c=if jV a ((b*c:Nat):Int)<=(a:Int) then(jV a ((b*c:Nat):Int),0) else(0,3):=by
  unfold pG;rw[if_pos ⟨by simp[wi];omega,by simp[wi];omega,by simp[wi];omega⟩,Int.natCast_mul]
 have jd:jV a ((b*c:Nat):Int)=((a*(b*c)/360000:Nat):Int)+if 0<a*(b*c)%360000 then 1 else 0:=by
  unfold jV;rw[<-Int.natCast_mul,amU]
 rw[hdF,jd];generalize a*(b*c)/360000=q at*;generalize a*(b*c)%360000=r at*;simp[hw];refine⟨_,hp,?_⟩;by_cases hq:1099511627776<q
 .have:¬((q:Int)+(if 0<r then 1 else 0)<=(a:Int)):=by split<;>omega
  rw[if_pos hq];simp[this]
 .rw[if_neg hq];by_cases hr:0<r
  .have oJ:(0:Int)<(r:Int):=by omega
   have cZ:i64.wrap ((q:Int)+1)=(q:Int)+1:=aQ (by omega);by_cases hle:(q:Int)+1<=(a:Int)
   .have oE:¬((a:Int)<(q:Int)+1):=by omega
    simp[hr,oJ,cZ,hle,oE]
   .have oE:(a:Int)<(q:Int)+1:=by omega
    simp[hr,oJ,cZ,hle,oE]
  .have oJ:¬(0:Int)<(r:Int):=by omega
   by_cases hle:(q:Int)<=(a:Int)
   .have oE:¬((a:Int)<(q:Int)):=by omega
    have iJ:¬(a<q):=by omega
    simp[hr,oJ,hle,oE,iJ]
    try omega
   .have oE:(a:Int)<(q:Int):=by omega
    have iJ:a<q:=by omega
    simp[hr,oJ,hle,oE,iJ]
    try omega
def dG (r:Realm)(forum:Int)(f:File)(day:Int):List Effect:=(qZ r forum f day).filter Ug
def anT (l:List Effect)(h:l.length<=4294967296):aj T 84 [og l,.clo 86 []] (og (l.filter Ug)):=by
 refine .of_ext (g:=λ_ ds=>Lg ds) rfl ⟨0,λ_ _=>?_⟩;show(if 86=86/\(l.map jL).length<=4294967296 then some (D.list ((l.map jL).filter ij)) else none)=_;rw[if_pos ⟨rfl,by simpa using h⟩,List.filter_map];rfl
def Li (r:Realm)(forum:Int)(f:File)(day:Int):(qZ r forum f day).length<=f.signs.length:=by
 unfold qZ;rw[dX,abf];exact(Ji _).length_le
def afR (r:Realm)(hr:Right r)(hd:RightD r)(forum:Int)(f:File)(day:Int)(hf:FewS f):aj T 45 [aV r,.int forum,cr f,.int day] (og (dG r forum f day)):=by
 refine zyw 87 aCt ?_;simp[Za];have hl:=Li r forum f day;have:=hf.signs;refine⟨_,akY r hr hd forum f day hf,?_⟩;exact anT _ (by omega)
def TH (r:Realm)(forum:Int):aj T 43 [aV r,.int forum] (.bool (decide (0<=forum/\forum<r.orders.length))):=by
 refine zyw 86 aCr ?_;simp[YZ];by_cases h:0<=forum<;>simp[h]
end Rm
