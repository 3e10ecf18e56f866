/-
  Shared texts of this claim.
-/
import Derived.Test.YtopjnikcppafdaaGreatDoorMAP
import Derived.Test.YtopjnikcppafdaaGreatDoorMAK
import Derived.Test.YtopjnikcppafdaaGreatDoorMAJ
import Derived.Test.YtopjnikcppafdaaGreatDoorMAO
set_option linter.defProp false
set_option linter.unusedSimpArgs false
set_option linter.unusedVariables false
noncomputable section
open Go.IntKind (i64)
namespace Rm
open Go Go.Proofs Cx
def abx (R Y:Int)(hR:0<=R/\R<146097)(h1:365*Y<=R-R/1460+R/36524-R/146096)(h2:R-R/1460+R/36524-R/146096<365*Y+365):0<=R-(365*Y+Y/4-Y/100)/\R-(365*Y+Y/4-Y/100)<=500:=by
 have k0:R/36524<=R/1460:=by omega
 have k1:Y/4<=R/1460:=by omega
 have hY:0<=Y:=by omega
 have hc:R/36524=0\/R/36524=1\/R/36524=2\/R/36524=3\/R/36524=4:=by omega
 have k2:25*(R/36524)<=R/1460:=by omega
 refine⟨?_,?_⟩
 .rcases Int.lt_or_le Y (100*(R/36524)) with hy|hy
  .have k3:Y/4<=25*(R/36524)-1:=by omega
   have k4:R/36524-1<=Y/100:=by omega
   omega
  .have k3:R/36524<=Y/100:=by omega
   omega
 .omega
def aby (n:Int)(h:0<=n/\n<=100400):ah T 203 [.int n] (.tup [.int (fA n).1,.int (fA n).2.1,.int (fA n).2.2]):=by
 refine zyw 89 ayd ?_;have w:∀x:Int,-1000000000<=x->x<=1000000000->i64.wrap x=x:=λx a b=>aQ (by omega);have t:∀x y:Int,0<=x->x.tdiv y=x/y:=λx y hx=>DR hx;have u:∀x y:Int,0<=x->x.tmod y=x%y:=λx y hx=>Pk hx;simp[XA];unfold fA;simp only[];rw[w (n+730425) (by omega) (by omega),u (n+730425) 146097 (by omega),t (n+730425) 146097 (by omega)];have hR:0<=(n+730425)%146097/\(n+730425)%146097<146097:=by omega
 have hE:0<=(n+730425)/146097/\(n+730425)/146097<100:=by omega
 generalize (n+730425)%146097=R at*;generalize (n+730425)/146097=e at*;rw[t R 1460 (by omega),t R 36524 (by omega),t R 146096 (by omega),w (R/1460) (by omega) (by omega),w (R-R/1460) (by omega) (by omega),w (R/36524) (by omega) (by omega),w (R-R/1460+R/36524) (by omega) (by omega),w (R/146096) (by omega) (by omega),w (R-R/1460+R/36524-R/146096) (by omega) (by omega),t (R-R/1460+R/36524-R/146096) 365 (by omega)];have hY:0<=(R-R/1460+R/36524-R/146096)/365/\(R-R/1460+R/36524-R/146096)/365<400:=by omega
 have hD:0<=R-(365*((R-R/1460+R/36524-R/146096)/365)+(R-R/1460+R/36524-R/146096)/365/4-(R-R/1460+R/36524-R/146096)/365/100)/\R-(365*((R-R/1460+R/36524-R/146096)/365)+(R-R/1460+R/36524-R/146096)/365/4-(R-R/1460+R/36524-R/146096)/365/100)<=500:=by
  exact abx R _ hR (by omega) (by omega)
 generalize (R-R/1460+R/36524-R/146096)/365=Y at*;rw[w Y (by omega) (by omega),w (365*Y) (by omega) (by omega),t Y 4 (by omega),t Y 100 (by omega),w (Y/4) (by omega) (by omega),w (Y/100) (by omega) (by omega),w (365*Y+Y/4) (by omega) (by omega),w (365*Y+Y/4-Y/100) (by omega) (by omega),w (R-(365*Y+Y/4-Y/100)) (by omega) (by omega)];generalize R-(365*Y+Y/4-Y/100)=D at*;rw[w (5*D) (by omega) (by omega),w (5*D+2) (by omega) (by omega),t (5*D+2) 153 (by omega)];have hM:0<=(5*D+2)/153/\(5*D+2)/153<=20:=by omega
 generalize (5*D+2)/153=M at*;rw[w M (by omega) (by omega),w (M+3) (by omega) (by omega),w (M+3-12) (by omega) (by omega),w e (by omega) (by omega),w (400*e) (by omega) (by omega),w (Y+400*e) (by omega) (by omega),w (Y+400*e+1) (by omega) (by omega)];rw[w (153*M) (by omega) (by omega),w (153*M+2) (by omega) (by omega),t (153*M+2) 5 (by omega),w ((153*M+2)/5) (by omega) (by omega),w (D-(153*M+2)/5) (by omega) (by omega),w (D-(153*M+2)/5+1) (by omega) (by omega)];refine⟨?_,?_,rfl⟩
 .generalize (if 12<M+3 then M+3-12 else M+3)=m;split<;>rfl
 .split<;>rfl
def aj2 (d n:Int):∃x e:Int,ah T 183 [.int d,.int n] (.tup [.int x,.int e])/\(e=0->0<=x/\x<=100000):=by
 by_cases h0:eB d=true/\-5000<=n/\n<=5000
 .have hd:0<=d/\d<=100400:=by have:=h0.1;simp[eB] at this;omega
  obtain⟨A,hA⟩:∃A,A=i64.wrap (i64.wrap (i64.wrap (i64.wrap (12*(fA d).1)+(fA d).2.1)-1)+n):=⟨_,rfl⟩
  obtain⟨Y,hY⟩:∃Y,Y=i64.wrap (A.tdiv 12):=⟨_,rfl⟩
  obtain⟨M,hM⟩:∃M,M=i64.wrap (A.tmod 12+1):=⟨_,rfl⟩
  obtain⟨x,e,hD,hb⟩:=aj9 Y M (if CC Y M<(fA d).2.2 then CC Y M else(fA d).2.2);refine⟨x,e,.of_tree rfl aa3 ajB ?_,hb⟩;have n1:¬n< -5000:=by omega
  have n2:¬5000<n:=by omega
  simp[OS,n1,n2];refine⟨_,IL d,?_⟩;simp[h0.1];refine⟨_,aby d hd,?_⟩;simp[<-hA,<-hY,<-hM];refine⟨_,Ms Y M,?_⟩;by_cases hl:CC Y M<(fA d).2.2
  .simp only[if_pos hl] at hD;simp[hl];refine⟨_,hD,?_⟩;simp
  .simp only[if_neg hl] at hD;simp[hl];refine⟨_,hD,?_⟩;simp
 .refine⟨0,3,.of_tree rfl aa3 ajB ?_,by simp⟩;simp[OS];refine⟨_,IL d,?_⟩;simp;intro a b c;exact absurd ⟨a,b,c⟩ h0
def RM (l:List Int)(x:Int):hasB l x=l.contains x:=by
 rw[ui];simp[hasB]
def Iz (c:City):Prop:=c.rest.length<=100000/\c.feasts.length<=100000/\c.shut.length<=100000
def alU (n:Int)(h:0<=n/\n<=100400):(0<=(fA n).2.1/\(fA n).2.1<=30)/\-1000<=(fA n).2.2/\(fA n).2.2<=1000:=by
 unfold fA;simp only[];have hR:0<=(n+730425)%146097/\(n+730425)%146097<146097:=by omega
 generalize (n+730425)%146097=R at*;have hD:=abx R ((R-R/1460+R/36524-R/146096)/365) hR (by omega) (by omega);generalize (R-R/1460+R/36524-R/146096)/365=Y at*;generalize R-(365*Y+Y/4-Y/100)=D at*;have hM:0<=(5*D+2)/153/\(5*D+2)/153<=20:=by omega
 generalize (5*D+2)/153=M at*;refine⟨?_,by omega,by omega⟩;split<;>omega
def au1 (c:City)(hc:Iz c)(n:Int)(h:0<=n/\n<=100400):ah T 207 [gT c,.int n] (.bool (zu c.rest c.feasts c.shut n)):=by
 refine zyw 98 ayh ?_;simp[XD];refine⟨_,aby n h,?_⟩;have w5:i64.wrap (n+5)=n+5:=aQ (by omega);have m7:(n+5).tmod 7=(n+5)%7:=Pk (by omega);obtain⟨h1,h2,h3⟩:=hc;simp[w5,m7];refine⟨_,xF c.rest ((n+5)%7) (by omega),?_⟩;unfold zu;rw[<-RM];cases hr:hasB c.rest ((n+5)%7)
 .obtain⟨gu,de⟩:=alU n h;have wm:i64.wrap (100*(fA n).2.1)=100*(fA n).2.1:=aQ (by omega);have wd:i64.wrap (100*(fA n).2.1+(fA n).2.2)=100*(fA n).2.1+(fA n).2.2:=aQ (by omega);simp[hr,wm,wd];refine⟨_,xF c.feasts _ (by omega),?_⟩;have e1:=RM c.feasts (100*(fA n).2.1+(fA n).2.2);have e2:=RM c.shut n;simp at e1 e2;cases hf:hasB c.feasts (100*(fA n).2.1+(fA n).2.2)
  .simp[hf,<-e1,<-e2];exact⟨_,xF c.shut n (by omega),rfl⟩
  .simp[hf,<-e1]
 .simp[hr]
def fh (c:City)(a:Int)(k:Nat):List Int:=((List.range k).map λ(i:Nat)=>a+i).filter (zu c.rest c.feasts c.shut)
def abG (c:City)(a:Int)(k:Nat):fh c a (k+1)=fh c a k++if zu c.rest c.feasts c.shut (a+k) then[a+k] else[]:=by
 unfold fh;rw[I5,nR,DS]
 congr 1
 cases h:zu c.rest c.feasts c.shut (a+k)<;>simp[h]
def ams (c:City)(a:Int){k n:Nat}(h:k<=n):∃r,fh c a n=fh c a k++r:=by
 induction n with
 |zero=>obtain rfl:k=0:=by omega
        exact⟨[],by simp⟩
 |succ n ih=>
  by_cases e:k=n+1
  .subst e;exact⟨[],by simp⟩
  .obtain⟨r,hr⟩:=ih (by omega);exact⟨r++_,by rw[abG,hr,sK]⟩
def sV (d:Int):D:=.tup [.int d]
def amt (c:City)(a b:Int):abI [.ref (.int a),.ref (.int b),.ref (gT c)]=(fh c a (b-a+1).toNat).map sV:=by
 have hi:∀l:List Int,zc (ints l)=l:=λl=>by
  show(l.map D.int).map D.i=l;rw[nS];exact xP l
 show(abH (zc (ints c.rest)) (zc (ints c.feasts)) (zc (ints c.shut)) a b).map _=_;rw[hi,hi,hi];rfl
def amq (c:City)(hc:Iz c)(a b:Int)(ha:0<=a)(hb:b<=100400)(mc:a<=100400):ah T 206 [.ref (.int a),.ref (.int b),.ref (gT c)] (.list ((fh c a (b-a+1).toNat).map sV)):=by
 have wk:=amt c a b;rw[<-wk];obtain⟨N,hN⟩:∃N,N=(b-a+1).toNat:=⟨_,rfl⟩
 refine ah.of_it (pc:=(ab uA)) (J:=1000) (k:=1) rfl (λx hx=>?_) (λm hm=>?_)
 .rw[wk] at hx;obtain⟨i,_,rfl⟩:=cr.1 hx;exact⟨_,rfl,rfl⟩
 .rw[wk] at hm ⊢;rw[<-hN] at hm ⊢;refine O1 ?_;rw[aye];simp[XC];refine aO.forLoop (α:=Nat) (λk vr vo=>k<=N/\vr=[.int (a+k)]/\vo=[.list ((fh c a k).map sV)]/\(fh c a k).length<=m) (λk=>N-k) 0 ?_ ?_
  .simp[anH,fh]
  .rintro k vr vo ⟨hk,rfl,rfl,oF⟩;by_cases af:k<N
   .have hle:a+(k:Int)<=b:=by omega
    have je:i64.wrap (a+(k:Int)+1)=a+((k+1:Nat):Int):=by rw[aQ (by omega)];omega
    have eD:=(au1 c hc (a+k) (by omega))
    have Cp:=abG c a k;obtain⟨r,hr⟩:=ams c a (k:=k+1) (n:=N) af;simp[aix,NU,hle];refine⟨_,eD.yld (by decide),?_⟩;cases hi:zu c.rest c.feasts c.shut (a+k)
    .simp[hi] at Cp ⊢;exact⟨k+1,by omega,by omega,je,by rw[Cp],by rw[Cp];exact oF⟩
    .simp[hi] at Cp ⊢;have hlen:(fh c a (k+1)).length=(fh c a k).length+1:=by rw[Cp];simp
     have uW:(fh c a k).map sV++[D.tup [D.int (a+k)]]=(fh c a (k+1)).map sV:=by rw[Cp,nR];rfl
     have Gg:(fh c a (k+1)).map sV=((fh c a N).map sV).take ((fh c a k).length+1):=by
      rw[hr,nR,List.take_append_of_le_length (by simp[hlen]),xT (by simp[hlen])]
     have aY:(fh c a k).length<((fh c a N).map sV).length:=by rw[hr];simp[hlen];omega
     rw[uW];refine⟨_,ah.answer Gg aY oF,?_⟩;by_cases yS:(fh c a k).length<m
     .simp[yS];exact⟨k+1,by omega,by omega,je,rfl,by omega⟩
     .obtain rfl:(fh c a k).length=m:=by omega
      simp;rw[Gg]
   .obtain rfl:k=N:=by omega
    have hle:¬a+(k:Int)<=b:=by omega
    simp[aix,NU,hle];rw[xT (by simp;omega)]
def amu (c:City)(a b:Int):ah T 185 [gT c,.int a,.int b] (.clo 206 [.ref (.int a),.ref (.int b),.ref (gT c)]):=by
 refine zyw 97 ayf ?_;simp[XB]
def oA (d:Int):Int:=if 100000<d+400 then 100000 else d+400
def jA (c:City)(d:Int):Int×Int:=
 if eB d=false then(0,3) else match fh c d (oA d-d+1).toNat with|[]=>(0,3)|x::_=>(x,0)
def amr {c:City}{a:Int}{k:Nat}{x:Int}(h:x∈fh c a k):a<=x/\x<a+k:=by
 unfold fh at h;obtain⟨h1,_⟩:=eR.mp h;obtain⟨i,hi,rfl⟩:=cr.mp h1;have:=fu.mp hi;omega
def afy {c:City}{d:Int}(h:(jA c d).2=0):eB d=true/\d<=(jA c d).1/\(jA c d).1<=100000:=by
 unfold jA at h ⊢;cases hd:eB d
 .simp[hd] at h
 .simp only[hd] at h ⊢;cases hk:fh c d (oA d-d+1).toNat with
  |nil=>rw[hk] at h;simp at h
  |cons x l=>
   have hm:x∈fh c d (oA d-d+1).toNat:=by rw[hk];simp
   have:=amr hm;have he:oA d<=100000:=by unfold oA;split<;>omega
   simp[eB] at hd;simp;unfold oA at*;omega
def akq (c:City)(hc:Iz c)(d:Int):ah T 149 [gT c,.int d] (.tup [.int (jA c d).1,.int (jA c d).2]):=by
 refine zyw 96 ayc ?_;simp[Xz];refine⟨_,IL d,?_⟩;cases hd:eB d
 .simp[jA,hd]
 have gw:0<=d/\d<=100000:=by simpa [eB] using hd
 have hw:i64.wrap (d+400)=d+400:=aQ (by omega);have he:oA d<=100000:=by unfold oA;split<;>omega
 simp[hd,hw];have hE:(if 100000<d+400 then D.int 100000 else D.int (d+400))=D.int (oA d):=by unfold oA;split<;>rfl
 rw[hE];refine⟨_,amu c d (oA d),_,_,rfl,_,amq c hc d (oA d) gw.1 (by omega) (by omega),?_⟩;cases hk:fh c d (oA d-d+1).toNat with
 |nil=>
  have hn:jA c d=(0,3):=by unfold jA;simp[hd,hk]
  rw[hn];refine aO.eachR [] (by simp) (λ_ vo=>vo=[.agg [.int 0],.agg [.int 0]]) ?_ (λk x vo hx hi=>by simp at hx) (λvo hi=>?_)
  .simp
  .subst hi;simp
 |cons x l=>
  have hn:jA c d=(x,0):=by unfold jA;simp[hd,hk]
  rw[hn];refine aO.eachR ((x::l).map sV) (by simp) (λk vo=>k=0/\vo=[.agg [.int 0],.agg [.int 0]]) ?_ (λk y vo hx hi=>?_) (λvo hi=>?_)
  .simp
  .obtain⟨rfl,rfl⟩:=hi;simp at hx;subst hx;simp[awp,VP,sV];rfl
  .exact absurd hi.1 (by simp)
def Oz (o:Int)(d:Int)(h:Halt):Int:=if(h.order=o/\h.fr<=d)/\d<=h.to then h.to+1 else d
def nE (r:Realm)(o d:Int)(k:Nat):Int:=(r.halts.take k).foldl (Oz o) d
def ajm (r:Realm)(o d:Int){k:Nat}(hk:k<r.halts.length):nE r o d (k+1)=Oz o (nE r o d k) r.halts[k]:=by
 unfold nE;rw[jn hk,uo];rfl
def xI (r:Realm):Prop:=r.halts.length<=100000/\∀h,h∈r.halts->0<=h.fr/\h.to<=100000
def W4 {r:Realm}(hh:xI r)(o d:Int)(hd:d<=100001):∀k,k<=r.halts.length->d<=nE r o d k/\nE r o d k<=100001
 |0,_=>⟨by simp[nE],by simpa [nE] using hd⟩
 |k+1,hk=>by
  obtain⟨h1,h2⟩:=W4 hh o d hd k (by omega);rw[ajm r o d (by omega)];have:=hh.2 _ (bU (show k<r.halts.length by omega));unfold Oz;split<;>omega
def zX (r:Realm)(o:Int):Nat->Int->Int
 |0,d=>d
 |n+1,d=>if nE r o d r.halts.length=d then d else zX r o n (nE r o d r.halts.length)
def j9 (r:Realm)(o d:Int):Int:=zX r o (100002-d).toNat d
def W5 {r:Realm}(hh:xI r)(o:Int):∀(n:Nat) (d:Int),d<=100001->d<=zX r o n d/\zX r o n d<=100001
 |0,d,hd=>⟨nO _,hd⟩
 |n+1,d,hd=>by
  obtain⟨h1,h2⟩:=W4 hh o d hd r.halts.length (aX _);unfold zX;split
  .omega
  .have:=W5 hh o n _ h2;omega
def axi (r:Realm)(hh:xI r)(o d:Int)(h0:0<=d)(hd:d<=100001):ah T 148 [aP r,.int o,.int d] (.int (j9 r o d)):=by
 refine zyw 95 azZ ?_;simp[Zq];refine aO.forLoop (α:=Int×Bool×Nat) (λs vr vo=>vr=[.int s.1,.bool s.2.1]/\vo=[]/\d<=s.1/\s.1<=100001/\(s.2.1=true->(100002-s.1).toNat<=s.2.2)/\(s.2.1=true->zX r o s.2.2 s.1=j9 r o d)/\(s.2.1=false->s.1=j9 r o d)) (λs=>2*(100001-s.1).toNat+(if s.2.1 then 1 else 0)) (d,true,(100002-d).toNat) ?_ ?_
 .simp;exact⟨by omega,rfl⟩
 .rintro⟨e,ch,n⟩ vr vo ⟨rfl,rfl,h1,h2,h3,h4,h5⟩;simp only at*;cases ch
  .simp[aiO,Og];exact h5 rfl
  .have h3:=h3 rfl;have h4:=h4 rfl;obtain⟨n,rfl⟩:∃m,n=m+1:=⟨n-1,by omega⟩
   have bO:=W4 hh o e h2;simp[aiO,Og];refine aO.forRounds r.halts.length (λk=>[.int (nE r o e k),.bool (decide (e<nE r o e k)),.int k]) (λ_=>[]) ?_ (λk hk=>?_) ?_
   .simp[nE]
   .have hw:=bx hk (by have:=hh.1;omega);have cE:=bO k (by omega);have y4:=hh.2 _ (bU hk);rw[ajm r o e hk];unfold Oz;generalize nE r o e k=x at*;by_cases hc:(r.halts[k].order=o/\r.halts[k].fr<=x)/\x<=r.halts[k].to
    .have cZ:i64.wrap (r.halts[k].to+1)=r.halts[k].to+1:=aQ (by omega);simp[Of,Dk,hk,hw,hc,cZ];omega
    .simp[Of,Dk,hk,hw,hc]
   .have hE:=bO r.halts.length (aX _);unfold zX at h4;generalize nE r o e r.halts.length=x at*;by_cases hx:x=e
    .rw[if_pos hx] at h4;subst hx;simp[Of,Dk];exact⟨x,by omega,rfl,h1,h2,h4⟩
    .rw[if_neg hx] at h4;have af:e<x:=by omega
     simp[Of,Dk,af];exact⟨x,by omega,rfl,by omega,by omega,n,by omega,h4⟩
def tZ (r:Realm)(c:City)(o:Int):Nat->Int->Int×Int
 |0,d=>(d,0)
 |n+1,d=>
  if(jA c (j9 r o d)).2≠0 then(0,3)
  else if(jA c (j9 r o d)).1=j9 r o d then(j9 r o d,0)
  else tZ r c o n (jA c (j9 r o d)).1
def aji (r:Realm)(c:City)(o:Int)(n:Nat)(d:Int):tZ r c o (n+1) d=
 if(jA c (j9 r o d)).2≠0 then(0,3)
 else if(jA c (j9 r o d)).1=j9 r o d then(j9 r o d,0)
 else tZ r c o n (jA c (j9 r o d)).1:=rfl
def lX (r:Realm)(city d:Int):Int×Int:=tZ r (r.cities.getD city.toNat default) (gE r city) (100002-d).toNat d
def WX (r:Realm)(hh:xI r)(city d:Int)(hc:0<=city/\city<r.cities.length)(hs:∀c,c∈r.cities->Iz c)(h0:0<=d)(hd:d<=100001):ah T 108 [aP r,.int city,.int d] (.tup [.int (lX r city d).1,.int (lX r city d).2]):=by
 refine zyw 94 azY ?_;simp[Zp];refine⟨_,sy r city,?_⟩;have aY:city.toNat<r.cities.length:=by omega
 have hcg:r.cities.getD city.toNat default=r.cities[city.toNat]:=by simp[aY]
 have hsc:=hs _ (bU aY);have hF:lX r city d=tZ r r.cities[city.toNat] (gE r city) (100002-d).toNat d:=by unfold lX;rw[hcg]
 rw[hF];refine aO.forLoop (α:=Int×Nat) (λs vr vo=>(∃a b,vr=[.int s.1,a,b])/\vo=[]/\0<=s.1/\s.1<=100001/\(100002-s.1).toNat<=s.2/\tZ r r.cities[city.toNat] (gE r city) s.2 s.1=tZ r r.cities[city.toNat] (gE r city) (100002-d).toNat d) (λs=>s.2) (d,(100002-d).toNat) ?_ ?_
 .simp;omega
 .rintro⟨e,n⟩ vr vo ⟨⟨a,b,rfl⟩,rfl,h1,h2,h3,h4⟩;simp only at*;obtain⟨n,rfl⟩:∃m,n=m+1:=⟨n-1,by omega⟩
  rw[<-h4];have Co:=W5 hh (gE r city) (100002-e).toNat e h2;have hsr:=axi r hh (gE r city) e h1 h2;rw[aji];change e<=j9 r (gE r city) e/\j9 r (gE r city) e<=100001 at Co;generalize j9 r (gE r city) e=x at*;have Sy:=akq r.cities[city.toNat] hsc x;have p7:=afy (c:=r.cities[city.toNat]) (d:=x);generalize jA r.cities[city.toNat] x=N at*;obtain⟨y,er⟩:=N;simp only at Sy p7;simp[awu,Wz];refine⟨_,hsr,?_⟩;simp[aY,hc];refine⟨_,Sy,?_⟩;by_cases he:er=0
  .obtain⟨g1,g2,g3⟩:=p7 he;by_cases hy:y=x
   .simp[he,hy]
   .simp[he,hy];exact⟨y,n,by omega,rfl,by omega,by omega,by omega,rfl⟩
  .simp[he]
structure RightD (r:Realm):Prop where
 small:Small r
 halts:xI r
def RightD.cities {r:Realm}(h:RightD r)(c:City)(hc:c∈r.cities):Iz c:=by
 obtain⟨h1,h2,h3,_⟩:=h.small.city c hc;exact⟨by omega,by omega,by omega⟩
def D2 (d:Int)(t:Tenor):∃n e:Int,ah T 146 [.int d,pS t] (.tup [.int n,.int e]):=by
 by_cases h0:t.n<0
 .refine⟨0,3,.of_tree rfl Jo OZ ?_⟩;simp[DD,h0]
 by_cases h1:20000<t.n
 .refine⟨0,3,.of_tree rfl Jo OZ ?_⟩;simp[DD,h0,h1]
 by_cases h2:t.unit=1
 .obtain⟨n,e,h,_⟩:=aj2 d t.n;refine⟨n,e,.of_tree rfl Jo OZ ?_⟩;simp[DD,h0,h1,h2];refine⟨_,h,?_⟩;simp
 .refine⟨i64.wrap (d+t.n),0,.of_tree rfl Jo OZ ?_⟩;simp[DD,h0,h1,h2]
def alb (r:Realm)(hr:RightD r)(b:Bill)(seen:Int):∃n e:Int,ah T 107 [aP r,dJ b,.int seen] (.tup [.int n,.int e]):=by
 have S6:D.agg [D.int b.tenor.kind,D.int b.tenor.n,D.int b.tenor.unit]=pS b.tenor:=rfl;by_cases h0:b.tenor.kind=0
 .refine⟨seen,0,.of_tree rfl x9 z7 ?_⟩;simp[pq,h0]
 by_cases h1:b.tenor.kind=1
 .obtain⟨n,e,h⟩:=D2 seen b.tenor;refine⟨n,e,.of_tree rfl x9 z7 ?_⟩;have cw:(b.tenor.kind=1)=True:=eq_true h1;simp[pq,h0,cw];refine⟨_,h,?_⟩;simp
 by_cases h2:b.tenor.kind=2
 .obtain⟨n,e,h⟩:=D2 b.day b.tenor;refine⟨n,e,.of_tree rfl x9 z7 ?_⟩;have gU:(b.tenor.kind=2)=True:=eq_true h2;simp[pq,h0,h1,gU];refine⟨_,h,?_⟩;simp
 by_cases h4:b.tenor.kind=4
 .obtain⟨n,e,h,_⟩:=aky r b.city b.pay (by have:=hr.small.us;omega);refine⟨i64.wrap (b.day+n),e,.of_tree rfl x9 z7 ?_⟩;have oE:(b.tenor.kind=4)=True:=eq_true h4;simp[pq,h0,h1,h2,oE];refine⟨_,h,?_⟩;simp
 .refine⟨b.tenor.n,0,.of_tree rfl x9 z7 ?_⟩;simp[pq,h0,h1,h2,h4]
def ah.ex_of_tree {tab:Nat->Option PC}{ext:Nat->Option (aS->List D->Option D)}{f:Nat}{pc:PC}{t:PT}{ds:List D}{P:D->Prop}(hx:ext f=none)(ht:tab f=some pc)(he:tree pc=t)
 (h:aH (eM tab ext) t (l7 ds) (λx=>∃d,x=.ret d/\P d)):∃d,ah (eM tab ext) f ds d/\P d:=by
 subst he;obtain⟨x,⟨d,rfl,hd⟩,n0,hn⟩:=ajH (Nf ⟨λ_ _ _ h=>(by obtain⟨_,h,_⟩:=h;cases h),λ_ _ _ _ _ _ h=>(by obtain⟨_,h,_⟩:=h;cases h),λ_ h=>h⟩ h);exact⟨d,.of_pc hx ht ⟨.ret d,rfl,n0,hn⟩,hd⟩
def Jc (d:D):Prop:=∃n e:Int,d=.tup [.int n,.int e]
@[simp] def aC5 (n e:Int):Jc (.tup [.int n,.int e])=True:=eq_true ⟨n,e,rfl⟩
def Ak (r:Realm)(hr:RightD r)(b:Bill)(seen bZ:Int):∃d,ah T 65 [aP r,dJ b,.int seen,.int bZ] d/\Jc d:=by
 have S6:D.agg [D.int b.tenor.kind,D.int b.tenor.n,D.int b.tenor.unit]=pS b.tenor:=rfl;have jR:=Oi r hr.small;refine ah.ex_of_tree rfl PM Zl ?_;simp[IF];refine⟨_,jR,?_⟩;by_cases h0:iw r=0
 case neg=>simp[h0]
 simp[h0];refine⟨_,Cw r b.city,?_⟩;cases h1:aC b.city r.cities.length
 .simp[h1]
 simp[h1];refine⟨_,Cw r b.pay,?_⟩;cases h2:aC b.pay r.cities.length
 .simp[h2]
 simp[h2];refine⟨_,wE b.day,?_⟩;cases h3:eB b.day
 .simp[h3]
 simp[h3];intro _ _ _ _;have hp:0<=b.pay/\b.pay<r.cities.length:=by simpa [aC] using h2
 have fin:0<=bZ->bZ<=20000->∃d,ah T 107 [aP r,dJ b,D.int seen] d/\
  if(d.tget 1).i=0 then ∃d1,ah T 105 [d.tget 0] d1/\(d1.b=true->i64.wrap ((d.tget 0).i+bZ)<=100000->
        ∃d2,ah T 108 [aP r,D.int b.pay,D.int (i64.wrap ((d.tget 0).i+bZ))] d2/\Jc (D.tup [d2.tget 0,d2.tget 1]))
  else Jc (D.tup [D.int 0,d.tget 1]):=by
  intro yI jU;obtain⟨n,e,h⟩:=alb r hr b seen;refine⟨_,h,?_⟩;by_cases he:e=0
  .simp[he];refine⟨_,wE n,?_⟩;cases hd:eB n
   .simp[hd]
   have gw:0<=n/\n<=100000:=by simpa [eB] using hd
   have hw:i64.wrap (n+bZ)=n+bZ:=aQ (by omega);simp[hd,hw];intro hle;refine⟨_,WX r hr.halts b.pay (n+bZ) hp hr.cities (by omega) (by omega),?_⟩;simp
  .simp[he]
 by_cases hs:seen=-1
 .simp[hs] at fin ⊢;intro yI jU;refine⟨_,DZ b.tenor,?_⟩;simp;intro _;exact fin yI jU
 .simp[hs] at fin ⊢;refine⟨_,wE seen,?_⟩;cases hk:eB seen
  .simp[hk]
  simp[hk];intro yI jU;exact⟨⟨_,DZ b.tenor⟩,fin yI jU⟩
def rl (r:Realm)(b:Bill)(seen bZ:Int):Int×Int:=
 open Classical in if h:RightD r then((Ak r h b seen bZ).choose_spec.2.choose,(Ak r h b seen bZ).choose_spec.2.choose_spec.choose) else(0,0)
def Pg (r:Realm)(hr:RightD r)(b:Bill)(seen bZ:Int):ah T 65 [aP r,dJ b,.int seen,.int bZ] (.tup [.int (rl r b seen bZ).1,.int (rl r b seen bZ).2]):=by
 have h:=(Ak r hr b seen bZ).choose_spec.2.choose_spec.choose_spec;have h1:=(Ak r hr b seen bZ).choose_spec.1;rw[h] at h1;have e:rl r b seen bZ=((Ak r hr b seen bZ).choose_spec.2.choose,(Ak r hr b seen bZ).choose_spec.2.choose_spec.choose):=by unfold rl;rw[dif_pos hr]
 rw[e];exact h1
def dW (r:Realm)(forum:Int)(f:File)(day:Int):Int:=
 if(bh f day).signs=[] then-1
 else if(rl r f.bill (nA (bh f day)) (max (qo (km r forum 6 (bh f day) day)) 0)).2≠0 then-1
 else(rl r f.bill (nA (bh f day)) (max (qo (km r forum 6 (bh f day) day)) 0)).1
@[simp] def aHg (x:File)(a0 a1 a2 a3 a4 a5 a6 a7 a8 a9 mO mP a12 mQ mR qV qW a17 qX:D):(dg [a0,a1,a2,a3,a4,a5,a6,a7,a8,a9,mO,mP,a12,mQ,mR,qV,qW,a17,qX] 0 [.int x.bill.drawer,.int x.bill.drawee,.int x.bill.payee,.int x.bill.sum,.int x.bill.currency,.int x.bill.tenor.kind,.int x.bill.tenor.n,.int x.bill.tenor.unit,.int x.bill.day,.int x.bill.city,.int x.bill.pay,.int x.bill.need,.int x.bill.rate,.int x.bill.flags,.int x.bill.parts,signs x.signs,alters x.alters,acts x.acts,facts x.facts])[15]?.getD D.none=signs x.signs:=zyz
def aaD (r:Realm)(hr:Right r)(hd:RightD r)(forum:Int)(f:File)(day:Int)(hf:FewS f):ah T 30 [aP r,.int forum,cf f,.int day] (.int (dW r forum f day)):=by
 refine zyw 61 axV ?_;simp[Xk];refine⟨_,WG f day (by have:=hf.signs;omega) (by have:=hf.acts;omega) (by have:=hf.alters;omega) (by have:=hf.facts;omega),?_⟩;have hg:=hf.at_ day;have hb:(bh f day).bill=f.bill:=rfl;unfold dW;generalize bh f day=g at*;simp;by_cases h0:g.signs=[]
 .simp[h0]
 simp[h0];refine⟨_,aa0 r hr forum 6 g day hg,_,akR _,_,awD g (by have:=hg.signs;omega) (by have:=hg.acts;omega),?_⟩;have hm:(if(D.int (qo (km r forum 6 g day))).i<0 then D.int 0 else D.int (qo (km r forum 6 g day)))=D.int (max (qo (km r forum 6 g day)) 0):=by
  simp only[amF];split
  .rw[Int.max_eq_right (by omega)]
  .rw[Int.max_eq_left (by omega)]
 rw[hm,hb];refine⟨_,Pg r hd f.bill _ _,?_⟩;by_cases he:(rl r f.bill (nA g) (max (qo (km r forum 6 g day)) 0)).2=0<;>simp[he]
def aue (y:Nat)(h:y<18446744073709551616):ah T 150 [u y] (.int ((64-wH y:Nat):Int)):=by
 refine zyw 114 ax9 ?_;have hb:=(aeI h).2.2.2;have hw:i64.wrap (64-(wH y:Nat))=((64-wH y:Nat):Int):=by rw[aQ (by omega)];omega
 simp[Xw];refine⟨_,asJ y h,?_⟩;simp[hw]
set_option maxHeartbeats 4000000 in
def amI (hi lo y:Nat)(hy:0<y)(Cb:hi<y)(p6:lo<18446744073709551616)(wz:y<18446744073709551616):
 ah T 110 [u hi,u lo,u y] (.tup [u ((hi*18446744073709551616+lo)/y),u ((hi*18446744073709551616+lo)%y)]):=by
 refine zyw 113 ax8 ?_;have c1:¬y=0:=by omega
 have c2:¬y<=hi:=by omega
 by_cases c3:hi=0
 .subst c3;have hq:IntKind.u64.wrap ((lo:Int)/(y:Int))=((lo/y:Nat):Int):=by
   rw[<-Int.natCast_ediv];exact ke (aaG (aaF ..) p6)
  have hr:((lo:Int).tmod (y:Int))=((lo%y:Nat):Int):=(Int.ofNat_tmod lo y).symm;simp[OR,c1,c2,hq,hr,-Int.natCast_emod]
 .have hb:=aeI wz;obtain⟨L,hL⟩:∃L,L=wH y:=⟨_,rfl⟩
  have v7:=aue y wz;rw[<-hL] at hb v7;have Lr:0<L:=by
   rcases DY L with h|h
   .have:=hb.1 h;omega
   .exact h
  have hLs:=hb.2.2.2;obtain⟨s,hs⟩:∃s,s=64-L:=⟨_,rfl⟩
  obtain⟨s',eh⟩:∃s',s'=L:=⟨_,rfl⟩
  rw[<-hs] at v7;have F8:2^s'*2^s=18446744073709551616:=by rw[<-Pv,show s'+s=64 by omega]
  have adU:2^(L-1)*2^s=9223372036854775808:=by rw[<-Pv,show L-1+s=63 by omega]
  have aL:y*2^s<18446744073709551616:=by rw[<-F8];exact Nat.mul_lt_mul_of_pos_right (by rw[eh];exact hb.2.2.1) (xV s)
  have iK:9223372036854775808<=y*2^s:=by rw[<-adU];exact jJ _ (hb.2.1 Lr)
  have ws:IntKind.u64.wrap (s:Int)=s:=ke (by omega);have nX:bV .shl .u64 (y:Int) (s:Int)=((y*2^s:Nat):Int):=by rw[WY y s (by omega),I9 aL]
  have adx:lo/2^s'<2^s:=by rw[vB (xV s'),uq,F8];exact p6
  have tw:0<2^s:=xV s;have aqx:hi*2^s+2^s<=y*2^s:=by rw[<-Nat.succ_mul];exact jJ _ Cb
  have oa:bV .shl .u64 (hi:Int) (s:Int)=((hi*2^s:Nat):Int):=by rw[WY hi s (by omega),I9 (by omega)]
  have oc:IntKind.u64.wrap (64-(s:Int))=s':=by rw[kJ (by omega)];omega
  have od:bV .shr .u64 (lo:Int) (s':Int)=((lo/2^s':Nat):Int):=Iy lo s' (by omega);have oe:bV .or .u64 ((hi*2^s:Nat):Int) ((lo/2^s':Nat):Int)=((hi*2^s+lo/2^s':Nat):Int):=au4 _ _ s (by omega) adx (Nat.mul_mod_left ..) (by omega);have og:bV .shl .u64 (lo:Int) (s:Int)=((lo*2^s%18446744073709551616:Nat):Int):=WY lo s (by omega);have law:((hi*2^s+lo/2^s')*18446744073709551616+lo*2^s%18446744073709551616)/(y*2^s)=(hi*18446744073709551616+lo)/y:=by
   have h1:lo*2^s/18446744073709551616=lo/2^s':=by rw[<-F8];exact aaJ _ _ (xV s)
   have h2:=xU (lo*2^s) 18446744073709551616;rw[h1] at h2;have h3:(hi*2^s+lo/2^s')*18446744073709551616+lo*2^s%18446744073709551616=(hi*18446744073709551616+lo)*2^s:=by
        rw[jH,jH,Nat.mul_right_comm hi];omega
   rw[h3];exact aaJ _ _ (xV s)
  have aeM:((hi*2^s+lo/2^s')*18446744073709551616+lo*2^s%18446744073709551616)%(y*2^s)/2^s=(hi*18446744073709551616+lo)%y:=by
   have h1:lo*2^s/18446744073709551616=lo/2^s':=by rw[<-F8];exact aaJ _ _ (xV s)
   have h2:=xU (lo*2^s) 18446744073709551616;rw[h1] at h2;have h3:(hi*2^s+lo/2^s')*18446744073709551616+lo*2^s%18446744073709551616=(hi*18446744073709551616+lo)*2^s:=by
        rw[jH,jH,Nat.mul_right_comm hi];omega
   rw[h3,Nat.mul_mod_mul_right];exact Nat.mul_div_cancel _ (xV s)
  have hu:hi*2^s+lo/2^s'<y*2^s:=by omega
  have mm:lo*2^s%18446744073709551616<18446744073709551616:=pD _ (by decide);clear hb F8 adU adx aqx hL;rw[<-law,<-aeM];clear law aeM;generalize y*2^s=v at*;generalize hi*2^s+lo/2^s'=u32 at*;generalize lo*2^s%18446744073709551616=un at*;have nY:bV .shr .u64 (v:Int) 32=((v/4294967296:Nat):Int):=dI v;have nZ:bV .and .u64 (v:Int) 4294967295=((v%4294967296:Nat):Int):=D5 v aL;have oh:bV .shr .u64 (un:Int) 32=((un/4294967296:Nat):Int):=dI un;have om:bV .and .u64 (un:Int) 4294967295=((un%4294967296:Nat):Int):=D5 un mm;have hv:v=v/4294967296*4294967296+v%4294967296:=by omega
  have hn:un=un/4294967296*4294967296+un%4294967296:=by omega
  have ad6:2147483648<=v/4294967296:=by omega
  have ad7:v/4294967296<4294967296:=by omega
  have eF:v%4294967296<4294967296:=by omega
  have kQ:un/4294967296<4294967296:=by omega
  have Sp:un%4294967296<4294967296:=by omega
  generalize v/4294967296=v1 at*;generalize v%4294967296=v0 at*;generalize un/4294967296=n1 at*;generalize un%4294967296=n0 at*;have gp:¬v1=0:=by omega
  have oq:IntKind.u64.wrap ((u32:Int)/(v1:Int))=((u32/v1:Nat):Int):=by
   rw[<-Int.natCast_ediv];exact ke (aaG (aaF ..) (by omega))
  have L6:u32/v1*v1+u32%v1=u32:=DX u32 v1;have ot:IntKind.u64.wrap (((u32/v1:Nat):Int)*(v1:Int))=((u32/v1*v1:Nat):Int):=by
   rw[<-Int.natCast_mul];exact ke (by omega)
  have ou:IntKind.u64.wrap ((u32:Int)-((u32/v1*v1:Nat):Int))=((u32%v1:Nat):Int):=by
   rw[kJ (by omega)];omega
  simp[OR,c1,c2,c3,-dI,-Int.natCast_add,-Int.natCast_mul,-Int.natCast_ediv,-Int.natCast_emod];refine⟨_,v7,?_⟩;simp[-dI,-Int.natCast_add,-Int.natCast_mul,-Int.natCast_ediv,-Int.natCast_emod,ws,nX,nY,nZ,oa,oc,od,oe,og,oh,om,gp,oq,ot,ou];refine asP _ (u32/v1) (u32%v1) v1 v0 u32 n1 eF ad6 ad7 kQ (by omega) rfl rfl (by simp[-dI,-Int.natCast_add,-Int.natCast_mul,-Int.natCast_ediv,-Int.natCast_emod,ws,nX,nY,nZ,oa,oc,od,oe,og,oh,om,gp,oq,ot,ou]) (by simp[-dI,-Int.natCast_add,-Int.natCast_mul,-Int.natCast_ediv,-Int.natCast_emod,ws,nX,nY,nZ,oa,oc,od,oe,og,oh,om,gp,oq,ot,ou]) (by simp[-dI,-Int.natCast_add,-Int.natCast_mul,-Int.natCast_ediv,-Int.natCast_emod,ws,nX,nY,nZ,oa,oc,od,oe,og,oh,om,gp,oq,ot,ou]) (by simp[-dI,-Int.natCast_add,-Int.natCast_mul,-Int.natCast_ediv,-Int.natCast_emod,ws,nX,nY,nZ,oa,oc,od,oe,og,oh,om,gp,oq,ot,ou]) (by simp[-dI,-Int.natCast_add,-Int.natCast_mul,-Int.natCast_ediv,-Int.natCast_emod,ws,nX,nY,nZ,oa,oc,od,oe,og,oh,om,gp,oq,ot,ou]) _ _ λO hq hk=>?_;have k2:O.r 2=u v:=by rw[hk 2 (by simp)];simp[-dI,-Int.natCast_add,-Int.natCast_mul,-Int.natCast_ediv,-Int.natCast_emod,ws,nX,nY,nZ,oa,oc,od,oe,og,oh,om,gp,oq,ot,ou]
  have k8:O.r 8=u s:=by rw[hk 8 (by simp)];simp[-dI,-Int.natCast_add,-Int.natCast_mul,-Int.natCast_ediv,-Int.natCast_emod,ws,nX,nY,nZ,oa,oc,od,oe,og,oh,om,gp,oq,ot,ou]
  have k9:O.r 9=u v1:=by rw[hk 9 (by simp)];simp[-dI,-Int.natCast_add,-Int.natCast_mul,-Int.natCast_ediv,-Int.natCast_emod,ws,nX,nY,nZ,oa,oc,od,oe,og,oh,om,gp,oq,ot,ou]
  have tG:O.r 10=u v0:=by rw[hk 10 (by simp)];simp[-dI,-Int.natCast_add,-Int.natCast_mul,-Int.natCast_ediv,-Int.natCast_emod,ws,nX,nY,nZ,oa,oc,od,oe,og,oh,om,gp,oq,ot,ou]
  have rU:O.r 11=u u32:=by rw[hk 11 (by simp)];simp[-dI,-Int.natCast_add,-Int.natCast_mul,-Int.natCast_ediv,-Int.natCast_emod,ws,nX,nY,nZ,oa,oc,od,oe,og,oh,om,gp,oq,ot,ou]
  have rV:O.r 13=u n1:=by rw[hk 13 (by simp)];simp[-dI,-Int.natCast_add,-Int.natCast_mul,-Int.natCast_ediv,-Int.natCast_emod,ws,nX,nY,nZ,oa,oc,od,oe,og,oh,om,gp,oq,ot,ou]
  have tH:O.r 14=u n0:=by rw[hk 14 (by simp)];simp[-dI,-Int.natCast_add,-Int.natCast_mul,-Int.natCast_ediv,-Int.natCast_emod,ws,nX,nY,nZ,oa,oc,od,oe,og,oh,om,gp,oq,ot,ou]
  clear hk;rw[<-hv] at hq;obtain⟨q1,F9⟩:∃q1,q1=(u32*4294967296+n1)/v:=⟨_,rfl⟩
  obtain⟨R,hR⟩:∃R,R=(u32*4294967296+n1)%v:=⟨_,rfl⟩
  rw[<-F9] at hq;have Gk:0<v:=by omega
  have aFD:R<v:=by rw[hR];exact pD _ Gk
  have hqR:q1*v+R=u32*4294967296+n1:=by rw[F9,hR];exact DX _ v
  have aGe:q1<4294967296:=by rw[F9,vB Gk];omega
  have rq:IntKind.u64.wrap (IntKind.u64.wrap (IntKind.u64.wrap ((u32:Int)*4294967296)+(n1:Int))-IntKind.u64.wrap ((q1:Int)*(v:Int)))=(R:Int):=by
   have h1:(q1:Int)*(v:Int)+(R:Int)=(u32:Int)*4294967296+n1:=by rw[<-Int.natCast_mul];omega
   simp only[IM];generalize (q1:Int)*(v:Int)=M at*;omega
  have ru:IntKind.u64.wrap ((R:Int)/(v1:Int))=((R/v1:Nat):Int):=by
   rw[<-Int.natCast_ediv];exact ke (aaG (aaF ..) (by omega))
  have aGi:R/v1*v1+R%v1=R:=DX R v1;have rn:IntKind.u64.wrap (((R/v1:Nat):Int)*(v1:Int))=((R/v1*v1:Nat):Int):=by
   rw[<-Int.natCast_mul];exact ke (by omega)
  have rp:IntKind.u64.wrap ((R:Int)-((R/v1*v1:Nat):Int))=((R%v1:Nat):Int):=by
   rw[kJ (by omega)];omega
  simp[-dI,-Int.natCast_add,-Int.natCast_mul,-Int.natCast_ediv,-Int.natCast_emod,k2,k9,rU,rV,hq,gp,rq,ru,rn,rp];refine asQ _ (R/v1) (R%v1) v1 v0 R n0 eF ad6 ad7 Sp (by omega) rfl rfl (by simp[-dI,-Int.natCast_add,-Int.natCast_mul,-Int.natCast_ediv,-Int.natCast_emod,k2,k8,k9,tG,rU,rV,tH,hq,gp,rq,ru,rn,rp]) (by simp[-dI,-Int.natCast_add,-Int.natCast_mul,-Int.natCast_ediv,-Int.natCast_emod,k2,k8,k9,tG,rU,rV,tH,hq,gp,rq,ru,rn,rp]) (by simp[-dI,-Int.natCast_add,-Int.natCast_mul,-Int.natCast_ediv,-Int.natCast_emod,k2,k8,k9,tG,rU,rV,tH,hq,gp,rq,ru,rn,rp]) (by simp[-dI,-Int.natCast_add,-Int.natCast_mul,-Int.natCast_ediv,-Int.natCast_emod,k2,k8,k9,tG,rU,rV,tH,hq,gp,rq,ru,rn,rp]) (by simp[-dI,-Int.natCast_add,-Int.natCast_mul,-Int.natCast_ediv,-Int.natCast_emod,k2,k8,k9,tG,rU,rV,tH,hq,gp,rq,ru,rn,rp]) _ _ λV gY hk=>?_;have j15:V.r 15=u q1:=by rw[hk 15 (by simp)];simp[-dI,-Int.natCast_add,-Int.natCast_mul,-Int.natCast_ediv,-Int.natCast_emod,k2,k8,k9,tG,rU,rV,tH,hq,gp,rq,ru,rn,rp]
  have j8:V.r 8=u s:=by rw[hk 8 (by simp)];simp[-dI,-Int.natCast_add,-Int.natCast_mul,-Int.natCast_ediv,-Int.natCast_emod,k2,k8,k9,tG,rU,rV,tH,hq,gp,rq,ru,rn,rp]
  have j17:V.r 17=u R:=by rw[hk 17 (by simp)];simp[-dI,-Int.natCast_add,-Int.natCast_mul,-Int.natCast_ediv,-Int.natCast_emod,k2,k8,k9,tG,rU,rV,tH,hq,gp,rq,ru,rn,rp]
  have j14:V.r 14=u n0:=by rw[hk 14 (by simp)];simp[-dI,-Int.natCast_add,-Int.natCast_mul,-Int.natCast_ediv,-Int.natCast_emod,k2,k8,k9,tG,rU,rV,tH,hq,gp,rq,ru,rn,rp]
  have j2:V.r 2=u v:=by rw[hk 2 (by simp)];simp[-dI,-Int.natCast_add,-Int.natCast_mul,-Int.natCast_ediv,-Int.natCast_emod,k2,k8,k9,tG,rU,rV,tH,hq,gp,rq,ru,rn,rp]
  rw[<-hv] at gY;clear hk;obtain⟨q0,tz⟩:∃q0,q0=(R*4294967296+n0)/v:=⟨_,rfl⟩
  rw[<-tz] at gY;have aGd:q0<4294967296:=by rw[tz,vB Gk];omega
  have w1:IntKind.u64.wrap (IntKind.u64.wrap ((q1:Int)*4294967296)+(q0:Int))=((q1*4294967296+q0:Nat):Int):=by
   rw[kJ (n:=(q1:Int)*4294967296) (by omega),kJ (by omega)];omega
  have fin:(u32*18446744073709551616+un)/v=q1*4294967296+q0:=by
   have h1:u32*18446744073709551616+un=R*4294967296+n0+v*(q1*4294967296):=by
        have:v*(q1*4294967296)=(q1*v)*4294967296:=by rw[<-aaI,uq v q1]
        omega
   rw[h1,Nat.add_mul_div_left _ _ Gk,<-tz];omega
  obtain⟨R2,RH⟩:∃R2,R2=(R*4294967296+n0)%v:=⟨_,rfl⟩
  have aGg:q0*v+R2=R*4294967296+n0:=by rw[tz,RH];exact DX _ v
  have aFC:R2<v:=by rw[RH];exact pD _ Gk
  have anR:(u32*18446744073709551616+un)%v=R2:=by
   have h1:u32*18446744073709551616+un=R*4294967296+n0+v*(q1*4294967296):=by
        have:v*(q1*4294967296)=(q1*v)*4294967296:=by rw[<-aaI,uq v q1]
        omega
   rw[h1,Nat.add_mul_mod_self_left,<-RH]
  have w2:IntKind.u64.wrap (IntKind.u64.wrap (IntKind.u64.wrap ((R:Int)*4294967296)+(n0:Int))-IntKind.u64.wrap ((q0:Int)*(v:Int)))=(R2:Int):=by
   have h1:(q0:Int)*(v:Int)+(R2:Int)=(R:Int)*4294967296+n0:=by rw[<-Int.natCast_mul];omega
   simp only[IM];generalize (q0:Int)*(v:Int)=M at*;omega
  have w3:bV .shr .u64 (R2:Int) (s:Int)=((R2/2^s:Nat):Int):=Iy R2 s (by omega);rw[fin,anR];simp[j8,j15,j17,j14,j2,gY,w1,w2,w3,-Int.natCast_add,-Int.natCast_mul,-Int.natCast_ediv,-dI]
structure View where
 realm:Realm
 forum:Int
 day:Int
 file:File
 form:Int
 due:Int
 deriving Inhabited
def dK (x:View):D:=.agg [strs x.realm.currencies,pP x.realm.cities,groups x.realm.groups,firms x.realm.firms,orders x.realm.orders,usances x.realm.usances,rates x.realm.rates,halts x.realm.halts,.int x.forum,.int x.day,.int x.file.bill.drawer,.int x.file.bill.drawee,.int x.file.bill.payee,.int x.file.bill.sum,.int x.file.bill.currency,.int x.file.bill.tenor.kind,.int x.file.bill.tenor.n,.int x.file.bill.tenor.unit,.int x.file.bill.day,.int x.file.bill.city,.int x.file.bill.pay,.int x.file.bill.need,.int x.file.bill.rate,.int x.file.bill.flags,.int x.file.bill.parts,signs x.file.signs,alters x.file.alters,acts x.file.acts,facts x.file.facts,.int x.form,.int x.due]
@[simp] def aDx (x:View):(dK x).cells=[strs x.realm.currencies,pP x.realm.cities,groups x.realm.groups,firms x.realm.firms,orders x.realm.orders,usances x.realm.usances,rates x.realm.rates,halts x.realm.halts,.int x.forum,.int x.day,.int x.file.bill.drawer,.int x.file.bill.drawee,.int x.file.bill.payee,.int x.file.bill.sum,.int x.file.bill.currency,.int x.file.bill.tenor.kind,.int x.file.bill.tenor.n,.int x.file.bill.tenor.unit,.int x.file.bill.day,.int x.file.bill.city,.int x.file.bill.pay,.int x.file.bill.need,.int x.file.bill.rate,.int x.file.bill.flags,.int x.file.bill.parts,signs x.file.signs,alters x.file.alters,acts x.file.acts,facts x.file.facts,.int x.form,.int x.due]:=zyz
@[simp] def aG6 (x:View):D.agg [strs x.realm.currencies,pP x.realm.cities,groups x.realm.groups,firms x.realm.firms,orders x.realm.orders,usances x.realm.usances,rates x.realm.rates,halts x.realm.halts,.int x.forum,.int x.day,.int x.file.bill.drawer,.int x.file.bill.drawee,.int x.file.bill.payee,.int x.file.bill.sum,.int x.file.bill.currency,.int x.file.bill.tenor.kind,.int x.file.bill.tenor.n,.int x.file.bill.tenor.unit,.int x.file.bill.day,.int x.file.bill.city,.int x.file.bill.pay,.int x.file.bill.need,.int x.file.bill.rate,.int x.file.bill.flags,.int x.file.bill.parts,signs x.file.signs,alters x.file.alters,acts x.file.acts,facts x.file.facts,.int x.form,.int x.due]=dK x:=zyz
@[simp] def aDO (x:View):kl 31 (dK x)=dK x:=zyz
@[simp] def aHi (x:View)(a0 a1 a2 a3 a4 a5 a6 a7 a8 a9 mO mP a12 mQ mR qV qW a17 qX PF a20 a21 a22 a23 a24 a25 a26 a27 a28 a29 a30:D):D.agg (dg [a0,a1,a2,a3,a4,a5,a6,a7,a8,a9,mO,mP,a12,mQ,mR,qV,qW,a17,qX,PF,a20,a21,a22,a23,a24,a25,a26,a27,a28,a29,a30] 0 [strs x.realm.currencies,pP x.realm.cities,groups x.realm.groups,firms x.realm.firms,orders x.realm.orders,usances x.realm.usances,rates x.realm.rates,halts x.realm.halts,.int x.forum,.int x.day,.int x.file.bill.drawer,.int x.file.bill.drawee,.int x.file.bill.payee,.int x.file.bill.sum,.int x.file.bill.currency,.int x.file.bill.tenor.kind,.int x.file.bill.tenor.n,.int x.file.bill.tenor.unit,.int x.file.bill.day,.int x.file.bill.city,.int x.file.bill.pay,.int x.file.bill.need,.int x.file.bill.rate,.int x.file.bill.flags,.int x.file.bill.parts,signs x.file.signs,alters x.file.alters,acts x.file.acts,facts x.file.facts,.int x.form,.int x.due])=dK x:=zyz
@[simp] def aDv (x:View):(dK x).c 8=.int x.forum:=zyz
@[simp] def aDw (x:View):(dK x).c 9=.int x.day:=zyz
@[simp] def aDa (x:View):(dK x).c 10=.int x.file.bill.drawer:=zyz
@[simp] def aDb (x:View):(dK x).c 11=.int x.file.bill.drawee:=zyz
@[simp] def aDc (x:View):(dK x).c 12=.int x.file.bill.payee:=zyz
@[simp] def aDd (x:View):(dK x).c 13=.int x.file.bill.sum:=zyz
@[simp] def aDe (x:View):(dK x).c 14=.int x.file.bill.currency:=zyz
@[simp] def aDf (x:View):(dK x).c 15=.int x.file.bill.tenor.kind:=zyz
@[simp] def aDg (x:View):(dK x).c 16=.int x.file.bill.tenor.n:=zyz
@[simp] def aDh (x:View):(dK x).c 17=.int x.file.bill.tenor.unit:=zyz
@[simp] def aDi (x:View):(dK x).c 18=.int x.file.bill.day:=zyz
@[simp] def aDj (x:View):(dK x).c 19=.int x.file.bill.city:=zyz
@[simp] def aDk (x:View):(dK x).c 20=.int x.file.bill.pay:=zyz
@[simp] def aDl (x:View):(dK x).c 21=.int x.file.bill.need:=zyz
@[simp] def aDm (x:View):(dK x).c 22=.int x.file.bill.rate:=zyz
@[simp] def aDn (x:View):(dK x).c 23=.int x.file.bill.flags:=zyz
@[simp] def aDo (x:View):(dK x).c 24=.int x.file.bill.parts:=zyz
@[simp] def aDp (x:View):(dK x).c 25=signs x.file.signs:=zyz
@[simp] def aDq (x:View):(dK x).c 26=alters x.file.alters:=zyz
@[simp] def aDr (x:View):(dK x).c 27=acts x.file.acts:=zyz
@[simp] def aDs (x:View):(dK x).c 28=facts x.file.facts:=zyz
@[simp] def aDt (x:View):(dK x).c 29=.int x.form:=zyz
@[simp] def aDu (x:View):(dK x).c 30=.int x.due:=zyz
@[simp] def aDF (x:View):kl 8 (dK x)=aP x.realm:=zyz
def rT:List Int->Int->Int
 |[],o=>o
 |x::l,o=>if x=0 then 0 else rT l (if x=2 then 2 else o)
def asA {l:List Int}{o:Int}(hn:∀x,x∈l->¬x=0)(h2:o=1\/o=2):rT l o=if o=2\/2∈l then 2 else 1:=by
 induction l generalizing o with
 |nil=>rcases h2 with h|h<;>simp[rT,h]
 |cons x l ih=>
  have hx:=hn x (by simp);unfold rT;rw[if_neg hx];by_cases e:x=2
  .rw[if_pos e,ih (λy hy=>hn y (by simp[hy])) (.inr rfl)];simp[e]
  .rw[if_neg e,ih (λy hy=>hn y (by simp[hy])) h2];simp[vC e]
def aeC:∀{l:List Int} {o:Int} {k:Nat} (hk:k<l.length),(∀j (hj:j<k),¬l[j]'(by omega)=0)->l[k]=0->rT l o=0
 |[],o,k,hk,_,_=>by simp at hk
 |x::l,o,0,hk,hj,h=>by
  unfold rT;rw[if_pos (by simpa using h)]
 |x::l,o,k+1,hk,hj,h=>by
  unfold rT;rw[if_neg (by have:=hj 0 (by omega);simpa using this)];exact aeC (k:=k) (by simpa using hk) (λj mY=>by have:=hj (j+1) (by omega);simpa using this) (by simpa using h)
def CH (l:List Int)(k:Nat):Int:=if 2∈l.take k then 2 else 1
def asB (l:List Int)(hl:l.length<=100000):ah T 80 [ints l] (.int (rT l 1)):=by
 refine zyw 103 ax3 ?_;simp[Xr];refine aO.scan l.length (λk=>l.getD k 0≠0) (λk=>[.int 0,.int (CH l k),.int k]) (λ_=>[]) ?_ (λk hk hj ar=>?_) (λk hk hj ar=>?_) (λhj=>?_)
 .simp[CH]
 .have hw:=bx hk (by omega);have hx:¬l[k]=0:=by simpa [hk] using ar
  have hm:CH l (k+1)=if l[k]=2 then 2 else CH l k:=by
   unfold CH;rw[jn hk];simp only[dC,vA];by_cases e:l[k]=2
   .simp[e]
   .simp[e,vC e]
  rw[hm];simp[VL,Hk,hk,hw,hx];by_cases e:l[k]=2<;>simp[e]
 .have hx:l[k]=0:=by simpa [hk] using ar
  simp[VL,Hk,hk,hx];rw[aeC hk (λj mY=>by simpa [show j<l.length by omega] using hj j mY) hx]
 .simp[VL,Hk];rw[asA (λx hx=>by obtain⟨j,fF,rfl⟩:=ew hx;simpa [fF] using hj j fF) (.inl rfl)];simp[CH]
def j7 (v:View)(q sign:Int):Int:=vn (sP v.realm v.forum q ⟨v.file,sign,sign,-1,v.due,v.day⟩)
def WU (v:View)(hr:Right v.realm)(hf:FewS v.file)(q sign:Int):ah T 81 [dK v,.int q,.int sign] (.int (j7 v q sign)):=by
 refine zyw 102 ax6 ?_;simp[Xu];refine⟨rz (sP v.realm v.forum q ⟨v.file,sign,sign,-1,v.due,v.day⟩),aaZ v.realm hr v.forum q ⟨v.file,sign,sign,-1,v.due,v.day⟩ hf,aa1 _⟩
def pI (f:File)(sign:Int)(n:Nat):Bool:=(f.alters.take n).any λa=>decide (sign<a.at_)
def wI (f:File):Int:=(f.alters.getD (f.alters.length-1) default).sum
def po (v:View)(sign:Int):Int×Int:=
 if pI v.file sign v.file.alters.length=false then(0,nH v.file sign v.file.alters.length)
 else if j7 v 4 sign=1 then(1,wI v.file)
 else if j7 v 4 sign=2 then(2,min (nH v.file sign v.file.alters.length) (wI v.file))
 else(j7 v 4 sign,nH v.file sign v.file.alters.length)
def axM (v:View)(hr:Right v.realm)(hf:FewS v.file)(sign:Int):ah T 82 [dK v,.int sign] (.tup [.int (po v sign).1,.int (po v sign).2]):=by
 refine zyw 104 ax7 ?_;simp[Xv];have td:=hf.alters;refine⟨_,avh v.file sign (by omega),?_⟩;refine aO.forRounds v.file.alters.length (λk=>[.bool (pI v.file sign k),.int k]) (λ_=>[]) ?_ (λk hk=>?_) ?_
 .simp[pI]
 .have hw:=bx hk (by omega);have hs:pI v.file sign (k+1)=(pI v.file sign k||decide (sign<v.file.alters[k].at_)):=by
   unfold pI;rw[jn hk,List.any_append];simp
  rw[hs];cases pI v.file sign k<;>simp[VM,Hl,hk,hw]
 .unfold po;cases ha:pI v.file sign v.file.alters.length
  .simp[VM,Hl,ha]
  simp[VM,Hl,ha];have F6:0<v.file.alters.length:=by
   rcases DY v.file.alters.length with e|e
   .simp[pI,vz.mp e] at ha
   .exact e
  have hw:i64.wrap ((v.file.alters.length:Int)-1)=(v.file.alters.length:Int)-1:=aQ (by omega);have hn:((v.file.alters.length:Int)-1).toNat=v.file.alters.length-1:=by omega
  have af:v.file.alters.length-1<v.file.alters.length:=by omega
  have yN:wI v.file=v.file.alters[v.file.alters.length-1].sum:=by simp[wI,af]
  simp[hw,hn,af];refine⟨by omega,_,WU v hr hf 4 sign,?_⟩;rw[yN];by_cases h1:j7 v 4 sign=1
  .simp[h1]
  by_cases h2:j7 v 4 sign=2
  .simp[h1,h2];split
   .rw[Int.min_eq_right (by omega)]
   .rw[Int.min_eq_left (by omega)]
  .simp[h1,h2]
@[simp] def aHQ (a0 a1 a2 a3 a4 a5 a6 x:D):dg [a0,a1,a2,a3,a4,a5,a6] 3 [x]=[a0,a1,a2,x,a4,a5,a6]:=zyz
@[simp] def aHR (a0 a1 a2 a3 a4 a5 a6 x:D):dg [a0,a1,a2,a3,a4,a5,a6] 4 [x]=[a0,a1,a2,a3,x,a5,a6]:=zyz
@[simp] def aHS (a0 a1 a2 a3 a4 a5 a6 x:D):dg [a0,a1,a2,a3,a4,a5,a6] 5 [x]=[a0,a1,a2,a3,a4,x,a6]:=zyz
def l6 (v:View)(sign:Int):Effect:=
 let s:=v.file.signs.getD sign.toNat default
 ⟨sign,s.kind,s.who,if vm v.file sign v.day=true then 0 else rT [v.form,j7 v 1 sign,j7 v 2 sign] 1,(po v sign).1,
    if s.kind=1\/s.kind=4 then min (po v sign).2 s.sum else(po v sign).2,decide (s.kind≠1)&&decide (bV .and .i64 s.flags 1=0)⟩
def anz (v:View)(hr:Right v.realm)(hf:FewS v.file)(sign:Int)(h0:0<=sign)(h1:sign<v.file.signs.length):ah T 39 [dK v,.int sign] (jP (l6 v sign)):=by
 refine zyw 99 ax5 ?_;obtain⟨k,rfl⟩:=qP h0;have hk:k<v.file.signs.length:=by omega
 have cA:=axP v.file k v.day (by have:=hf.acts;omega);have S8:=axM v hr hf k;have tC:v.file.signs.getD (k:Int).toNat default=v.file.signs[k]:=by simp[hk]
 have L8:=WU v hr hf 1 k;have dU:=WU v hr hf 2 k;have hj:ah T 80 [.list [.int v.form,.int (j7 v 1 k),.int (j7 v 2 k)]] (.int (rT [v.form,j7 v 1 k,j7 v 2 k] 1)):=asB [v.form,j7 v 1 k,j7 v 2 k] (by simp);have hif:(if v.file.signs[k].kind=1 then D.bool false else D.bool (decide (bV BinOp.and IntKind.i64 v.file.signs[k].flags 1=0)))=D.bool (decide (v.file.signs[k].kind≠1)&&decide (bV BinOp.and IntKind.i64 v.file.signs[k].flags 1=0)):=by
  by_cases h:v.file.signs[k].kind=1<;>simp[h]
 unfold l6;rw[tC];generalize j7 v 1 k=s1 at*;generalize j7 v 2 k=s2 at*;generalize rT [v.form,s1,s2] 1=jj at*;generalize po v k=tx at*;obtain⟨t1,t2⟩:=tx;simp only at S8;simp[Xt,hk,hif];refine⟨_,cA,?_⟩;have yR:∀a b:Int,(if b<a then D.int b else D.int a)=D.int (min a b):=by
  intro a b;split
  .rw[Int.min_eq_right (by omega)]
  .rw[Int.min_eq_left (by omega)]
 cases Co:vm v.file k v.day
 .simp[Co];refine⟨_,L8,_,dU,_,hj,_,S8,?_⟩;by_cases h1:v.file.signs[k].kind=1\/v.file.signs[k].kind=4
  .simp[h1,yR];rfl
  .simp[h1,yR];rfl
 .simp[Co];refine⟨_,S8,?_⟩;by_cases h1:v.file.signs[k].kind=1\/v.file.signs[k].kind=4
  .simp[h1,yR];rfl
  .simp[h1,yR];rfl
def dz (r:Realm)(forum:Int)(f:File)(day:Int):View:=⟨r,forum,day,bh f day,vn (km r forum 0 (bh f day) day),dW r forum (bh f day) day⟩
def au2 (r:Realm)(hr:Right r)(hd:RightD r)(forum:Int)(f:File)(day:Int)(hf:FewS f):ah T 38 [aP r,.int forum,cf f,.int day] (dK (dz r forum f day)):=by
 refine zyw 16 ax4 ?_;simp[Xs];have hg:=hf.at_ day;refine⟨_,WG f day (by have:=hf.signs;omega) (by have:=hf.acts;omega) (by have:=hf.alters;omega) (by have:=hf.facts;omega),?_⟩;simp;refine⟨_,aa0 r hr forum 0 _ day hg,_,aa1 _,_,aaD r hr hd forum _ day hg,?_⟩;simp;rfl
def rv (r:Realm)(forum:Int)(f:File)(day:Int):List Effect:=(List.range (dz r forum f day).file.signs.length).map λ(k:Nat)=>l6 (dz r forum f day) k
def akc (r:Realm)(hr:Right r)(hd:RightD r)(forum:Int)(f:File)(day:Int)(hf:FewS f):ah T 10 [aP r,.int forum,cf f,.int day] (oy (rv r forum f day)):=by
 refine zyw 15 ax2 ?_;simp[Xq];refine⟨_,au2 r hr hd forum f day hf,?_⟩;have hg:FewS (dz r forum f day).file:=hf.at_ day;have oO:(dz r forum f day).realm=r:=rfl;unfold rv;generalize dz r forum f day=v at*;have hl:=hg.signs;refine aO.forRounds v.file.signs.length (λk=>[.none,.int k]) (λk=>[oy ((List.range k).map λ(k:Nat)=>l6 v k)]) ?_ (λk hk=>?_) ?_
 .simp[oy]
 .have hw:=bx hk (by omega);have he:=anz v (oO▸hr) hg k (by omega) (by omega);rw[I5,nR];have hln:((List.range k).map λ(k:Nat)=>l6 v k).length=k:=by simp
  generalize ((List.range k).map λ(k:Nat)=>l6 v k)=A at*;simp[aiw,NT,hk,hw];exact⟨_,he,by omega,by simp[oy]⟩
 .simp[aiw,NT]
def BO {n:Nat}{f:Nat->Int}(h:fU n f=0)(k:Nat)(hk:k<n):f k=0:=Rk.1 h k hk
def alN {r:Realm}(h:iw r=0)(k:Nat)(hk:k<r.orders.length):sc r.orders[k]=true:=by
 unfold iw at h;rw[Ov] at h;have h1:=h (eN (eZ r) 20 (oX r)) (by simp);unfold eN at h1;split at h1
 .cases h1
 have h2:=BO h1 k (by simpa [eZ] using hk);have h3:=(BP h2).2;unfold oX at h3;simpa [hk] using h3
def apd {r:Realm}(hs:Small r)(h:iw r=0):DO r:=by
 intro o ho;obtain⟨k,hk,rfl⟩:=ew ho;have h1:=alN h k hk;obtain⟨hc,_⟩:=hs.order _ ho;refine⟨by omega,λch kP=>?_⟩;unfold sc at h1;simp only[ao] at h1;obtain⟨j,hj,rfl⟩:=ew kP;have h2:=xY.1 h1.1 j hj;simpa [aC,hj] using h2
def ape {r:Realm}(hs:Small r)(h:iw r=0):xI r:=by
 refine⟨by have:=hs.halts;omega,λx hx=>?_⟩;obtain⟨k,hk,rfl⟩:=ew hx;unfold iw at h;rw[Ov] at h;have h1:=h (qD r) (by simp);unfold qD at h1;split at h1
 .cases h1
 split at h1
 .cases h1
 split at h1
 .cases h1
 split at h1
 .rename_i aK;have h2:=xY.1 aK k hk;simp[vU,wi,aC,hk] at h2;omega
 .cases h1
structure Good (r:Realm) (f:File):Prop where
 right:Right r
 rightD:RightD r
 few:FewS f
def apf {r:Realm}{f:File}(hr:r.OK)(h:Fg r f=true):Good r f:=by
 unfold Fg uG at h;simp only[ao,decide_eq_true_eq] at h;obtain⟨⟨⟨h1,h2⟩,h3⟩,h4⟩:=h;have hs:=Rg hr h1;refine⟨⟨apd hs h4,by have:=hs.orders;omega,λo ho=>?_⟩,⟨hs,ape hs h4⟩,?_⟩
 .have:=hs.order o ho;refine⟨?_,by omega⟩;exact hr.2.2.2.2.1.2 o ho
 .simp[E4] at h2;exact⟨by omega,by omega,by omega,by omega⟩
@[simp] def aHb:D.none.cells=[D.none]:=zyz
end Rm
namespace Rm
open Go Cx
end Rm
namespace Rm
open Go Go.Proofs Cx
structure SumsOK (f:File):Prop where
 bill:1<=f.bill.sum/\f.bill.sum<=1099511627776
 rate:0<=f.bill.rate/\f.bill.rate<=1000
 alters:∀a,a∈f.alters->1<=a.sum/\a.sum<=1099511627776
 signs:∀s,s∈f.signs->s.kind=1\/s.kind=4->1<=s.sum/\s.sum<=1099511627776
def SumsOK.at_ {f:File}(h:SumsOK f)(day:Int):SumsOK (bh f day):=
 ⟨h.bill,h.rate,λa ha=>h.alters a ((eR.1 ha).1),λs hs=>h.signs s ((I6 _).subset hs)⟩
def axz {f:File}(h:SumsOK f)(sign:Int)(n:Nat):1<=nH f sign n/\nH f sign n<=1099511627776:=by
 unfold nH
 have key:∀(l:List Alter) (s:Int),(∀a,a∈l->a∈f.alters)->1<=s/\s<=1099511627776->1<=l.foldl (λs a=>if a.at_<=sign then a.sum else s) s/\l.foldl (λs a=>if a.at_<=sign then a.sum else s) s<=1099511627776:=by
  intro l
  induction l with
  |nil=>exact λs _ hs=>hs
  |cons a l ih=>
   intro s hl hs;rw[xM];refine ih _ (λb hb=>hl b (by simp[hb])) ?_;split
   .exact h.alters a (hl a (by simp))
   .exact hs
 exact key _ _ (λa ha=>aaB ha) h.bill
def asG {f:File}{sign:Int}(h:SumsOK f)(au:pI f sign f.alters.length=true):1<=wI f/\wI f<=1099511627776:=by
 unfold wI;have F6:0<f.alters.length:=by
  rcases DY f.alters.length with e|e
  .simp[pI,vz.mp e] at au
  .exact e
 have af:f.alters.length-1<f.alters.length:=by omega
 have e:f.alters.getD (f.alters.length-1) default=f.alters[f.alters.length-1]:=by simp[af]
 rw[e];exact h.alters _ (bU af)
def axL {v:View}(h:SumsOK v.file)(sign:Int):1<=(po v sign).2/\(po v sign).2<=1099511627776:=by
 have h1:=axz h sign v.file.alters.length;unfold po;split
 .exact h1
 rename_i ha;have h2:=asG (sign:=sign) h (by simpa using ha);split
 .exact h2
 split
 .simp only;omega
 .exact h1
def anx {v:View}(h:SumsOK v.file)(sign:Int)(h0:0<=sign)(h1:sign<v.file.signs.length):1<=(l6 v sign).sum/\(l6 v sign).sum<=1099511627776:=by
 have ht:=axL h sign;have af:sign.toNat<v.file.signs.length:=by omega
 have e:v.file.signs.getD sign.toNat default=v.file.signs[sign.toNat]:=by simp[af]
 unfold l6;simp only[e];split
 .rename_i hk;have:=h.signs _ (bU af) hk;omega
 .exact ht
def ZX (n m:Int):ah T 67 [.int n,.int m] (.bool (wi n 0 m)):=by
 refine zyw 111 ayy ?_;simp[XT];by_cases h:0<=n<;>simp[wi,h]
end Rm
namespace Rm
open Go Cx
structure Ratio where
 num:Int
 den:Int
 deriving DecidableEq,Inhabited
structure Quote where
 perMille:Int
 fails:List Ratio
 deriving DecidableEq,Inhabited
def Ratio.right (p:Ratio):Prop:=1<=p.den/\p.den<=1073741824/\0<=p.num/\p.num<=p.den
def ka (n:Int)(p:Ratio):Int:=(n*p.num+p.den-1)/p.den
def axs {n m:Int}{p:Ratio}(hp:p.right)(h:n<=m):ka n p<=ka m p:=by
 unfold ka;have h1:n*p.num<=m*p.num:=Int.mul_le_mul_of_nonneg_right h hp.2.2.1;exact aal (by have:=hp.1;omega) (by omega)
def IB {n:Int}{p:Ratio}(hp:p.right)(h:0<=n):0<=ka n p:=by
 unfold ka;have h1:0<=n*p.num:=An h hp.2.2.1;exact aam (by have:=hp.1;omega) (by have:=hp.1;omega)
def W7 {n:Int}{p:Ratio}(hp:p.right)(h:0<=n):ka n p<=n:=by
 unfold ka;have h1:n*p.num<=n*p.den:=aao hp.2.2.2 h;have h2:n*p.num+p.den-1<(n+1)*p.den:=by rw[IY];omega
 have h3:=Int.ediv_lt_of_lt_mul (by have:=hp.1;omega:0<p.den) h2;omega
def rS (p:Ratio):Nat->Int->Int
 |0,n=>n
 |k+1,n=>rS p k (ka n p)
def aeA {p:Ratio}(hp:p.right):∀(k:Nat) {n:Int},0<=n->0<=rS p k n
 |0,_,h=>h
 |k+1,_,h=>aeA hp k (IB hp h)
def Tw {p:Ratio}(hp:p.right):∀(k:Nat) {n:Int},0<=n->rS p k n<=n
 |0,_,h=>nO _
 |k+1,_,h=>xJ (Tw hp k (IB hp h)) (W7 hp h)
def aez {p:Ratio}(hp:p.right):∀(a b:Nat) {n m:Int},a<=b->0<=n->n<=m->rS p b n<=rS p a m
 |0,b,n,m,_,h0,h=>xJ (Tw hp b h0) h
 |a+1,b,n,m,mc,h0,h=>by
  obtain⟨b,rfl⟩:∃c,b=c+1:=⟨b-1,by omega⟩
  exact aez hp a b (by omega) (IB hp h0) (axs hp h)
def nW (ps:List Ratio)(uB:Nat->Nat):Nat->Int
 |0=>1000000000
 |g+1=>rS (ps.getD g default) (uB g) (nW ps uB g)
def l0 (ps:List Ratio):Prop:=ps.length=10/\∀p,p∈ps->p.right
def l0.at {ps:List Ratio}(h:l0 ps){g:Nat}(hg:g<10):(ps.getD g default).right:=by
 have:g<ps.length:=by rw[h.1];exact hg
 rw[aE,aU this];exact h.2 _ (bU this)
def KT {ps:List Ratio}(h:l0 ps)(uB:Nat->Nat):∀g,g<=10->0<=nW ps uB g
 |0,_=>by simp[nW]
 |g+1,hg=>aeA (h.at (by omega)) _ (KT h uB g (by omega))
def abq {ps:List Ratio}(h:l0 ps)(uB:Nat->Nat):∀g,g<=10->nW ps uB g<=1000000000
 |0,_=>nO _
 |g+1,hg=>xJ (Tw (h.at (by omega)) _ (KT h uB g (by omega))) (abq h uB g (by omega))
def abr {ps:List Ratio}(h:l0 ps){a b:Nat->Nat}(mc:∀g,a g<=b g):∀g,g<=10->nW ps b g<=nW ps a g
 |0,_=>nO _
 |g+1,hg=>aez (h.at (by omega)) _ _ (mc g) (KT h b g (by omega)) (abr h mc g (by omega))
def abt (ps:List Ratio){a:Nat->Nat}(h:∀g,a g=0):∀g,nW ps a g=1000000000
 |0=>rfl
 |g+1=>by rw[nW,h g,rS,abt ps h g]
def gn (gs:List Int)(g:Nat):Nat:=(gs.filter λx=>decide (x=(g:Int))).length
def aco (ps:List Ratio):∀(k a:Nat) (gs:List Int) (n:Int),a+k=10->gs.Pairwise (·<=·)->(∀x,x∈gs->(a:Int)<=x/\x<10)->
 gs.foldl (λn x=>ka n (ps.getD x.toNat default)) n=(List.range k).foldl (λn i=>rS (ps.getD (a+i) default) (gn gs (a+i)) n) n
 |0,a,gs,n,hk,hs,hx=>by
  cases gs with
  |nil=>rfl
  |cons x gs=>have:=hx x (by simp);omega
 |k+1,a,gs,n,hk,hs,hx=>by
  have key:∀(gs:List Int) (n:Int),gs.Pairwise (·<=·)->(∀x,x∈gs->(a:Int)<=x/\x<10)->gs.foldl (λn x=>ka n (ps.getD x.toNat default)) n=(gs.filter λx=>decide (x≠(a:Int))).foldl (λn x=>ka n (ps.getD x.toNat default)) (rS (ps.getD a default) (gn gs a) n):=by
   intro gs
   induction gs with
   |nil=>intro n _ _;rfl
   |cons x gs ih=>
    intro n hs hx;obtain⟨h1,h2⟩:=xS.1 hs;by_cases e:x=(a:Int)
    .subst e;rw[xM,ih _ h2 (λy hy=>hx y (by simp[hy]))];have e1:gn ((a:Int)::gs) a=gn gs a+1:=by simp[gn]
     rw[e1,rS];simp
    .have aK:∀y,y∈x::gs->y≠(a:Int):=λy hy e'=>by
       subst e';rcases cB.1 hy with h|h
       .exact e h.symm
       .have:=h1 _ h;have:=(hx x (by simp)).1;omega
     have e1:gn (x::gs) a=0:=by
       unfold gn;rw[vz,List.filter_eq_nil_iff];intro y hy;simpa using aK y hy
     have e2:(x::gs).filter (λx=>decide (x≠(a:Int)))=x::gs:=by
       rw[aat];intro y hy;simpa using aK y hy
     rw[e1,e2];rfl
  rw[key gs n hs hx,aco ps k (a+1) _ _ (by omega) (hs.sublist List.filter_sublist) (λx da=>by
   obtain⟨h1,h2⟩:=eR.1 da;have h3:=hx x h1;have h4:x≠(a:Int):=by simpa using h2
   omega)]
  rw[List.range_succ_eq_map,xM,aav]
  have ec:∀i:Nat,gn (gs.filter λx=>decide (x≠(a:Int))) (a+1+i)=gn gs (a+1+i):=by
   intro i;unfold gn;rw[List.filter_filter]
   congr 1
   apply List.filter_congr;intro x _;by_cases e:x=((a+1+i:Nat):Int)
   .subst e;simp;omega
   .rw[decide_eq_false e,sI]
  simp only[ec,iU]
  congr 1
  funext n i;rw[show a+1+i=a+i.succ by omega]
def ao5 (ps:List Ratio){gs:List Int}(hs:gs.Pairwise (·<=·))(hx:∀x,x∈gs->0<=x/\x<10):
 gs.foldl (λn x=>ka n (ps.getD x.toNat default)) 1000000000=nW ps (gn gs) 10:=by
 rw[aco ps 10 0 gs _ rfl hs (λx h=>by have:=hx x h;omega)]
 have:∀k,(List.range k).foldl (λn i=>rS (ps.getD (0+i) default) (gn gs (0+i)) n) 1000000000=nW ps (gn gs) k:=by
  intro k
  induction k with
  |zero=>rfl
  |succ k ih=>rw[I5,uo,ih];simp[nW]
 exact this 10
def gO (f:Nat->Int):Nat->Int
 |0=>0
 |n+1=>gO f n+f (n+1)
def W8 {f:Nat->Int}{p:Int}:∀(k a:Nat),(∀s,a<s->s<=a+k->f s=p)->gO f (a+k)=gO f a+(k:Int)*p
 |0,a,_=>by simp
 |k+1,a,h=>by
  show gO f (a+k)+f (a+k+1)=_;rw[W8 k a λs h1 h2=>h s h1 (by omega),h (a+k+1) (by omega) (by omega)];rw[Int.natCast_add,IY];simp;omega
def OG {f g:Nat->Int}:∀n,(∀s,0<s->s<=n->f s<=g s)->gO f n<=gO g n
 |0,_=>nO _
 |n+1,h=>by
  have h1:=OG n λs h1 h2=>h s h1 (by omega);have h2:=h (n+1) (by omega) (by omega);show gO f n+f (n+1)<=gO g n+g (n+1);omega
def W9 {f:Nat->Int}{m:Nat}(h:∀s,m<s->f s=0){n:Nat}(hn:m<=n):gO f n=gO f m:=by
 have:=W8 (f:=f) (p:=0) (n-m) m λs h1 h2=>h s h1;rw[show m+(n-m)=n by omega] at this;simpa using this
abbrev WS:Type:=Int×Int×Int
def xl (pay:Nat->Int)(w:WS)(s:Int):WS:=
 if s<=w.2.2 then w else
    (w.1+(s-w.2.2)/1000000000*pay s.toNat+((s-w.2.2)%1000000000*pay s.toNat+w.2.1)/1000000000,((s-w.2.2)%1000000000*pay s.toNat+w.2.1)%1000000000,s)
def iy (pay:Nat->Int)(L:List Int):WS:=L.foldl (xl pay) (0,0,0)
structure InvW (pay:Nat->Int) (w:WS):Prop where
 sum:1000000000*w.1+w.2.1=gO pay w.2.2.toNat
 r0:0<=w.2.1
 r1:w.2.1<1000000000
 b0:0<=w.2.2
def InvW.start (pay:Nat->Int):InvW pay (0,0,0):=⟨by simp[gO],by simp,by simp,by simp⟩
def InvW.step {pay:Nat->Int}(hp:∀s,0<=pay s){w:WS}(h:InvW pay w){x:Int}(hc:∀s:Nat,w.2.2<s->(s:Int)<=x->pay s=pay x.toNat):InvW pay (xl pay w x):=by
 unfold xl;by_cases hx:x<=w.2.2
 .rw[if_pos hx];exact h
 rw[if_neg hx];obtain⟨h1,h2,h3,h4⟩:=h;obtain⟨whole,rest,below⟩:=w;simp only at*;have hk:below.toNat+(x-below).toNat=x.toNat:=by omega
 have hs:=W8 (f:=pay) (p:=pay x.toNat) (x-below).toNat below.toNat λs k1 k2=>hc s (by omega) (by omega);rw[hk] at hs;have e1:(((x-below).toNat:Nat):Int)=x-below:=by omega
 rw[e1] at hs;have hm:=Int.mul_ediv_add_emod ((x-below)%1000000000*pay x.toNat+rest) 1000000000;have hw:=Int.mul_ediv_add_emod (x-below) 1000000000;have hmul:(x-below)*pay x.toNat=1000000000*((x-below)/1000000000*pay x.toNat)+(x-below)%1000000000*pay x.toNat:=by
  rw[<-Int.mul_assoc,<-IY,hw]
 have p0:=hp x.toNat;refine⟨?_,?_,?_,?_⟩
 .show 1000000000*(whole+(x-below)/1000000000*pay x.toNat+((x-below)%1000000000*pay x.toNat+rest)/1000000000)+((x-below)%1000000000*pay x.toNat+rest)%1000000000=gO pay x.toNat;rw[hs,<-h1,hmul];generalize (x-below)/1000000000*pay x.toNat=A at*;generalize (x-below)%1000000000*pay x.toNat=B at*;omega
 .exact Int.emod_nonneg _ (by omega)
 .exact Int.emod_lt_of_pos _ (by omega)
 .show 0<=x;omega
def Pj (pay:Nat->Int)(L:List Int):Prop:=∀s x:Nat,s<=x->(∀y,y∈L->y<(s:Int)\/(x:Int)<=y)->pay s=pay x
def Rr {pay:Nat->Int}(hp:∀s,0<=pay s){L:List Int}(hg:Pj pay L)(hs:L.Pairwise (·<=·))(h0:∀x,x∈L->0<=x):∀k,k<=L.length->
 InvW pay (iy pay (L.take k))/\(∀j (hj:j<L.length),j<k->L[j]<=(iy pay (L.take k)).2.2)/\((iy pay (L.take k)).2.2=0\/(iy pay (L.take k)).2.2∈L)
 |0,_=>⟨.start pay,λj _ h=>absurd h (Nat.not_lt_zero _),.inl rfl⟩
 |k+1,hk=>by
  obtain⟨h1,h2,h3⟩:=Rr hp hg hs h0 k (by omega);have af:k<L.length:=by omega
  have e:iy pay (L.take (k+1))=xl pay (iy pay (L.take k)) L[k]:=by
   unfold iy;rw[jn af,uo];rfl
  rw[e];generalize iy pay (L.take k)=w at*;have hx0:=h0 _ (bU af);refine⟨h1.step hp λs k1 k2=>?_,λj hj mY=>?_,?_⟩
  .refine hg s _ (by omega) λy hy=>?_;obtain⟨j,hj,rfl⟩:=ew hy;by_cases mY:j<k
   .have:=h2 j hj mY;omega
   .have:L[k]<=L[j]:=by
     by_cases e:j=k
     .subst e;exact nO _
     .exact I3.1 hs k j af hj (by omega)
    omega
  .unfold xl;by_cases hx:L[k]<=w.2.2
   .rw[if_pos hx];by_cases e:j=k
    .subst e;exact hx
    .exact h2 j hj (by omega)
   .rw[if_neg hx];show L[j]<=L[k];by_cases e:j=k
    .subst e;exact nO _
    .exact I3.1 hs j k hj af (by omega)
  .unfold xl;by_cases hx:L[k]<=w.2.2
   .rw[if_pos hx];exact h3
   .rw[if_neg hx];exact .inr (bU af)
def ao4 {pay:Nat->Int}(hp:∀s,0<=pay s){L:List Int}(hg:Pj pay L)(hs:L.Pairwise (·<=·))(h0:∀x,x∈L->0<=x){m:Nat}(hm:∀x,x∈L->x<=(m:Int))(hz:∀s:Nat,(∀y,y∈L->y<(s:Int))->pay s=0):
 (iy pay L).1=gO pay m/1000000000:=by
 obtain⟨h1,h2,h3⟩:=Rr hp hg hs h0 L.length (aX _);rw[Au] at h1 h2 h3;generalize iy pay L=w at*;have hb:w.2.2.toNat<=m:=by
  rcases h3 with e|e
  .rw[e];exact jK _
  .have:=hm _ e;omega
 have ad1:gO pay m=gO pay w.2.2.toNat:=W9 (λs eh=>hz s λy hy=>by
  obtain⟨j,hj,rfl⟩:=ew hy;have:=h2 j hj hj;have:=h1.b0;omega) hb
 rw[ad1,<-h1.sum];have:=h1.r0;have:=h1.r1;omega
def Mt (e:Effect):Bool:=decide (e.binds=1)&&(decide (e.kind=1)||e.recourse)
def uI (r:Realm)(e:Effect):Int:=(r.firms.getD e.firm.toNat default).group
def fC (r:Realm)(g:Int):Int:=(r.groups.getD g.toNat default).grade
def iZ (r:Realm)(l:List Effect)(s:Int):List Int:=ko (lL ((l.filter λe=>decide (s<=e.sum)).map (uI r)))
def vR {r:Realm}{l:List Effect}{s g:Int}:g∈iZ r l s↔∃e,e∈l/\s<=e.sum/\uI r e=g:=by
 unfold iZ;rw[amx (Mj _),ast];simp only[cr,eR,decide_eq_true_eq,and_assoc]
def BV (r:Realm)(l:List Effect)(s:Int):(iZ r l s).Pairwise (·<·):=amy (Mj _)
def q8 (r:Realm)(gs:List Int)(ps:List Ratio):Int:=nW ps (gn (gs.map (fC r))) 10
def eQ (r:Realm)(l:List Effect)(ps:List Ratio)(s:Nat):Int:=1000000000-q8 r (iZ r l s) ps
def Cv:∀{a b:List Int},a.Pairwise (·<·)->b.Pairwise (·<·)->(∀x,x∈a->x∈b)->a.Sublist b
 |[],b,_,_,_=>List.nil_sublist b
 |x::a,[],_,_,h=>by have:=h x (by simp);cases this
 |x::a,y::b,ha,hb,h=>by
  obtain⟨a1,a2⟩:=xS.1 ha;obtain⟨b1,b2⟩:=xS.1 hb;by_cases e:x=y
  .subst e;refine List.Sublist.cons_cons _ (Cv a2 b2 λz hz=>?_);rcases cB.1 (h z (by simp[hz])) with e|e
   .have:=a1 z hz;omega
   .exact e
  .refine .cons _ (Cv ha b2 λz hz=>?_);rcases cB.1 (h z hz) with e'|e'
   .subst e';rcases cB.1 hz with e2|e2
    .exact absurd e2.symm e
    .have h1:=a1 _ e2;rcases cB.1 (h x (by simp)) with e3|e3
     .exact absurd e3 e
     .have:=b1 _ e3;omega
   .exact e'
def aeo {a b:List Int}(ha:a.Pairwise (·<·))(hb:b.Pairwise (·<·))(h:∀x,x∈a↔x∈b):a=b:=
 (Cv ha hb λx hx=>(h x).1 hx).eq_of_length (Nat.le_antisymm (Cv ha hb λx hx=>(h x).1 hx).length_le (Cv hb ha λx hx=>(h x).2 hx).length_le)
def al8 {a b:List Int}(h:a.Sublist b)(f:Int->Int)(g:Nat):gn (a.map f) g<=gn (b.map f) g:=((h.map f).filter _).length_le
def alF {r:Realm}{ps:List Ratio}(hq:l0 ps){a b:List Int}(ha:a.Pairwise (·<·))(hb:b.Pairwise (·<·))(h:∀x,x∈a->x∈b):q8 r b ps<=q8 r a ps:=
 abr hq (λg=>al8 (Cv ha hb h) _ g) 10 (aX _)
def zA {r:Realm}{ps:List Ratio}(hq:l0 ps)(l:List Effect)(s:Nat):0<=eQ r l ps s/\eQ r l ps s<=1000000000:=by
 unfold eQ q8;have h1:=KT hq (gn ((iZ r l s).map (fC r))) 10 (aX _);have h2:=abq hq (gn ((iZ r l s).map (fC r))) 10 (aX _);omega
def avq {r:Realm}{ps:List Ratio}{l:List Effect}{s:Nat}(h:∀e,e∈l->e.sum<(s:Int)):eQ r l ps s=0:=by
 have e1:iZ r l s=[]:=by
  rw[aas];intro g hg;obtain⟨e,he,h1,_⟩:=vR.1 hg;have:=h e he;omega
 unfold eQ q8;rw[e1,abt ps (a:=gn (([]:List Int).map (fC r))) (λg=>rfl)];rfl
def ahE (r:Realm)(l:List Effect)(ps:List Ratio):Pj (eQ r l ps) (l.map (·.sum)):=by
 intro s x wq h;have e1:iZ r l s=iZ r l x:=by
  refine aeo (BV _ _ _) (BV _ _ _) λg=>?_;rw[vR,vR];refine exists_congr λe=>and_congr_right λhe=>and_congr_left λ_=>?_;have:=h e.sum (As he);omega
 unfold eQ;rw[e1]
def api {r:Realm}{l l':List Effect}(h:∀e,e∈l↔e∈l')(s:Int):iZ r l s=iZ r l' s:=
 aeo (BV _ _ _) (BV _ _ _) λg=>by
  rw[vR,vR];exact exists_congr λe=>and_congr_left λ_=>h e
def ln (r:Realm)(l:List Effect)(ps:List Ratio):Int:=gO (eQ r l ps) 1099511627776/1000000000
def ajO {r:Realm}{l l':List Effect}{ps:List Ratio}(hq:l0 ps)(hp:∀e,e∈l'↔e∈l)(hs:l'.Pairwise (λa b=>a.sum<=b.sum))(h0:∀e,e∈l->0<=e.sum/\e.sum<=1099511627776):
 (iy (eQ r l ps) (l'.map (·.sum))).1=ln r l ps:=by
 have hm:∀y,y∈l'.map (·.sum)->∃e,e∈l/\e.sum=y:=λy hy=>by
  obtain⟨e,he,rfl⟩:=cr.1 hy;exact⟨e,(hp e).1 he,rfl⟩
 refine ao4 (λs=>(zA hq l s).1) (λs x wq h=>?_) (I4.2 hs) (λx hx=>?_) (λx hx=>?_) (λs h=>?_)
 .refine ahE r l ps s x wq λy hy=>?_;obtain⟨e,he,rfl⟩:=cr.1 hy;exact h _ (As ((hp e).2 he))
 .obtain⟨e,he,rfl⟩:=hm x hx;exact(h0 e he).1
 .obtain⟨e,he,rfl⟩:=hm x hx;exact(h0 e he).2
 .exact avq λe he=>h _ (As ((hp e).2 he))
def aAH {r:Realm}{l l':List Effect}{ps:List Ratio}(hq:l0 ps)(h:∀e,e∈l->∃e',e'∈l'/\e.sum<=e'.sum/\uI r e'=uI r e):ln r l ps<=ln r l' ps:=by
 unfold ln;refine aal (by omega) (OG _ λs _ _=>?_)
 have:=alF (r:=r) hq (BV r l s) (BV r l' s) λg hg=>by
  obtain⟨e,he,h1,h2⟩:=vR.1 hg;obtain⟨e',rG,h3,h4⟩:=h e he;exact vR.2 ⟨e',rG,by omega,by rw[h4,h2]⟩
 unfold eQ;omega
def Xa {f:Nat->Int}{c:Int}:∀n,(∀s,0<s->s<=n->f s<=c)->gO f n<=(n:Int)*c
 |0,_=>by simp[gO]
 |n+1,h=>by
  have h1:=Xa n λs h1 h2=>h s h1 (by omega);have h2:=h (n+1) (by omega) (by omega);show gO f n+f (n+1)<=_;rw[Int.natCast_add,IY];simp;omega
def ajP {r:Realm}{l:List Effect}{ps:List Ratio}(hq:l0 ps):0<=ln r l ps:=by
 unfold ln;refine aam ?_ (by omega);have h1:=OG (f:=λ_=>0) (g:=eQ r l ps) 1099511627776 λs _ _=>(zA hq l s).1;have h2:=W9 (f:=λ_=>(0:Int)) (m:=0) (λ_ _=>rfl) (jK 1099511627776);have h3:gO (λ_=>(0:Int)) 0=0:=rfl;rw[h2,h3] at h1;exact h1
def j1 (w x:Int):Int:=(w*x+359999)/360000
def pQ (w pm d:Int):Int×Int:=
 if wi w 0 1099511627776=true/\wi pm 0 1000=true/\wi d 0 20000=true then(if j1 w (pm*d)<=w then(j1 w (pm*d),0) else(0,3)) else(0,1)
def rY (w x:Int):Int:=if j1 w x<=w then w-j1 w x else 0
def auF {w x:Int}(hw:0<=w)(hx:0<=x):0<=j1 w x:=by
 unfold j1;have:=An hw hx;omega
def afx {w x:Int}(hw:0<=w)(hx:0<=x):0<=rY w x/\rY w x<=w:=by
 have:=auF hw hx;unfold rY;split<;>omega
def auu {w w' x:Int}(hw:0<=w)(hx:0<=x)(h:w<=w'):rY w x<=rY w' x:=by
 by_cases hb:x<=360000
 .have h1:w'*x<=w*x+(w'-w)*360000:=by
   have e:w'*x=w*x+(w'-w)*x:=by rw[<-IY];congr 1;omega
   rw[e];have:=aao hb (show 0<=w'-w by omega);omega
  have h2:j1 w' x<=j1 w x+(w'-w):=by
   unfold j1;generalize w'*x=A at*;generalize w*x=B at*;omega
  unfold rY;split<;>split<;>omega
 .have:rY w x=0:=by
   unfold rY;by_cases h0:w=0
   .subst h0;have:j1 0 x=0:=by unfold j1;rw[Int.zero_mul];rfl
    rw[this];simp
   .have h1:w*360001<=w*x:=aao (by omega) hw;have h2:w<j1 w x:=by
     unfold j1;generalize w*x=A at*;omega
    rw[if_neg (by omega)]
  rw[this];exact(afx (by omega) hx).1
def amH {w pm d:Int}(hw:0<=w/\w<=1099511627776)(hp:0<=pm/\pm<=1000)(hd:0<=d/\d<=20000):(if(pQ w pm d).2≠0 then 0 else w-(pQ w pm d).1)=rY w (pm*d):=by
 have e:pQ w pm d=if j1 w (pm*d)<=w then(j1 w (pm*d),0) else(0,3):=by
  unfold pQ;rw[if_pos ⟨by simp[wi];omega,by simp[wi];omega,by simp[wi];omega⟩]
 rw[e];unfold rY;split<;>simp
def zB (w pm due day:Int):Int×Int:=
 if due=-1 then(0,4) else if day<due/\20000<due-day then(0,3) else(rY w (pm*max (due-day) 0),0)
def avJ {w w' pm due day:Int}(hw:0<=w)(hp:0<=pm)(h:w<=w'):(zB w pm due day).1<=(zB w' pm due day).1/\(zB w pm due day).2=(zB w' pm due day).2:=by
 unfold zB;have:0<=pm*max (due-day) 0:=An hp (by omega);split
 .exact⟨nO _,rfl⟩
 split
 .exact⟨nO _,rfl⟩
 .exact⟨auu hw this h,rfl⟩
def al7 {a b:List Int}(h:a.Perm b)(g:Nat):gn a g=gn b g:=(h.filter _).length_eq
end Rm
namespace Rm
open Go Go.Proofs Cx
def abP {r:Realm}{b:Bill}(hr:RightD r)(hc:iw r=0)(RV:aC b.city r.cities.length=true)(eE:aC b.pay r.cities.length=true)(hd:eB b.day=true)(hk:b.tenor.kind=3)(hu:b.tenor.unit=0)
 (hn:eB b.tenor.n=true) {g:Int} (hg:0<=g/\g<=20000) (hs:b.tenor.n+g<=100000):rl r b (-1) g=lX r b.pay (b.tenor.n+g):=by
 have jR:=Oi r hr.small;rw[hc] at jR;have lI:0<=b.tenor.n/\b.tenor.n<=100000:=by simpa [eB] using hn
 have y1:=WX r hr.halts b.pay (b.tenor.n+g) (by simpa [aC] using eE) hr.cities (by omega) (by omega);have hb:ah T 107 [aP r,dJ b,.int (-1)] (.tup [.int b.tenor.n,.int 0]):=by
  refine .of_tree rfl x9 z7 ?_;simp[pq,hk]
 have h:ah T 65 [aP r,dJ b,.int (-1),.int g] (.tup [.int (lX r b.pay (b.tenor.n+g)).1,.int (lX r b.pay (b.tenor.n+g)).2]):=by
  have uS:=Cw r b.city;have adm:=Cw r b.pay;have yK:=wE b.day;have hi3:=wE b.tenor.n;have hi4:=DZ b.tenor;rw[RV] at uS;rw[eE] at adm;rw[hd] at yK;rw[hn] at hi3;rw[show Du b.tenor=false from by simp[Du,hk]] at hi4;have hw:i64.wrap (b.tenor.n+g)=b.tenor.n+g:=aQ (by omega);have jU:¬g<0:=by omega
  have iz:¬20000<g:=by omega
  have dU:¬100000<b.tenor.n+g:=by omega
  refine .of_tree rfl PM Zl ?_;simp[IF];refine⟨_,jR,?_⟩;simp;refine⟨_,uS,?_⟩;simp;refine⟨_,adm,?_⟩;simp;refine⟨_,yK,?_⟩;simp[hk,hu,jU,iz];refine⟨_,hi4,?_⟩;simp;refine⟨_,hb,?_⟩;simp;refine⟨_,hi3,?_⟩;simp[hw,dU];refine⟨_,y1,?_⟩;simp
 have h2:=h.det (Pg r hr b (-1) g);simp at h2;exact Prod.ext h2.1.symm h2.2.symm
def av8 (l:List Int)(hl:l.length<=4000000):ah T 22 [ints l,ints l] (.bool true):=by
 refine zyw 117 azi ?_;simp[Yy];refine aO.forRounds l.length (λk=>[.bool false,.int k]) (λ_=>[]) ?_ (λk hk=>?_) ?_
 .simp
 .have hw:=bx hk (by omega);simp[aiG,N5,hk,hw]
 .simp[aiG,N5]
def Mg {n:Int}(h:-100000<=n/\n<=100000):ba n:=by unfold ba;omega
def oz (x:Ratio):D:=.agg [.int x.num,.int x.den]
@[simp] def aCw (x:Ratio):(oz x).cells=[.int x.num,.int x.den]:=zyz
@[simp] def aGY (x:Ratio):D.agg [.int x.num,.int x.den]=oz x:=zyz
@[simp] def aCu (x:Ratio):(oz x).c 0=.int x.num:=zyz
@[simp] def aCv (x:Ratio):(oz x).c 1=.int x.den:=zyz
def vj (l:List Ratio):D:=.list (l.map oz)
@[simp] def aHu (l:List Ratio):(vj l).l=l.map oz:=zyz
@[simp] def aHt (l:List Ratio):(vj l).cells=[vj l]:=zyz
def lz (x:Quote):D:=.agg [.int x.perMille,vj x.fails]
@[simp] def aCn (x:Quote):(lz x).cells=[.int x.perMille,vj x.fails]:=zyz
@[simp] def aGW (x:Quote):D.agg [.int x.perMille,vj x.fails]=lz x:=zyz
@[simp] def aCl (x:Quote):(lz x).c 0=.int x.perMille:=zyz
@[simp] def aCm (x:Quote):(lz x).c 1=vj x.fails:=zyz
abbrev ajJ:Ty:=.agg [.int .i64,.int .i64]
abbrev aAk:Ty:=.agg [.int .i64,.slice ajJ]
def Ratio.OK (x:Ratio):Prop:=ba x.num/\ba x.den
def Quote.OK (x:Quote):Prop:=ba x.perMille/\x.fails.length<=maxLen/\∀p,p∈x.fails->p.OK
def awm {d:D}(h:DTy ajJ d):∃x:Ratio,d=oz x/\x.OK:=by
 obtain⟨ds,rfl,hs⟩:=h.agg_inv;obtain⟨d0,ds,rfl,h0,hs⟩:=hs.cons_inv;obtain⟨d1,ds,rfl,h1,hs⟩:=hs.cons_inv;obtain rfl:=hs.nil_inv;obtain⟨n0,rfl,b0⟩:=h0.i64_inv;obtain⟨n1,rfl,b1⟩:=h1.i64_inv;exact⟨⟨n0,n1⟩,rfl,⟨b0,b1⟩⟩
def avQ {d:D}(h:DTy aAk d):∃x:Quote,d=lz x/\x.OK:=by
 obtain⟨ds,rfl,hs⟩:=h.agg_inv;obtain⟨d0,ds,rfl,h0,hs⟩:=hs.cons_inv;obtain⟨d1,ds,rfl,h1,hs⟩:=hs.cons_inv;obtain rfl:=hs.nil_inv;obtain⟨n0,rfl,b0⟩:=h0.i64_inv;obtain⟨xs,rfl,hm,hx⟩:=h1.slice_inv;obtain⟨l,rfl,hl⟩:=kE (enc:=oz) (P:=Ratio.OK) λx hh=>awm (hx x hh);exact⟨⟨n0,l⟩,rfl,⟨b0,by simpa using hm,hl⟩⟩
def pJ (p:Ratio):Bool:=decide (p.den<1)||decide (1073741824<p.den)||decide (p.num<0)||decide (p.den<p.num)
def kG (q:Quote):Int:=if q.perMille<0\/1000<q.perMille\/q.fails.length≠10\/q.fails.any pJ=true then 1 else 0
def Hb {q:Quote}(h:kG q=0):0<=q.perMille/\q.perMille<=1000/\l0 q.fails:=by
 unfold kG at h;split at h
 .cases h
 rename_i h1;have h2:q.fails.any pJ=false:=by
  cases e:q.fails.any pJ with
  |false=>rfl
  |true=>exact absurd (.inr (.inr (.inr e))) h1
 refine⟨by omega,by omega,?_,λp hp=>?_⟩
 .exact Aj λe=>h1 (.inr (.inr (.inl e)))
 .have:=List.any_eq_false.1 h2 p hp;simp[pJ] at this;unfold Ratio.right;omega
def ake (l:List Ratio)(f:Nat)(caps:List D)(g:Nat->Bool)(hg:∀k (hk:k<l.length),ah T f (oz l[k]::caps) (.bool (g k)))(hl:l.length<=4294967296):
 ah T 88 [vj l,.clo f caps] (.int (nl l.length g)):=by
 refine zyw 8 azP ?_;simp[Zf];refine .scan l.length (λk=>g k=false) (λk=>[.int 0,.int k]) (λ_=>[]) ?_ (λk hk hj ho=>?_) (λk hk hj ho=>?_) (λhj=>?_)
 .simp
 .have hw:=bx hk hl;simp[Wu,H8,hk,hw];refine⟨_,_,⟨rfl,rfl⟩,_,hg k hk,?_⟩;simp[ho,hw]
 .have he:=Mm hk (by simpa using ho) hj;simp[Wu,H8,hk,he];refine⟨_,_,⟨rfl,rfl⟩,_,hg k hk,?_⟩;simp[ho]
 .have he:=Ml hj;simp[Wu,H8,he]
def aj6 (l:List Ratio)(f:Nat)(caps:List D)(g:Nat->Bool)(hg:∀k (hk:k<l.length),ah T f (oz l[k]::caps) (.bool (g k)))(hl:l.length<=4294967296):
 ah T 48 [vj l,.clo f caps] (.bool ((List.range l.length).any g)):=by
 refine zyw 7 azK ?_;simp[Za];refine⟨_,ake l f caps g hg hl,?_⟩;have:=Tx l.length g;simp[<-this]
def aj3 (p:Ratio):ah T 47 [oz p] (.bool (pJ p)):=by
 refine zyw 6 ayP ?_;simp[X9,pJ];by_cases h1:p.den<1<;>by_cases h2:1073741824<p.den<;>by_cases h3:p.num<0<;>by_cases h4:p.den<p.num<;>simp[h1,h2,h3,h4]
def Pf (q:Quote)(hl:q.fails.length<=4294967296):ah T 21 [lz q] (.int (kG q)):=by
 refine zyw 5 ayQ ?_
 have h:=aj6 q.fails 47 [] (λk=>pJ (q.fails.getD k default)) (λk hk=>by
  have e:q.fails.getD k default=q.fails[k]:=by simp[hk]
  rw[e];exact aj3 _) hl
 have e:(List.range q.fails.length).any (λk=>pJ (q.fails.getD k default))=q.fails.any pJ:=by
  rw[ui,xL,xL];constructor
  .rintro⟨k,hk,hb⟩;have bf:=fu.1 hk;exact⟨q.fails[k],bU bf,by simpa [bf] using hb⟩
  .rintro⟨p,hp,hb⟩;obtain⟨k,hk,rfl⟩:=ew hp;exact⟨k,fu.2 hk,by simpa [hk] using hb⟩
 rw[e] at h;by_cases p1:0<=q.perMille
 case neg=>
  have n1:q.perMille<0:=by omega
  have e1:kG q=1:=by unfold kG;rw[if_pos (.inl n1)]
  rw[e1];simp[DC,p1,n1]
 have n1:¬q.perMille<0:=by omega
 by_cases p2:q.perMille<=1000
 case neg=>
  have n2:1000<q.perMille:=by omega
  have e1:kG q=1:=by unfold kG;rw[if_pos (.inr (.inl n2))]
  rw[e1];simp[DC,p1,n1,p2,n2]
 have n2:¬1000<q.perMille:=by omega
 by_cases p3:q.fails.length=10
 case neg=>
  have n3:¬(q.fails.length:Int)=10:=by omega
  have e1:kG q=1:=by unfold kG;rw[if_pos (.inr (.inr (.inl p3)))]
  rw[e1];simp[DC,p1,n1,p2,n2,p3,n3]
 have n3:(q.fails.length:Int)=10:=by omega
 have e1:kG q=if q.fails.any pJ=true then 1 else 0:=by
  unfold kG;by_cases hb:q.fails.any pJ=true
  .rw[if_pos hb,if_pos (.inr (.inr (.inr hb)))]
  .rw[if_neg hb,if_neg (by rintro(h|h|h|h);exact n1 h;exact n2 h;exact h p3;exact hb h)]
 rw[e1];clear e e1;generalize q.fails.any pJ=b at h ⊢;simp[DC,p1,n1,p2,n2,p3,n3];refine⟨_,h,?_⟩;cases b<;>simp
def avn (a b c:Nat)(ha:a<9223372036854775808)(hb:b<9223372036854775808)(hc:0<c)(hc2:c<9223372036854775808):
 ah T 68 [.int a,.int b,.int c] (if 1099511627776<a*b/c then .tup [.int 0,.int 0,.bool false] else .tup [.int ((a*b/c:Nat):Int),.int ((a*b%c:Nat):Int),.bool true]):=by
 refine zyw 112 ayx ?_;have wa:IntKind.u64.wrap (a:Int)=a:=ke (by omega);have wb:IntKind.u64.wrap (b:Int)=b:=ke (by omega);have wc:IntKind.u64.wrap (c:Int)=c:=ke (by omega);simp[XS,wa,wb,wc,-Int.natCast_ediv,-Int.natCast_emod,-Int.natCast_mul];refine⟨_,afu a b (by omega) (by omega),?_⟩;have B6:=xU (a*b) 18446744073709551616;have p6:a*b%18446744073709551616<18446744073709551616:=pD _ (by decide);generalize Cb:a*b/18446744073709551616=hi at*;generalize aF0:a*b%18446744073709551616=lo at*;by_cases h1:c<=hi
 .have cw:(c:Int)<=(hi:Int):=by omega
  have LA:18446744073709551616<=a*b/c:=by
   rw[Pu hc];have:=Nat.mul_le_mul_left 18446744073709551616 h1;omega
  have de:1099511627776<a*b/c:=by omega
  simp[h1,de]
 .have cw:¬(c:Int)<=(hi:Int):=by omega
  have hd:=amI hi lo c hc (by omega) p6 (by omega);have e:hi*18446744073709551616+lo=a*b:=by omega
  rw[e] at hd;have gz:a*b%c<c:=pD _ hc;simp[h1,-Int.natCast_ediv,-Int.natCast_emod,-Int.natCast_mul];refine⟨_,hd,?_⟩;generalize a*b/c=q at*;generalize a*b%c=r at*;by_cases h2:1099511627776<q
  .have gU:(1099511627776:Int)<(q:Int):=by omega
   simp[h2,gU]
  .have gU:¬(1099511627776:Int)<(q:Int):=by omega
   have hw:i64.wrap (q:Int)=q:=aQ (by omega);have cZ:i64.wrap (r:Int)=r:=aQ (by omega);simp[h2,gU,hw,cZ]
def alw (n:Nat):((n:Int)+359999)/360000=((n/360000:Nat):Int)+if 0<n%360000 then 1 else 0:=by
 split<;>omega
def aka (w pm d:Int):ah T 31 [.int w,.int pm,.int d] (.tup [.int (pQ w pm d).1,.int (pQ w pm d).2]):=by
 refine zyw 110 ayw ?_;simp[XR];refine⟨_,ZX _ _,?_⟩;cases h1:wi w 0 1099511627776
 .simp[pQ,h1]
 simp;refine⟨_,ZX _ _,?_⟩;cases h2:wi pm 0 1000
 .simp[pQ,h1,h2]
 simp;refine⟨_,ZX _ _,?_⟩;cases h3:wi d 0 20000
 .simp[pQ,h1,h2,h3]
 simp[wi] at h1 h2 h3;obtain⟨a,rfl⟩:=qP h1.1;obtain⟨b,rfl⟩:=qP h2.1;obtain⟨c,rfl⟩:=qP h3.1;have RP:b*c<=20000000:=gm (Aw (show b<=1000 by omega) (show c<=20000 by omega)) (by decide);have hw:i64.wrap ((b:Int)*(c:Int))=((b*c:Nat):Int):=by rw[<-Int.natCast_mul];exact aQ (by omega)
 have hp:=avn a (b*c) 360000 (by omega) (by omega) (by decide) (by decide);have hdF:pQ a b c=if j1 a ((b*c:Nat):Int)<=(a:Int) then(j1 a ((b*c:Nat):Int),0) else(0,3):=by
  unfold pQ;rw[if_pos ⟨by simp[wi];omega,by simp[wi];omega,by simp[wi];omega⟩,Int.natCast_mul]
 have jc:j1 a ((b*c:Nat):Int)=((a*(b*c)/360000:Nat):Int)+if 0<a*(b*c)%360000 then 1 else 0:=by
  unfold j1;rw[<-Int.natCast_mul,alw]
 rw[hdF,jc];generalize a*(b*c)/360000=q at*;generalize a*(b*c)%360000=r at*;simp[hw];refine⟨_,hp,?_⟩;by_cases hq:1099511627776<q
 .have:¬((q:Int)+(if 0<r then 1 else 0)<=(a:Int)):=by split<;>omega
  rw[if_pos hq];simp[this]
 .rw[if_neg hq];by_cases hr:0<r
  .have oO:(0:Int)<(r:Int):=by omega
   have cZ:i64.wrap ((q:Int)+1)=(q:Int)+1:=aQ (by omega);by_cases hle:(q:Int)+1<=(a:Int)
   .have oK:¬((a:Int)<(q:Int)+1):=by omega
    simp[hr,oO,cZ,hle,oK]
   .have oK:(a:Int)<(q:Int)+1:=by omega
    simp[hr,oO,cZ,hle,oK]
  .have oO:¬(0:Int)<(r:Int):=by omega
   by_cases hle:(q:Int)<=(a:Int)
   .have oK:¬((a:Int)<(q:Int)):=by omega
    have iI:¬(a<q):=by omega
    simp[hr,oO,hle,oK,iI]
    try omega
   .have oK:(a:Int)<(q:Int):=by omega
    have iI:a<q:=by omega
    simp[hr,oO,hle,oK,iI]
    try omega
def dG (r:Realm)(forum:Int)(f:File)(day:Int):List Effect:=(rv r forum f day).filter Mt
def amB (l:List Effect)(h:l.length<=4294967296):ah T 69 [oy l,.clo 70 []] (oy (l.filter Mt)):=by
 refine .of_ext (g:=λ_ ds=>K1 ds) rfl ⟨0,λ_ _=>?_⟩;show(if 70=70/\(l.map jP).length<=4294967296 then some (D.list ((l.map jP).filter gZ)) else none)=_;rw[if_pos ⟨rfl,by simpa using h⟩,List.filter_map];rfl
def ab1 (r:Realm)(forum:Int)(f:File)(day:Int):(rv r forum f day).length<=f.signs.length:=by
 unfold rv;rw[ef,aaz];exact(I6 _).length_le
def aeT (r:Realm)(hr:Right r)(hd:RightD r)(forum:Int)(f:File)(day:Int)(hf:FewS f):ah T 33 [aP r,.int forum,cf f,.int day] (oy (dG r forum f day)):=by
 refine zyw 14 ay0 ?_;simp[Yg];have hl:=ab1 r forum f day;have:=hf.signs;refine⟨_,akc r hr hd forum f day hf,?_⟩;exact amB _ (by omega)
def Tu (r:Realm)(forum:Int):ah T 32 [aP r,.int forum] (.bool (decide (0<=forum/\forum<r.orders.length))):=by
 refine zyw 13 ayY ?_;simp[Yf];by_cases h:0<=forum<;>simp[h]
def Ts (l:List Int):(l.map D.int).map D.i=l:=by rw[nS];exact xP _
def axn (l:List Int)(h:l.length<=4294967296):ah T 76 [.none,ints l] (.tup [.tup [],ints (lL l)]):=by
 refine .of_ext (g:=λ_ ds=>IA ds) rfl ⟨0,λ_ _=>?_⟩;show(if(l.map D.int).length<=4294967296 then some (D.tup [.tup [],ints (lL ((l.map D.int).map D.i))]) else none)=_;rw[Ts,if_pos (by simpa using h)]
def ami (l:List Int)(h:l.length<=4294967296):ah T 77 [ints l] (ints (ko l)):=by
 refine .of_ext (g:=λ_ ds=>KZ ds) rfl ⟨0,λ_ _=>?_⟩;show(if(l.map D.int).length<=4294967296 then some (ints (ko ((l.map D.int).map D.i))) else none)=_;rw[Ts,if_pos (by simpa using h)]
def alZ (l:List Int)(h:l.length<=4294967296):ah T 73 [ints l] (ints l):=by
 refine .of_ext (g:=λ_ ds=>ly ds) rfl ⟨0,λ_ _=>?_⟩;show(if(l.map D.int).length<=4294967296 then some (D.list (l.map D.int)) else none)=_;rw[if_pos (by simpa using h)];rfl
def IV (r:Realm)(l:List Effect):Prop:=∀e,e∈l->0<=e.firm/\e.firm<r.firms.length
def tc (r:Realm)(l:List Effect)(s:Int):List Int:=(l.filter λe=>decide (s<=e.sum)).map (uI r)
def apq (r:Realm)(l:List Effect)(e:Effect)(s:Int):tc r (l++[e]) s=tc r l s++if s<=e.sum then[uI r e] else[]:=by
 unfold tc;rw[DS,nR]
 congr 1
 by_cases h:s<=e.sum<;>simp[List.filter,h]
def acy (r:Realm)(l:List Effect)(s:Int):(tc r l s).length<=l.length:=by
 unfold tc;rw[ef];exact pA _ _
def acw (r:Realm)(l:List Effect)(s:Int)(hf:IV r l)(hl:l.length<=1000):ah T 37 [aP r,oy l,.int s] (ints (iZ r l s)):=by
 refine zyw 108 ayX ?_;simp[Ye];refine aO.forRounds l.length (λk=>[.none,.int k]) (λk=>[ints (tc r (l.take k) s)]) ?_ (λk hk=>?_) ?_
 .simp[tc,ints]
 .have hw:=bx hk (by omega);obtain⟨f1,f2⟩:=hf _ (bU hk);rw[jn hk,apq];have FF:=acy r (l.take k) s;rw[dO] at FF;generalize tc r (l.take k) s=G at*;simp[aiF,N2,hk,hw];generalize l[k]=e at*;have af:e.firm.toNat<r.firms.length:=by omega
  have hg:uI r e=r.firms[e.firm.toNat].group:=by unfold uI;simp[af]
  by_cases h:s<=e.sum
  .simp[h,hg,f1,f2,af];exact⟨by omega,by simp[ints]⟩
  .simp[h]
 .rw[Au];have FF:=acy r l s;have hG:iZ r l s=ko (lL (tc r l s)):=rfl;rw[hG];generalize tc r l s=G at*;have hs:=axn G (by omega);have hc:=ami (lL G) (by rw[Mi];omega);simp[aiF,N2];refine⟨_,hs,?_⟩;simp;exact hc
def DQ (r:Realm)(gs:List Int):Prop:=∀g,g∈gs->0<=g/\g<r.groups.length
def xH (r:Realm):Prop:=∀g,g∈r.groups->0<=g.grade/\g.grade<10
def xH.at {r:Realm}(h:xH r){g:Int}(h0:0<=g)(h1:g<r.groups.length):0<=fC r g/\fC r g<10:=by
 have af:g.toNat<r.groups.length:=by omega
 unfold fC;rw[aE,aU af];exact h _ (bU af)
def Rx (r:Realm)(g:Int)(h0:0<=g)(h1:g<r.groups.length):dQ (aP r) (.int g)=fC r g:=by
 have af:g.toNat<r.groups.length:=by omega
 unfold dQ fC;show((((groups r.groups).l.getD g.toNat .none).c 0).i:Int)=_;rw[show(groups r.groups).l=r.groups.map sX from rfl,aE,bX,aU af,aE,aU af];rfl
def q6 (r:Realm)(gs:List Int):List Int:=(gM (dQ (aP r)) (gs.map D.int)).map D.i
def QB (r:Realm)(gs:List Int):(q6 r gs).Perm gs:=by
 have:=(sE (dQ (aP r)) (gs.map D.int)).map D.i
 rwa [Ts] at this
def alh (r:Realm)(gs:List Int):D.list (gM (dQ (aP r)) (gs.map D.int))=ints (q6 r gs):=by
 unfold q6 ints;rw[nS]
 congr 1
 conv=>lhs;rw[<-xP (gM (dQ (aP r)) (gs.map D.int))]
 refine sL λx hx=>?_;obtain⟨g,_,rfl⟩:=cr.1 ((sE _ _).mem_iff.1 hx);rfl
def ali (r:Realm){gs:List Int}(h:DQ r gs):((q6 r gs).map (fC r)).Pairwise (·<=·):=by
 unfold q6;rw[nS,I4];refine(ajo (dQ (aP r)) (gs.map D.int)).imp_of_mem λ{a b} ha hb mc=>?_;obtain⟨x,hx,rfl⟩:=cr.1 ((sE _ _).mem_iff.1 ha);obtain⟨y,hy,rfl⟩:=cr.1 ((sE _ _).mem_iff.1 hb);rw[Rx r x (h x hx).1 (h x hx).2,Rx r y (h y hy).1 (h y hy).2] at mc;exact mc
def axm (r:Realm)(gs:List Int)(hg:DQ r gs)(hr:xH r)(hl:gs.length<=4294967296):ah T 74 [.none,.clo 75 [.ref (aP r)],ints gs] (.tup [.tup [],ints (q6 r gs)]):=by
 have aK:(gs.map D.int).all (zp (aP r))=true:=by
  rw[cN];intro x hx;obtain⟨g,uQ,rfl⟩:=cr.1 hx;obtain⟨h0,h1⟩:=hg g uQ;have h2:=hr.at h0 h1;have e:((aP r).c 2).l.length=r.groups.length:=by show(r.groups.map sX).length=_;simp
  simp only[zp,ao,decide_eq_true_eq,Rx r g h0 h1,e];have e2:(D.int g).i=g:=rfl;rw[e2];exact⟨⟨h0,by omega⟩,by omega⟩
 refine .of_ext (g:=λ_ ds=>OC ds) rfl ⟨0,λ_ _=>?_⟩;show(if 75=75/\(gs.map D.int).length<=4294967296/\(gs.map D.int).all (zp (aP r))=true then some (D.tup [.tup [],.list (gM (dQ (aP r)) (gs.map D.int))]) else none)=_;rw[if_pos ⟨rfl,by simpa using hl,aK⟩,alh]
def alG (r:Realm)(gs:List Int)(ps:List Ratio):nW ps (gn ((q6 r gs).map (fC r))) 10=q8 r gs ps:=by
 unfold q8;have e:gn ((q6 r gs).map (fC r))=gn (gs.map (fC r)):=by
  funext g;exact al7 ((QB r gs).map _) g
 rw[e]
def acp {ps:List Ratio}(hq:l0 ps):∀(l:List Int),(∀x,x∈l->0<=x/\x<10)->∀n:Int,0<=n/\n<=1000000000->0<=l.foldl (λn x=>ka n (ps.getD x.toNat default)) n/\l.foldl (λn x=>ka n (ps.getD x.toNat default)) n<=1000000000
 |[],_,n,h=>h
 |x::l,hx,n,h=>by
  have hp:=hq.at (g:=x.toNat) (by have:=hx x (by simp);omega);exact acp hq l (λy hy=>hx y (by simp[hy])) _ ⟨IB hp h.1,xJ (W7 hp h.1) h.2⟩
def abu (r:Realm)(gs:List Int)(q:Quote)(hg:DQ r gs)(hr:xH r)(hq:l0 q.fails)(hl:gs.length<=1000000):ah T 36 [aP r,ints gs,lz q] (.int (q8 r gs q.fails)):=by
 refine zyw 9 ayW ?_;simp[Yd];refine⟨_,alZ gs (by omega),?_⟩;refine⟨_,axm r gs hg hr (by omega),?_⟩;have Fs:(q6 r gs).length=gs.length:=(QB r gs).length_eq;have B2:DQ r (q6 r gs):=λg h=>hg g ((QB r gs).mem_iff.1 h)
 have kz:=ao5 q.fails (ali r hg) (λx hx=>by
  obtain⟨g,uQ,rfl⟩:=cr.1 hx;exact hr.at (B2 g uQ).1 (B2 g uQ).2)
 rw[alG,aav] at kz;rw[<-kz];generalize q6 r gs=L at*
 have yX:∀k,0<=(L.take k).foldl (λn g=>ka n (q.fails.getD (fC r g).toNat default)) 1000000000/\(L.take k).foldl (λn g=>ka n (q.fails.getD (fC r g).toNat default)) 1000000000<=1000000000:=λk=>by
  have:=acp hq ((L.take k).map (fC r)) (λx hx=>by
   obtain⟨g,uQ,rfl⟩:=cr.1 hx;exact hr.at (B2 g (aaB uQ)).1 (B2 g (aaB uQ)).2) 1000000000 (by omega)
  rw[aav] at this;exact this
 simp;refine aO.forRounds L.length (λk=>[.int ((L.take k).foldl (λn g=>ka n (q.fails.getD (fC r g).toNat default)) 1000000000),.int k]) (λ_=>[]) ?_ (λk hk=>?_) ?_
 .simp
 .have hw:=bx hk (by omega);obtain⟨g0,g1⟩:=B2 _ (bU hk);have uR:=hr.at g0 g1;have hn:=yX k;rw[jn hk,uo];simp only[xM,List.foldl_nil];generalize (L.take k).foldl (λn g=>ka n (q.fails.getD (fC r g).toNat default)) 1000000000=n at*;simp[aiE,N1,hk,hw];generalize L[k]=g at*;have af:g.toNat<r.groups.length:=by omega
  have hga:fC r g=r.groups[g.toNat].grade:=by unfold fC;simp[af]
  have aFV:q.fails.length=10:=hq.1;have ady:(fC r g).toNat<q.fails.length:=by omega
  have hp:=hq.at (g:=(fC r g).toNat) (by omega);have oM:q.fails.getD (fC r g).toNat default=q.fails[(fC r g).toNat]:=by simp[ady]
  rw[oM] at hp;have gV:(((Option.map sX r.groups[g.toNat]?).getD D.none).c 0).i=fC r g:=by rw[hga];simp[af]
  rw[gV];simp only[aU ady,kj,kM];generalize q.fails[(fC r g).toNat]=p at*;obtain⟨p1,p2,p3,p4⟩:=hp;have m1:n*p.num<=1000000000*1073741824:=aan (by omega) (by omega) (by omega) (by omega);have m0:0<=n*p.num:=An hn.1 p3;have hs:=IB ⟨p1,p2,p3,p4⟩ hn.1;have dU:=W7 ⟨p1,p2,p3,p4⟩ hn.1;refine⟨⟨g0,g1⟩,⟨uR.1,by omega⟩,?_,?_⟩
  .simp;omega
  .simp;rw[aQ (n:=n*p.num) (by omega),aQ (n:=n*p.num+p.den) (by omega),aQ (n:=n*p.num+p.den-1) (by omega),DR (by omega)];exact aQ (by unfold ka at hs dU;omega)
 .simp[aiE,N1]
def Q8 (d:D):Effect:=⟨(d.c 0).i,(d.c 1).i,(d.c 2).i,(d.c 3).i,(d.c 4).i,(d.c 5).i,(d.c 6).b⟩
def pK (l:List Effect):List Effect:=(gM gN (l.map jP)).map Q8
def alj (l:List Effect):D.list (gM gN (l.map jP))=oy (pK l):=by
 unfold pK oy;rw[nS]
 congr 1
 conv=>lhs;rw[<-xP (gM gN (l.map jP))]
 refine sL λx hx=>?_;obtain⟨g,_,rfl⟩:=cr.1 ((sE _ _).mem_iff.1 hx);rfl
def alk (l:List Effect):(pK l).Perm l:=by
 have:=(sE gN (l.map jP)).map Q8;rw[nS] at this;have e:l.map (Q8∘jP)=l:=xP _
 rwa [e] at this
def abg (l:List Effect):(pK l).Pairwise λa b=>a.sum<=b.sum:=by
 unfold pK;rw[I4];refine(ajo gN (l.map jP)).imp_of_mem λ{a b} ha hb mc=>?_;exact mc
def aaN (l:List Effect):Prop:=∀e,e∈l->0<=e.sum/\e.sum<=1099511627776
def axk (l:List Effect)(hs:aaN l)(hl:l.length<=4294967296):ah T 34 [.none,.clo 35 [],oy l] (.tup [.tup [],oy (pK l)]):=by
 have aK:(l.map jP).all CM=true:=by
  rw[cN];intro x hx;obtain⟨e,he,rfl⟩:=cr.1 hx;have:=hs e he;simp only[CM,ao,decide_eq_true_eq];exact this
 refine .of_ext (g:=λ_ ds=>OB ds) rfl ⟨0,λ_ _=>?_⟩;show(if 35=35/\(l.map jP).length<=4294967296/\(l.map jP).all CM=true then some (D.tup [.tup [],.list (gM gN (l.map jP))]) else none)=_;rw[if_pos ⟨rfl,by simpa using hl,aK⟩,alj]
def IU (r:Realm):Prop:=∀f,f∈r.firms->0<=f.group/\f.group<r.groups.length
def apk {r:Realm}(R3:IU r){l:List Effect}(hf:IV r l)(s:Int):DQ r (iZ r l s):=by
 intro g hg;obtain⟨e,he,_,rfl⟩:=vR.1 hg;obtain⟨h0,h1⟩:=hf e he;have af:e.firm.toNat<r.firms.length:=by omega
 unfold uI;rw[aE,aU af];exact R3 _ (bU af)
def aph (r:Realm)(l:List Effect)(s:Int):(iZ r l s).length<=l.length:=by
 unfold iZ;refine gm (abJ _ _) ?_;rw[Mi,ef];exact pA _ _
structure PayOK (r:Realm) (l:List Effect):Prop where
 firms:IV r l
 sums:aaN l
 fg:IU r
 gr:xH r
 len:l.length<=1000
def aAI {r:Realm}{l:List Effect}{ps:List Ratio}(hq:l0 ps):ln r l ps<=1099511627776:=by
 unfold ln;have:=Xa (f:=eQ r l ps) (c:=1000000000) 1099511627776 λs _ _=>(zA hq l s).2;generalize gO (eQ r l ps) 1099511627776=S at*;omega
def wF (r:Realm)(forum:Int):Prop:=0<=forum/\forum<r.orders.length
instance (r:Realm) (forum:Int):Decidable (wF r forum):=by unfold wF;exact inferInstance
def fP (r:Realm)(forum:Int)(f:File)(day:Int)(q:Quote):Int×Int:=
 if kG q≠0\/¬wF r forum then(0,1) else(ln r (dG r forum f day) q.fails,0)
def Jd (r:Realm)(hr:Right r)(hd:RightD r)(forum:Int)(f:File)(day:Int)(hf:FewS f)(q:Quote)(uV:q.fails.length<=4294967296)(hp:PayOK r (dG r forum f day)):
 ah T 9 [aP r,.int forum,cf f,.int day,lz q] (.tup [.int (fP r forum f day q).1,.int (fP r forum f day q).2]):=by
 refine zyw 12 ayU ?_;simp[Yc];refine⟨_,Pf q uV,?_⟩;by_cases hq:kG q=0
 case neg=>
  simp[hq,fP]
  try exact⟨_,Tu r forum⟩
 simp[hq];refine⟨_,Tu r forum,?_⟩;by_cases ho:0<=forum/\forum<r.orders.length
 case neg=>
  have:¬wF r forum:=ho;simp[hq,ho,fP,this]
 have jb:wF r forum:=ho;obtain⟨_,_,hQ⟩:=Hb hq;simp[ho];refine⟨_,aeT r hr hd forum f day hf,?_⟩;have hwE:fP r forum f day q=(ln r (dG r forum f day) q.fails,0):=by
  unfold fP;rw[if_neg (by simp[hq,jb])]
 rw[hwE];generalize dG r forum f day=l at*;simp;refine⟨_,axk l hp.sums (by have:=hp.len;omega),?_⟩;have yU:=alk l;have kz:=ajO (r:=r) (l:=l) (l':=pK l) hQ (λe=>yU.mem_iff) (abg l) hp.sums
 have hinv:=λk hk=>Rr (pay:=eQ r l q.fails) (λs=>(zA hQ l s).1) (L:=(pK l).map (·.sum)) (λs x wq h=>ahE r l q.fails s x wq λy hy=>by
  obtain⟨e,he,rfl⟩:=cr.1 hy
  exact h _ (As (yU.mem_iff.2 he))) (I4.2 (abg l)) (λx hx=>by
   obtain⟨e,he,rfl⟩:=cr.1 hx;exact(hp.sums e (yU.mem_iff.1 he)).1) k hk
 have hlen:(pK l).length=l.length:=yU.length_eq;have cV:∀e,e∈pK l↔e∈l:=λe=>yU.mem_iff;have hfo:IV r (pK l):=λe he=>hp.firms e ((cV e).1 he);rw[<-kz];generalize pK l=L at*;have apB:L.length<=1000:=by have:=hp.len;omega
 refine aO.forRounds L.length (λk=>[.int (iy (eQ r l q.fails) ((L.take k).map (·.sum))).1,.int (iy (eQ r l q.fails) ((L.take k).map (·.sum))).2.1,.int (iy (eQ r l q.fails) ((L.take k).map (·.sum))).2.2,.int k]) (λ_=>[]) ?_ (λk hk=>?_) ?_
 .simp[iy]
 .have hw:=bx hk (by omega);obtain⟨i1,i2,i3⟩:=hinv k (by simp;omega);rw[<-List.map_take] at i1 i2 i3;have ad1:=hp.sums _ ((cV _).1 (bU hk));rw[jn hk,nR];have Gf:iy (eQ r l q.fails) ((L.take k).map (·.sum)++[L[k]].map (·.sum))=xl (eQ r l q.fails) (iy (eQ r l q.fails) ((L.take k).map (·.sum))) L[k].sum:=by
   unfold iy;rw[uo];rfl
  rw[Gf];have yT:=zA (r:=r) hQ l L[k].sum.toNat;have pX:(iy (eQ r l q.fails) ((L.take k).map (·.sum))).2.2<=1099511627776:=by
   rcases i3 with e|e
   .rw[e];omega
   .obtain⟨x,hx,e2⟩:=cr.1 e;have:=(hp.sums x ((cV x).1 hx)).2;omega
  have Mb:=Xa (f:=eQ r l q.fails) (c:=1000000000) (iy (eQ r l q.fails) ((L.take k).map (·.sum))).2.2.toNat λs _ _=>(zA hQ l s).2;rw[<-i1.sum] at Mb;have r0:=i1.r0;have r1:=i1.r1;have b0:=i1.b0;generalize iy (eQ r l q.fails) ((L.take k).map (·.sum))=w at*;obtain⟨whole,rest,below⟩:=w;simp only at*;have uR:=acw r L L[k].sum hfo apB;have FF:=aph r L L[k].sum;have kP:=abu r (iZ r L L[k].sum) q (apk hp.fg hfo _) hp.gr hQ (by omega);rw[api cV] at uR kP;simp[aiD,N0,hk,hw];generalize L[k]=e at*;have hsn:((e.sum.toNat:Nat):Int)=e.sum:=by omega
  have oM:eQ r l q.fails e.sum.toNat=1000000000-q8 r (iZ r l e.sum) q.fails:=by unfold eQ;rw[hsn]
  rw[oM] at yT;unfold xl;by_cases hle:e.sum<=below
  .simp[hle]
  .rw[if_neg hle,oM];simp[hle];refine⟨_,uR,?_⟩;refine⟨_,kP,?_⟩;generalize q8 r (iZ r l e.sum) q.fails=ch at*;have wch:(D.int ch).i=ch:=rfl;rw[wch];generalize hpp:1000000000-ch=p at*;have wp:i64.wrap p=p:=aQ (by omega);have ww:i64.wrap (e.sum-below)=e.sum-below:=aQ (by omega);generalize hW:e.sum-below=W at*;have hW0:0<W/\W<=1099511627776:=by omega
   rw[wp,ww,DR (by omega),Pk (by omega)];have q1:0<=W/1000000000/\W/1000000000<=1100:=by omega
   have m1:0<=W%1000000000/\W%1000000000<1000000000:=by omega
   generalize W/1000000000=A at*;generalize W%1000000000=B at*;have a1:0<=A*p:=An q1.1 yT.1;have a2:A*p<=1100*1000000000:=aan q1.2 yT.2 yT.1 (by omega);have b1:0<=B*p:=An m1.1 yT.1;have b2:B*p<=1000000000*1000000000:=aan (by omega) yT.2 yT.1 (by omega);have hwb:whole<=1099511627776:=by omega
   have ni:0<=whole:=by
        have h1:=OG (f:=λ_=>0) (g:=eQ r l q.fails) below.toNat λs _ _=>(zA hQ l s).1;have h2:=W9 (f:=λ_=>(0:Int)) (m:=0) (λ_ _=>rfl) (jK below.toNat);have h3:gO (λ_=>(0:Int)) 0=0:=rfl;rw[h2,h3] at h1;have h4:=i1.sum;have h1:0<=gO (eQ r l q.fails) below.toNat:=h1;simp only at h4;omega
   rw[aQ (n:=A) (by omega)];generalize A*p=X at*;generalize B*p=Y at*;rw[aQ (n:=X) (by omega),aQ (n:=Y) (by omega),aQ (n:=Y+rest) (by omega),DR (by omega),Pk (by omega),aQ (n:=whole+X) (by omega),aQ (n:=(Y+rest)/1000000000) (by omega),aQ (by omega)];exact⟨rfl,rfl⟩
 .simp[aiD,N0]
def j3 (r:Realm)(forum:Int)(f:File)(day:Int)(q:Quote):Int×Int:=
 if(fP r forum f day q).2≠0 then(0,(fP r forum f day q).2) else zB (fP r forum f day q).1 q.perMille (dW r forum f day) day
def ajN (r:Realm)(forum:Int)(f:File)(day:Int)(q:Quote):fP r forum f day q=(0,1)\/(kG q=0/\wF r forum/\fP r forum f day q=(ln r (dG r forum f day) q.fails,0)):=by
 unfold fP;by_cases h:kG q≠0\/¬wF r forum
 .exact .inl (if_pos h)
 .refine .inr ⟨Aj λe=>h (.inl e),Aj λe=>h (.inr e),if_neg h⟩
def Py (r:Realm)(hr:Right r)(hd:RightD r)(forum:Int)(f:File)(day:Int)(hf:FewS f)(q:Quote)(uV:q.fails.length<=4294967296)(hp:PayOK r (dG r forum f day))(uO:ba day)(hm:dW r forum f day=-1\/(0<=dW r forum f day/\dW r forum f day<=100000/\0<=day)):
 ah T 8 [aP r,.int forum,cf f,.int day,lz q] (.tup [.int (j3 r forum f day q).1,.int (j3 r forum f day q).2]):=by
 refine zyw 109 ayS ?_;simp[Yb];refine⟨_,Jd r hr hd forum f day hf q uV hp,?_⟩;rcases ajN r forum f day q with e|⟨hq,ho,e⟩
 .unfold j3;rw[e];simp
 obtain⟨p0,p1,hQ⟩:=Hb hq;unfold j3;rw[e];have ni:=ajP (r:=r) (l:=dG r forum f day) hQ;have je:=aAI (r:=r) (l:=dG r forum f day) hQ;generalize ln r (dG r forum f day) q.fails=w at*;simp;refine⟨_,aaD r hr hd forum f day hf,?_⟩;generalize dW r forum f day=due at*;unfold zB;by_cases h1:due=-1
 .simp[h1]
 obtain⟨m0,m1,m2⟩:=hm.resolve_left h1;have ws:i64.wrap (due-day)=due-day:=aQ (by unfold ba at uO;omega);rw[if_neg h1];by_cases h2:day<due/\20000<due-day
 .rw[if_pos h2];simp[h1,h2,ws]
 rw[if_neg h2];have gU:¬(day<due/\20000<due-day):=h2;simp[h1,gU,ws];have hmx:(if due-day<0 then D.int 0 else D.int (due-day))=D.int (max (due-day) 0):=by
  split
  .rw[show max (due-day) 0=0 by omega]
  .rw[show max (due-day) 0=due-day by omega]
 have hD:=aka w q.perMille (max (due-day) 0);have hn:=amH (w:=w) (pm:=q.perMille) (d:=max (due-day) 0) ⟨ni,je⟩ ⟨p0,p1⟩ (by omega);have hnr:=afx (w:=w) (x:=q.perMille*max (due-day) 0) ni (An p0 (by omega));rw[<-hn] at hnr ⊢;generalize pQ w q.perMille (max (due-day) 0)=dd at*;rw[hmx];refine⟨_,hD,?_⟩;obtain⟨d1,d2⟩:=dd;by_cases dD:d2=0
 .simp[dD] at hnr ⊢;exact aQ (by omega)
 .simp[dD]
def ajq (a b:Int):Prop:=a=2\/a=b
@[simp] def aHa:D.none.b=false:=zyz
def fb (n a b:Int):ah T 59 [.int n,.int a,.int b] (.bool (wi n a b)):=by
 refine zyw 144 ayL ?_;simp[X6];by_cases h:a<=n<;>simp[wi,h]
def pw (n m:Int):ah T 95 [.int n,.int m] (.bool (aC n m)):=by
 refine zyw 141 aAg ?_;simp[ZG];by_cases h:0<=n<;>simp[aC,h]
def OM (b:Bill):Bool:=
 if b.tenor.kind=0\/b.tenor.kind=4 then decide (b.tenor.n=0)&&decide (b.tenor.unit=0)
 else if b.tenor.kind=1\/b.tenor.kind=2 then(decide (1<=b.tenor.n)&&decide (b.tenor.n<=400))&&(decide (b.tenor.unit=0)||decide (b.tenor.unit=1))
 else if b.tenor.kind=3 then(decide (b.day<=b.tenor.n)&&decide (b.tenor.n<=100000))&&decide (b.tenor.unit=0)
 else false
def aAF (b:Bill):ah T 96 [dJ b] (.bool (OM b)):=by
 refine zyw 142 aAh ?_;unfold OM;simp[ZH];by_cases h0:b.tenor.kind=0
 .by_cases h1:b.tenor.n=0<;>simp[h0,h1]
 by_cases h4:b.tenor.kind=4
 .by_cases h1:b.tenor.n=0<;>simp[h4,h1]
 simp[h0,h4];by_cases k1:b.tenor.kind=1
 .by_cases h1:1<=b.tenor.n<;>by_cases h2:b.tenor.n<=400<;>by_cases h3:b.tenor.unit=0<;>simp[k1,h1,h2,h3]
 by_cases k2:b.tenor.kind=2
 .by_cases h1:1<=b.tenor.n<;>by_cases h2:b.tenor.n<=400<;>by_cases h3:b.tenor.unit=0<;>simp[k2,h1,h2,h3]
 simp[k1,k2];by_cases k3:b.tenor.kind=3
 .by_cases h1:b.day<=b.tenor.n<;>by_cases h2:b.tenor.n<=100000<;>simp[k3,h1,h2]
 simp[k3]
def va (n m:Int):Bool:=decide (n=-1)||aC n m
def Ac (r:Realm)(b:Bill):Bool:=((aC b.drawer r.firms.length&&aC b.drawee r.firms.length)&&va b.payee r.firms.length)&&va b.need r.firms.length
def xA (r:Realm)(b:Bill):Bool:=(aC b.currency r.currencies.length&&aC b.city r.cities.length)&&aC b.pay r.cities.length
def zO (b:Bill):Prop:=((((1<=b.sum/\b.sum<=1099511627776)/\0<=b.day)/\b.day<=100000)/\0<=b.rate)/\b.rate<=1000
def Rs (b:Bill):Prop:=((0<=b.flags/\b.flags<=7)/\(bV .and .i64 b.flags 4=0\/¬b.payee=-1))/\OM b=true
structure BillOK (r:Realm) (b:Bill):Prop where
 realm:iw r=0
 who:Ac r b=true
 where_:xA r b=true
 range:zO b
 parts:1<=b.parts/\b.parts<=4
 form:Rs b
 usance:b.tenor.kind=4->∃u,u∈r.usances/\u.fr=b.city/\u.to=b.pay
def qO (P:Prop)(d:D):Prop:=∃e:Int,d=.int e/\(e=0↔P)
def qO.no {P:Prop}{e:Int}(h:¬P)(he:e≠0):qO P (.int e):=⟨e,rfl,λx=>absurd x he,λx=>absurd x h⟩
def qO.ok {P:Prop}(h:P):qO P (.int 0):=⟨0,rfl,λ_=>h,λ_=>rfl⟩
def aAE (r:Realm)(hs:Small r)(b:Bill):∃d,ah T 57 [aP r,dJ b] d/\qO (BillOK r b) d:=by
 refine ah.ex_of_tree rfl akX aAf ?_;simp[ZF];refine⟨_,Oi r hs,?_⟩;by_cases h0:iw r=0
 case neg=>
  simp[h0];exact .no (λh=>h0 h.realm) h0
 simp[h0];refine⟨_,pw _ _,?_⟩;cases h1:aC b.drawer r.firms.length
 .simp;exact .no (λh=>by simpa [Ac,h1] using h.who) (by decide)
 simp;refine⟨_,pw _ _,?_⟩;cases h2:aC b.drawee r.firms.length
 .simp;exact .no (λh=>by simpa [Ac,h2] using h.who) (by decide)
 by_cases h3:va b.payee r.firms.length=true
 case neg=>
  have fD:¬b.payee=-1/\aC b.payee r.firms.length=false:=by simpa [va] using h3
  simp[fD.1];refine⟨_,pw _ _,?_⟩;simp[fD.2];exact .no (λh=>h3 (by have:=h.who;simp[Ac] at this;exact this.1.2)) (by decide)
 by_cases h4:va b.need r.firms.length=true
 case neg=>
  have oE:¬b.need=-1/\aC b.need r.firms.length=false:=by simpa [va] using h4
  have fH:qO (BillOK r b) (.int 1):=.no (λh=>h4 (by have:=h.who;simp[Ac] at this;exact this.2)) (by decide);by_cases hp:b.payee=-1
  .simp[hp,oE.1];refine⟨_,pw _ _,?_⟩;simp[oE.2];exact fH
  .have fD:aC b.payee r.firms.length=true:=by simpa [va,hp] using h3
   simp[hp];refine⟨_,pw _ _,?_⟩;simp[fD,oE.1];refine⟨_,pw _ _,?_⟩;simp[oE.2];exact fH
 have Mc:Ac r b=true:=by simp[Ac,h1,h2,h3,h4]
 have hp:b.payee=-1\/(¬b.payee=-1/\aC b.payee r.firms.length=true):=by
  by_cases e:b.payee=-1
  .exact .inl e
  .exact .inr ⟨e,by simpa [va,e] using h3⟩
 have hn:b.need=-1\/(¬b.need=-1/\aC b.need r.firms.length=true):=by
  by_cases e:b.need=-1
  .exact .inl e
  .exact .inr ⟨e,by simpa [va,e] using h4⟩
 have bad:¬xA r b=true->qO (BillOK r b) (.int 1):=λh=>.no (λk=>h k.where_) (by decide);have fin:∀u:Int,(u=0↔∃u,u∈r.usances/\u.fr=b.city/\u.to=b.pay)->zO b->(1<=b.parts/\b.parts<=4)->Rs b->xA r b=true->qO (BillOK r b) (if b.tenor.kind=4 then .int u else .int 0):=by
  intro u hu h6 h7 h8 h9;by_cases e:b.tenor.kind=4
  .rw[if_pos e];exact⟨u,rfl,λh=>⟨h0,Mc,h9,h6,h7,h8,λ_=>hu.1 h⟩,λh=>hu.2 (h.usance e)⟩
  .rw[if_neg e];exact .ok ⟨h0,Mc,h9,h6,h7,h8,λh=>absurd h e⟩
 obtain⟨un,ue,hu1,_,S9⟩:=aaP r b.city b.pay (by have:=hs.us;omega);rcases hp with hp|⟨hp,eO⟩<;>rcases hn with hn|⟨hn,rL⟩
 case' inl.inl=>simp[hp,hn]
 case' inl.inr=>simp[hp,hn];refine⟨_,pw _ _,?_⟩;simp[rL]
 case' inr.inl=>simp[hp,hn];refine⟨_,pw _ _,?_⟩;simp[eO]
 case' inr.inr=>simp[hp,hn];refine⟨_,pw _ _,?_⟩;simp[eO];refine⟨_,pw _ _,?_⟩;simp[rL]
 all_goals
  refine⟨_,pw _ _,?_⟩;cases h5:aC b.currency r.currencies.length
  .simp;exact bad (by simp[xA,h5])
  simp;refine⟨_,pw _ _,?_⟩;cases h6:aC b.city r.cities.length
  .simp;exact bad (by simp[xA,h6])
  simp;refine⟨_,pw _ _,?_⟩;cases h7:aC b.pay r.cities.length
  .simp;exact bad (by simp[xA,h7])
  have Gm:xA r b=true:=by simp[xA,h5,h6,h7]
  simp;by_cases h8:zO b
  case neg=>
   have RB:((((b.sum<1\/1099511627776<b.sum)\/b.day<0)\/100000<b.day)\/b.rate<0)\/1000<b.rate:=by unfold zO at h8;omega
   rw[if_pos RB];exact .no (λk=>h8 k.range) (by decide)
  have RB:¬(((((b.sum<1\/1099511627776<b.sum)\/b.day<0)\/100000<b.day)\/b.rate<0)\/1000<b.rate):=by unfold zO at h8;omega
  rw[if_neg RB];by_cases h9:1<=b.parts/\b.parts<=4
  case neg=>
   rw[if_pos (by omega)];exact .no (λk=>h9 k.parts) (by decide)
  rw[if_neg (by omega)];have PN:¬Rs b->qO (BillOK r b) (.int 2):=λh=>.no (λk=>h k.form) (by decide);by_cases g1:0<=b.flags/\b.flags<=7
  case neg=>
   have fB:b.flags<0\/7<b.flags:=by omega
   simp[g1,fB];exact PN (λh=>g1 h.1.1)
  have fB:¬(b.flags<0\/7<b.flags):=by omega
  by_cases g2:bV .and .i64 b.flags 4=0\/¬b.payee=-1
  case neg=>
   have pV:¬bV .and .i64 b.flags 4=0/\b.payee=-1:=by simpa using g2
   first
        |exact absurd pV.2 hp
        |(simp[g1,fB,pV]
          exact PN (λh=>g2 h.1.2))
  have g3:(b.payee=-1->bV .and .i64 b.flags 4=0):=λe=>g2.resolve_right (λh=>h e);simp[g1,fB,hp,g3];refine⟨_,aAF b,?_⟩;cases jt:OM b
  .simp;exact PN (λh=>by have:=h.2;rw[jt] at this;cases this)
  have hf:=fin ue S9 h8 h9 ⟨⟨g1,g2⟩,jt⟩ Gm;simp;by_cases e:b.tenor.kind=4
  .simp[e] at hf ⊢;exact⟨_,hu1,hf⟩
  .simp[e] at hf ⊢;exact hf
end Rm
