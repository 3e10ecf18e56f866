/-
  Shared texts of this claim.
-/
import Derived.Test.YtibbcfbmjlehcaaGreatDoorNAP
import Derived.Test.YtibbcfbmjlehcaaGreatDoorNAK
import Derived.Test.YtibbcfbmjlehcaaGreatDoorNAJ
import Derived.Test.YtibbcfbmjlehcaaGreatDoorNAO
set_option linter.defProp false
set_option linter.unusedSimpArgs false
set_option linter.unusedVariables false
noncomputable section
open Go.IntKind (i64)
namespace Rm
open Go Go.Proofs Cx
def abj (R Y:Int)(hR:0<=R/\R<146097)(h1:365*Y<=R-R/1460+R/36524-R/146096)(h2:R-R/1460+R/36524-R/146096<365*Y+365):0<=R-(365*Y+Y/4-Y/100)/\R-(365*Y+Y/4-Y/100)<=500:=by
 have k0:R/36524<=R/1460:=by omega
 have k1:Y/4<=R/1460:=by omega
 have hY:0<=Y:=by omega
 have hc:R/36524=0\/R/36524=1\/R/36524=2\/R/36524=3\/R/36524=4:=by omega
 have k2:25*(R/36524)<=R/1460:=by omega
 refine⟨?_,?_⟩
 .rcases Int.lt_or_le Y (100*(R/36524)) with hy|hy
  .have k3:Y/4<=25*(R/36524)-1:=by omega
   have k4:R/36524-1<=Y/100:=by omega
   omega
  .have k3:R/36524<=Y/100:=by omega
   omega
 .omega
def abk (n:Int)(h:0<=n/\n<=100400):ah T 185 [.int n] (.tup [.int (fA n).1,.int (fA n).2.1,.int (fA n).2.2]):=by
 refine zyw 89 ayc ?_;have w:∀x:Int,-1000000000<=x->x<=1000000000->i64.wrap x=x:=λx a b=>aQ (by omega);have t:∀x y:Int,0<=x->x.tdiv y=x/y:=λx y hx=>DG hx;have u:∀x y:Int,0<=x->x.tmod y=x%y:=λx y hx=>OU hx;simp[Xl];unfold fA;simp only[];rw[w (n+730425) (by omega) (by omega),u (n+730425) 146097 (by omega),t (n+730425) 146097 (by omega)];have hR:0<=(n+730425)%146097/\(n+730425)%146097<146097:=by omega
 have hE:0<=(n+730425)/146097/\(n+730425)/146097<100:=by omega
 generalize (n+730425)%146097=R at*;generalize (n+730425)/146097=e at*;rw[t R 1460 (by omega),t R 36524 (by omega),t R 146096 (by omega),w (R/1460) (by omega) (by omega),w (R-R/1460) (by omega) (by omega),w (R/36524) (by omega) (by omega),w (R-R/1460+R/36524) (by omega) (by omega),w (R/146096) (by omega) (by omega),w (R-R/1460+R/36524-R/146096) (by omega) (by omega),t (R-R/1460+R/36524-R/146096) 365 (by omega)];have hY:0<=(R-R/1460+R/36524-R/146096)/365/\(R-R/1460+R/36524-R/146096)/365<400:=by omega
 have hD:0<=R-(365*((R-R/1460+R/36524-R/146096)/365)+(R-R/1460+R/36524-R/146096)/365/4-(R-R/1460+R/36524-R/146096)/365/100)/\R-(365*((R-R/1460+R/36524-R/146096)/365)+(R-R/1460+R/36524-R/146096)/365/4-(R-R/1460+R/36524-R/146096)/365/100)<=500:=by
  exact abj R _ hR (by omega) (by omega)
 generalize (R-R/1460+R/36524-R/146096)/365=Y at*;rw[w Y (by omega) (by omega),w (365*Y) (by omega) (by omega),t Y 4 (by omega),t Y 100 (by omega),w (Y/4) (by omega) (by omega),w (Y/100) (by omega) (by omega),w (365*Y+Y/4) (by omega) (by omega),w (365*Y+Y/4-Y/100) (by omega) (by omega),w (R-(365*Y+Y/4-Y/100)) (by omega) (by omega)];generalize R-(365*Y+Y/4-Y/100)=D at*;rw[w (5*D) (by omega) (by omega),w (5*D+2) (by omega) (by omega),t (5*D+2) 153 (by omega)];have hM:0<=(5*D+2)/153/\(5*D+2)/153<=20:=by omega
 generalize (5*D+2)/153=M at*;rw[w M (by omega) (by omega),w (M+3) (by omega) (by omega),w (M+3-12) (by omega) (by omega),w e (by omega) (by omega),w (400*e) (by omega) (by omega),w (Y+400*e) (by omega) (by omega),w (Y+400*e+1) (by omega) (by omega)];rw[w (153*M) (by omega) (by omega),w (153*M+2) (by omega) (by omega),t (153*M+2) 5 (by omega),w ((153*M+2)/5) (by omega) (by omega),w (D-(153*M+2)/5) (by omega) (by omega),w (D-(153*M+2)/5+1) (by omega) (by omega)];refine⟨?_,?_,rfl⟩
 .generalize (if 12<M+3 then M+3-12 else M+3)=m;split<;>rfl
 .split<;>rfl
def ajW (d n:Int):∃x e:Int,ah T 164 [.int d,.int n] (.tup [.int x,.int e])/\(e=0->0<=x/\x<=100000):=by
 by_cases h0:eD d=true/\-5000<=n/\n<=5000
 .have hd:0<=d/\d<=100400:=by have:=h0.1;simp[eD] at this;omega
  obtain⟨A,hA⟩:∃A,A=i64.wrap (i64.wrap (i64.wrap (i64.wrap (12*(fA d).1)+(fA d).2.1)-1)+n):=⟨_,rfl⟩
  obtain⟨Y,hY⟩:∃Y,Y=i64.wrap (A.tdiv 12):=⟨_,rfl⟩
  obtain⟨M,hM⟩:∃M,M=i64.wrap (A.tmod 12+1):=⟨_,rfl⟩
  obtain⟨x,e,hD,hb⟩:=aj3 Y M (if Cp Y M<(fA d).2.2 then Cp Y M else(fA d).2.2);refine⟨x,e,.of_tree rfl aaQ ajv ?_,hb⟩;have n1:¬n< -5000:=by omega
  have n2:¬5000<n:=by omega
  simp[Ov,n1,n2];refine⟨_,Iy d,?_⟩;simp[h0.1];refine⟨_,abk d hd,?_⟩;simp[<-hA,<-hY,<-hM];refine⟨_,L8 Y M,?_⟩;by_cases hl:Cp Y M<(fA d).2.2
  .simp only[if_pos hl] at hD;simp[hl];refine⟨_,hD,?_⟩;simp
  .simp only[if_neg hl] at hD;simp[hl];refine⟨_,hD,?_⟩;simp
 .refine⟨0,3,.of_tree rfl aaQ ajv ?_,by simp⟩;simp[Ov];refine⟨_,Iy d,?_⟩;simp;intro a b c;exact absurd ⟨a,b,c⟩ h0
def Rt (l:List Int)(x:Int):hasB l x=l.contains x:=by
 rw[tU];simp[hasB]
def Il (c:City):Prop:=c.rest.length<=100000/\c.feasts.length<=100000/\c.shut.length<=100000
def alO (n:Int)(h:0<=n/\n<=100400):(0<=(fA n).2.1/\(fA n).2.1<=30)/\-1000<=(fA n).2.2/\(fA n).2.2<=1000:=by
 unfold fA;simp only[];have hR:0<=(n+730425)%146097/\(n+730425)%146097<146097:=by omega
 generalize (n+730425)%146097=R at*;have hD:=abj R ((R-R/1460+R/36524-R/146096)/365) hR (by omega) (by omega);generalize (R-R/1460+R/36524-R/146096)/365=Y at*;generalize R-(365*Y+Y/4-Y/100)=D at*;have hM:0<=(5*D+2)/153/\(5*D+2)/153<=20:=by omega
 generalize (5*D+2)/153=M at*;refine⟨?_,by omega,by omega⟩;split<;>omega
def auW (c:City)(hc:Il c)(n:Int)(h:0<=n/\n<=100400):ah T 189 [gR c,.int n] (.bool (zh c.rest c.feasts c.shut n)):=by
 refine zyw 98 ayg ?_;simp[Xo];refine⟨_,abk n h,?_⟩;have w5:i64.wrap (n+5)=n+5:=aQ (by omega);have m7:(n+5).tmod 7=(n+5)%7:=OU (by omega);obtain⟨h1,h2,h3⟩:=hc;simp[w5,m7];refine⟨_,xq c.rest ((n+5)%7) (by omega),?_⟩;unfold zh;rw[<-Rt];cases hr:hasB c.rest ((n+5)%7)
 .obtain⟨gp,de⟩:=alO n h;have wm:i64.wrap (100*(fA n).2.1)=100*(fA n).2.1:=aQ (by omega);have wd:i64.wrap (100*(fA n).2.1+(fA n).2.2)=100*(fA n).2.1+(fA n).2.2:=aQ (by omega);simp[hr,wm,wd];refine⟨_,xq c.feasts _ (by omega),?_⟩;have e1:=Rt c.feasts (100*(fA n).2.1+(fA n).2.2);have e2:=Rt c.shut n;simp at e1 e2;cases hf:hasB c.feasts (100*(fA n).2.1+(fA n).2.2)
  .simp[hf,<-e1,<-e2];exact⟨_,xq c.shut n (by omega),rfl⟩
  .simp[hf,<-e1]
 .simp[hr]
def fh (c:City)(a:Int)(k:Nat):List Int:=((List.range k).map λ(i:Nat)=>a+i).filter (zh c.rest c.feasts c.shut)
def abt (c:City)(a:Int)(k:Nat):fh c a (k+1)=fh c a k++if zh c.rest c.feasts c.shut (a+k) then[a+k] else[]:=by
 unfold fh;rw[O4,nH,OX]
 congr 1
 cases h:zh c.rest c.feasts c.shut (a+k)<;>simp[h]
def amf (c:City)(a:Int){k n:Nat}(h:k<=n):∃r,fh c a n=fh c a k++r:=by
 induction n with
 |zero=>obtain rfl:k=0:=by omega
        exact⟨[],by simp⟩
 |succ n ih=>
  by_cases e:k=n+1
  .subst e;exact⟨[],by simp⟩
  .obtain⟨r,hr⟩:=ih (by omega);exact⟨r++_,by rw[abt,hr,sy]⟩
def sL (d:Int):D:=.tup [.int d]
def amg (c:City)(a b:Int):abv [.ref (.int a),.ref (.int b),.ref (gR c)]=(fh c a (b-a+1).toNat).map sL:=by
 have hi:∀l:List Int,yX (ints l)=l:=λl=>by
  show(l.map D.int).map D.i=l;rw[lW];exact xA l
 show(abu (yX (ints c.rest)) (yX (ints c.feasts)) (yX (ints c.shut)) a b).map _=_;rw[hi,hi,hi];rfl
def amd (c:City)(hc:Il c)(a b:Int)(ha:0<=a)(hb:b<=100400)(rl:a<=100400):ah T 188 [.ref (.int a),.ref (.int b),.ref (gR c)] (.list ((fh c a (b-a+1).toNat).map sL)):=by
 have vV:=amg c a b;rw[<-vV];obtain⟨N,hN⟩:∃N,N=(b-a+1).toNat:=⟨_,rfl⟩
 refine ah.of_it (pc:=(ab uk)) (J:=1000) (k:=1) rfl (λx hx=>?_) (λm hm=>?_)
 .rw[vV] at hx;obtain⟨i,_,rfl⟩:=bZ.1 hx;exact⟨_,rfl,rfl⟩
 .rw[vV] at hm ⊢;rw[<-hN] at hm ⊢;refine OE ?_;rw[ayd];simp[Xn];refine aL.forLoop (α:=Nat) (λk vr vo=>k<=N/\vr=[.int (a+k)]/\vo=[.list ((fh c a k).map sL)]/\(fh c a k).length<=m) (λk=>N-k) 0 ?_ ?_
  .simp[anu,fh]
  .rintro k vr vo ⟨hk,rfl,rfl,oq⟩;by_cases af:k<N
   .have hle:a+(k:Int)<=b:=by omega
    have jc:i64.wrap (a+(k:Int)+1)=a+((k+1:Nat):Int):=by rw[aQ (by omega)];omega
    have eF:=(auW c hc (a+k) (by omega))
    have Ce:=abt c a k;obtain⟨r,hr⟩:=amf c a (k:=k+1) (n:=N) af;simp[aip,Nv,hle];refine⟨_,eF.yld (by decide),?_⟩;cases hi:zh c.rest c.feasts c.shut (a+k)
    .simp[hi] at Ce ⊢;exact⟨k+1,by omega,by omega,jc,by rw[Ce],by rw[Ce];exact oq⟩
    .simp[hi] at Ce ⊢;have hlen:(fh c a (k+1)).length=(fh c a k).length+1:=by rw[Ce];simp
     have uP:(fh c a k).map sL++[D.tup [D.int (a+k)]]=(fh c a (k+1)).map sL:=by rw[Ce,nH];rfl
     have F6:(fh c a (k+1)).map sL=((fh c a N).map sL).take ((fh c a k).length+1):=by
      rw[hr,nH,List.take_append_of_le_length (by simp[hlen]),xE (by simp[hlen])]
     have aX:(fh c a k).length<((fh c a N).map sL).length:=by rw[hr];simp[hlen];omega
     rw[uP];refine⟨_,ah.answer F6 aX oq,?_⟩;by_cases yF:(fh c a k).length<m
     .simp[yF];exact⟨k+1,by omega,by omega,jc,rfl,by omega⟩
     .obtain rfl:(fh c a k).length=m:=by omega
      simp;rw[F6]
   .obtain rfl:k=N:=by omega
    have hle:¬a+(k:Int)<=b:=by omega
    simp[aip,Nv,hle];rw[xE (by simp;omega)]
def amh (c:City)(a b:Int):ah T 166 [gR c,.int a,.int b] (.clo 188 [.ref (.int a),.ref (.int b),.ref (gR c)]):=by
 refine zyw 97 aye ?_;simp[Xm]
def od (d:Int):Int:=if 100000<d+400 then 100000 else d+400
def jz (c:City)(d:Int):Int×Int:=
 if eD d=false then(0,3) else match fh c d (od d-d+1).toNat with|[]=>(0,3)|x::_=>(x,0)
def ame {c:City}{a:Int}{k:Nat}{x:Int}(h:x∈fh c a k):a<=x/\x<a+k:=by
 unfold fh at h;obtain⟨h1,_⟩:=eT.mp h;obtain⟨i,hi,rfl⟩:=bZ.mp h1;have:=fS.mp hi;omega
def afs {c:City}{d:Int}(h:(jz c d).2=0):eD d=true/\d<=(jz c d).1/\(jz c d).1<=100000:=by
 unfold jz at h ⊢;cases hd:eD d
 .simp[hd] at h
 .simp only[hd] at h ⊢;cases hk:fh c d (od d-d+1).toNat with
  |nil=>rw[hk] at h;simp at h
  |cons x l=>
   have hm:x∈fh c d (od d-d+1).toNat:=by rw[hk];simp
   have:=ame hm;have he:od d<=100000:=by unfold od;split<;>omega
   simp[eD] at hd;simp;unfold od at*;omega
def akl (c:City)(hc:Il c)(d:Int):ah T 125 [gR c,.int d] (.tup [.int (jz c d).1,.int (jz c d).2]):=by
 refine zyw 96 ayb ?_;simp[Xk];refine⟨_,Iy d,?_⟩;cases hd:eD d
 .simp[jz,hd]
 have gq:0<=d/\d<=100000:=by simpa [eD] using hd
 have hw:i64.wrap (d+400)=d+400:=aQ (by omega);have he:od d<=100000:=by unfold od;split<;>omega
 simp[hd,hw];have hE:(if 100000<d+400 then D.int 100000 else D.int (d+400))=D.int (od d):=by unfold od;split<;>rfl
 rw[hE];refine⟨_,amh c d (od d),_,_,rfl,_,amd c hc d (od d) gq.1 (by omega) (by omega),?_⟩;cases hk:fh c d (od d-d+1).toNat with
 |nil=>
  have hn:jz c d=(0,3):=by unfold jz;simp[hd,hk]
  rw[hn];refine aL.eachR [] (by simp) (λ_ vo=>vo=[.agg [.int 0],.agg [.int 0]]) ?_ (λk x vo hx hi=>by simp at hx) (λvo hi=>?_)
  .simp
  .subst hi;simp
 |cons x l=>
  have hn:jz c d=(x,0):=by unfold jz;simp[hd,hk]
  rw[hn];refine aL.eachR ((x::l).map sL) (by simp) (λk vo=>k=0/\vo=[.agg [.int 0],.agg [.int 0]]) ?_ (λk y vo hx hi=>?_) (λvo hi=>?_)
  .simp
  .obtain⟨rfl,rfl⟩:=hi;simp at hx;subst hx;simp[awo,Vx,sL];rfl
  .exact absurd hi.1 (by simp)
def N7 (o:Int)(d:Int)(h:Halt):Int:=if(h.order=o/\h.fr<=d)/\d<=h.to then h.to+1 else d
def nv (r:Realm)(o d:Int)(k:Nat):Int:=(r.halts.take k).foldl (N7 o) d
def aje (r:Realm)(o d:Int){k:Nat}(hk:k<r.halts.length):nv r o d (k+1)=N7 o (nv r o d k) r.halts[k]:=by
 unfold nv;rw[iQ hk,tY];rfl
def xu (r:Realm):Prop:=r.halts.length<=100000/\∀h,h∈r.halts->0<=h.fr/\h.to<=100000
def WI {r:Realm}(hh:xu r)(o d:Int)(hd:d<=100001):∀k,k<=r.halts.length->d<=nv r o d k/\nv r o d k<=100001
 |0,_=>⟨by simp[nv],by simpa [nv] using hd⟩
 |k+1,hk=>by
  obtain⟨h1,h2⟩:=WI hh o d hd k (by omega);rw[aje r o d (by omega)];have:=hh.2 _ (bV (show k<r.halts.length by omega));unfold N7;split<;>omega
def zL (r:Realm)(o:Int):Nat->Int->Int
 |0,d=>d
 |n+1,d=>if nv r o d r.halts.length=d then d else zL r o n (nv r o d r.halts.length)
def j1 (r:Realm)(o d:Int):Int:=zL r o (100002-d).toNat d
def WJ {r:Realm}(hh:xu r)(o:Int):∀(n:Nat) (d:Int),d<=100001->d<=zL r o n d/\zL r o n d<=100001
 |0,d,hd=>⟨Ab _,hd⟩
 |n+1,d,hd=>by
  obtain⟨h1,h2⟩:=WI hh o d hd r.halts.length (ba _);unfold zL;split
  .omega
  .have:=WJ hh o n _ h2;omega
def axh (r:Realm)(hh:xu r)(o d:Int)(h0:0<=d)(hd:d<=100001):ah T 124 [aP r,.int o,.int d] (.int (j1 r o d)):=by
 refine zyw 95 azX ?_;simp[Za];refine aL.forLoop (α:=Int×Bool×Nat) (λs vr vo=>vr=[.int s.1,.bool s.2.1]/\vo=[]/\d<=s.1/\s.1<=100001/\(s.2.1=true->(100002-s.1).toNat<=s.2.2)/\(s.2.1=true->zL r o s.2.2 s.1=j1 r o d)/\(s.2.1=false->s.1=j1 r o d)) (λs=>2*(100001-s.1).toNat+(if s.2.1 then 1 else 0)) (d,true,(100002-d).toNat) ?_ ?_
 .simp;exact⟨by omega,rfl⟩
 .rintro⟨e,ch,n⟩ vr vo ⟨rfl,rfl,h1,h2,h3,h4,h5⟩;simp only at*;cases ch
  .simp[aiH,NS];exact h5 rfl
  .have h3:=h3 rfl;have h4:=h4 rfl;obtain⟨n,rfl⟩:∃m,n=m+1:=⟨n-1,by omega⟩
   have bO:=WI hh o e h2;simp[aiH,NS];refine aL.forRounds r.halts.length (λk=>[.int (nv r o e k),.bool (decide (e<nv r o e k)),.int k]) (λ_=>[]) ?_ (λk hk=>?_) ?_
   .simp[nv]
   .have hw:=bt hk (by have:=hh.1;omega);have cG:=bO k (by omega);have yP:=hh.2 _ (bV hk);rw[aje r o e hk];unfold N7;generalize nv r o e k=x at*;by_cases hc:(r.halts[k].order=o/\r.halts[k].fr<=x)/\x<=r.halts[k].to
    .have da:i64.wrap (r.halts[k].to+1)=r.halts[k].to+1:=aQ (by omega);simp[NR,C8,hk,hw,hc,da];omega
    .simp[NR,C8,hk,hw,hc]
   .have hE:=bO r.halts.length (ba _);unfold zL at h4;generalize nv r o e r.halts.length=x at*;by_cases hx:x=e
    .rw[if_pos hx] at h4;subst hx;simp[NR,C8];exact⟨x,by omega,rfl,h1,h2,h4⟩
    .rw[if_neg hx] at h4;have af:e<x:=by omega
     simp[NR,C8,af];exact⟨x,by omega,rfl,by omega,by omega,n,by omega,h4⟩
def tM (r:Realm)(c:City)(o:Int):Nat->Int->Int×Int
 |0,d=>(d,0)
 |n+1,d=>
  if(jz c (j1 r o d)).2≠0 then(0,3)
  else if(jz c (j1 r o d)).1=j1 r o d then(j1 r o d,0)
  else tM r c o n (jz c (j1 r o d)).1
def ajb (r:Realm)(c:City)(o:Int)(n:Nat)(d:Int):tM r c o (n+1) d=
 if(jz c (j1 r o d)).2≠0 then(0,3)
 else if(jz c (j1 r o d)).1=j1 r o d then(j1 r o d,0)
 else tM r c o n (jz c (j1 r o d)).1:=rfl
def lT (r:Realm)(city d:Int):Int×Int:=tM r (r.cities.getD city.toNat default) (gC r city) (100002-d).toNat d
def WC (r:Realm)(hh:xu r)(city d:Int)(hc:0<=city/\city<r.cities.length)(hs:∀c,c∈r.cities->Il c)(h0:0<=d)(hd:d<=100001):ah T 77 [aP r,.int city,.int d] (.tup [.int (lT r city d).1,.int (lT r city d).2]):=by
 refine zyw 94 azW ?_;simp[YZ];refine⟨_,sc r city,?_⟩;have aX:city.toNat<r.cities.length:=by omega
 have hcg:r.cities.getD city.toNat default=r.cities[city.toNat]:=by simp[aX]
 have hsc:=hs _ (bV aX);have hF:lT r city d=tM r r.cities[city.toNat] (gC r city) (100002-d).toNat d:=by unfold lT;rw[hcg]
 rw[hF];refine aL.forLoop (α:=Int×Nat) (λs vr vo=>(∃a b,vr=[.int s.1,a,b])/\vo=[]/\0<=s.1/\s.1<=100001/\(100002-s.1).toNat<=s.2/\tM r r.cities[city.toNat] (gC r city) s.2 s.1=tM r r.cities[city.toNat] (gC r city) (100002-d).toNat d) (λs=>s.2) (d,(100002-d).toNat) ?_ ?_
 .simp;omega
 .rintro⟨e,n⟩ vr vo ⟨⟨a,b,rfl⟩,rfl,h1,h2,h3,h4⟩;simp only at*;obtain⟨n,rfl⟩:∃m,n=m+1:=⟨n-1,by omega⟩
  rw[<-h4];have Cd:=WJ hh (gC r city) (100002-e).toNat e h2;have hsr:=axh r hh (gC r city) e h1 h2;rw[ajb];change e<=j1 r (gC r city) e/\j1 r (gC r city) e<=100001 at Cd;generalize j1 r (gC r city) e=x at*;have Sb:=akl r.cities[city.toNat] hsc x;have pQ:=afs (c:=r.cities[city.toNat]) (d:=x);generalize jz r.cities[city.toNat] x=N at*;obtain⟨y,er⟩:=N;simp only at Sb pQ;simp[awt,Wh];refine⟨_,hsr,?_⟩;simp[aX,hc];refine⟨_,Sb,?_⟩;by_cases he:er=0
  .obtain⟨g1,g2,g3⟩:=pQ he;by_cases hy:y=x
   .simp[he,hy]
   .simp[he,hy];exact⟨y,n,by omega,rfl,by omega,by omega,by omega,rfl⟩
  .simp[he]
structure RightD (r:Realm):Prop where
 small:Small r
 halts:xu r
def RightD.cities {r:Realm}(h:RightD r)(c:City)(hc:c∈r.cities):Il c:=by
 obtain⟨h1,h2,h3,_⟩:=h.small.city c hc;exact⟨by omega,by omega,by omega⟩
def DV (d:Int)(t:Tenor):∃n e:Int,ah T 122 [.int d,pE t] (.tup [.int n,.int e]):=by
 by_cases h0:t.n<0
 .refine⟨0,3,.of_tree rfl I7 OC ?_⟩;simp[Ds,h0]
 by_cases h1:20000<t.n
 .refine⟨0,3,.of_tree rfl I7 OC ?_⟩;simp[Ds,h0,h1]
 by_cases h2:t.unit=1
 .obtain⟨n,e,h,_⟩:=ajW d t.n;refine⟨n,e,.of_tree rfl I7 OC ?_⟩;simp[Ds,h0,h1,h2];refine⟨_,h,?_⟩;simp
 .refine⟨i64.wrap (d+t.n),0,.of_tree rfl I7 OC ?_⟩;simp[Ds,h0,h1,h2]
def ak4 (r:Realm)(hr:RightD r)(b:Bill)(seen:Int):∃n e:Int,ah T 76 [aP r,dI b,.int seen] (.tup [.int n,.int e]):=by
 have SF:D.agg [D.int b.tenor.kind,D.int b.tenor.n,D.int b.tenor.unit]=pE b.tenor:=rfl;by_cases h0:b.tenor.kind=0
 .refine⟨seen,0,.of_tree rfl xN zO ?_⟩;simp[oX,h0]
 by_cases h1:b.tenor.kind=1
 .obtain⟨n,e,h⟩:=DV seen b.tenor;refine⟨n,e,.of_tree rfl xN zO ?_⟩;have cA:(b.tenor.kind=1)=True:=eq_true h1;simp[oX,h0,cA];refine⟨_,h,?_⟩;simp
 by_cases h2:b.tenor.kind=2
 .obtain⟨n,e,h⟩:=DV b.day b.tenor;refine⟨n,e,.of_tree rfl xN zO ?_⟩;have gS:(b.tenor.kind=2)=True:=eq_true h2;simp[oX,h0,h1,gS];refine⟨_,h,?_⟩;simp
 by_cases h4:b.tenor.kind=4
 .obtain⟨n,e,h,_⟩:=aks r b.city b.pay (by have:=hr.small.us;omega);refine⟨i64.wrap (b.day+n),e,.of_tree rfl xN zO ?_⟩;have om:(b.tenor.kind=4)=True:=eq_true h4;simp[oX,h0,h1,h2,om];refine⟨_,h,?_⟩;simp
 .refine⟨b.tenor.n,0,.of_tree rfl xN zO ?_⟩;simp[oX,h0,h1,h2,h4]
def ah.ex_of_tree {tab:Nat->Option PC}{ext:Nat->Option (aS->List D->Option D)}{f:Nat}{pc:PC}{t:PT}{ds:List D}{P:D->Prop}(hx:ext f=none)(ht:tab f=some pc)(he:tree pc=t)
 (h:aH (eO tab ext) t (lZ ds) (λx=>∃d,x=.ret d/\P d)):∃d,ah (eO tab ext) f ds d/\P d:=by
 subst he;obtain⟨x,⟨d,rfl,hd⟩,n0,hn⟩:=ajB (MT ⟨λ_ _ _ h=>(by obtain⟨_,h,_⟩:=h;cases h),λ_ _ _ _ _ _ h=>(by obtain⟨_,h,_⟩:=h;cases h),λ_ h=>h⟩ h);exact⟨d,.of_pc hx ht ⟨.ret d,rfl,n0,hn⟩,hd⟩
def IU (d:D):Prop:=∃n e:Int,d=.tup [.int n,.int e]
@[simp] def aC5 (n e:Int):IU (.tup [.int n,.int e])=True:=eq_true ⟨n,e,rfl⟩
def zZ (r:Realm)(hr:RightD r)(b:Bill)(seen bS:Int):∃d,ah T 37 [aP r,dI b,.int seen,.int bS] d/\IU d:=by
 have SF:D.agg [D.int b.tenor.kind,D.int b.tenor.n,D.int b.tenor.unit]=pE b.tenor:=rfl;have ko:=NU r hr.small;refine ah.ex_of_tree rfl Po YV ?_;simp[Is];refine⟨_,ko,?_⟩;by_cases h0:dv r=0
 case neg=>simp[h0]
 simp[h0];refine⟨_,Cl r b.city,?_⟩;cases h1:aC b.city r.cities.length
 .simp[h1]
 simp[h1];refine⟨_,Cl r b.pay,?_⟩;cases h2:aC b.pay r.cities.length
 .simp[h2]
 simp[h2];refine⟨_,wk b.day,?_⟩;cases h3:eD b.day
 .simp[h3]
 simp[h3];intro _ _ _ _;have hp:0<=b.pay/\b.pay<r.cities.length:=by simpa [aC] using h2
 have fin:0<=bS->bS<=20000->∃d,ah T 76 [aP r,dI b,D.int seen] d/\
  if(d.tget 1).i=0 then ∃d1,ah T 74 [d.tget 0] d1/\(d1.b=true->i64.wrap ((d.tget 0).i+bS)<=100000->
        ∃d2,ah T 77 [aP r,D.int b.pay,D.int (i64.wrap ((d.tget 0).i+bS))] d2/\IU (D.tup [d2.tget 0,d2.tget 1]))
  else IU (D.tup [D.int 0,d.tget 1]):=by
  intro yu jQ;obtain⟨n,e,h⟩:=ak4 r hr b seen;refine⟨_,h,?_⟩;by_cases he:e=0
  .simp[he];refine⟨_,wk n,?_⟩;cases hd:eD n
   .simp[hd]
   have gq:0<=n/\n<=100000:=by simpa [eD] using hd
   have hw:i64.wrap (n+bS)=n+bS:=aQ (by omega);simp[hd,hw];intro hle;refine⟨_,WC r hr.halts b.pay (n+bS) hp hr.cities (by omega) (by omega),?_⟩;simp
  .simp[he]
 by_cases hs:seen=-1
 .simp[hs] at fin ⊢;intro yu jQ;refine⟨_,DS b.tenor,?_⟩;simp;intro _;exact fin yu jQ
 .simp[hs] at fin ⊢;refine⟨_,wk seen,?_⟩;cases hk:eD seen
  .simp[hk]
  simp[hk];intro yu jQ;exact⟨⟨_,DS b.tenor⟩,fin yu jQ⟩
def nL (r:Realm)(b:Bill)(seen bS:Int):Int×Int:=
 open Classical in if h:RightD r then((zZ r h b seen bS).choose_spec.2.choose,(zZ r h b seen bS).choose_spec.2.choose_spec.choose) else(0,0)
def OP (r:Realm)(hr:RightD r)(b:Bill)(seen bS:Int):ah T 37 [aP r,dI b,.int seen,.int bS] (.tup [.int (nL r b seen bS).1,.int (nL r b seen bS).2]):=by
 have h:=(zZ r hr b seen bS).choose_spec.2.choose_spec.choose_spec;have h1:=(zZ r hr b seen bS).choose_spec.1;rw[h] at h1;have e:nL r b seen bS=((zZ r hr b seen bS).choose_spec.2.choose,(zZ r hr b seen bS).choose_spec.2.choose_spec.choose):=by unfold nL;rw[dif_pos hr]
 rw[e];exact h1
def eJ (r:Realm)(forum:Int)(f:File)(day:Int):Int:=
 if(cr f day).signs=[] then-1
 else if(nL r f.bill (sl (cr f day)) (max (qe (ls r forum 6 (cr f day) day)) 0)).2≠0 then-1
 else(nL r f.bill (sl (cr f day)) (max (qe (ls r forum 6 (cr f day) day)) 0)).1
@[simp] def aHm (x:File)(a0 a1 a2 a3 a4 a5 a6 a7 a8 a9 qJ qK a12 qL qM uc ud a17 uf:D):(dO [a0,a1,a2,a3,a4,a5,a6,a7,a8,a9,qJ,qK,a12,qL,qM,uc,ud,a17,uf] 0 [.int x.bill.drawer,.int x.bill.drawee,.int x.bill.payee,.int x.bill.sum,.int x.bill.currency,.int x.bill.tenor.kind,.int x.bill.tenor.n,.int x.bill.tenor.unit,.int x.bill.day,.int x.bill.city,.int x.bill.pay,.int x.bill.need,.int x.bill.rate,.int x.bill.flags,.int x.bill.parts,signs x.signs,alters x.alters,acts x.acts,facts x.facts])[15]?.getD D.none=signs x.signs:=zyz
def aaq (r:Realm)(hr:Right r)(hd:RightD r)(forum:Int)(f:File)(day:Int)(hf:FewS f):ah T 13 [aP r,.int forum,ct f,.int day] (.int (eJ r forum f day)):=by
 refine zyw 61 axU ?_;simp[W5];refine⟨_,Wn f day (by have:=hf.signs;omega) (by have:=hf.acts;omega) (by have:=hf.alters;omega) (by have:=hf.facts;omega),?_⟩;have hg:=hf.at_ day;have hb:(cr f day).bill=f.bill:=rfl;unfold eJ;generalize cr f day=g at*;simp;by_cases h0:g.signs=[]
 .simp[h0]
 simp[h0];refine⟨_,aaM r hr forum 6 g day hg,_,akL _,_,awC g (by have:=hg.signs;omega) (by have:=hg.acts;omega),?_⟩;have hm:(if(D.int (qe (ls r forum 6 g day))).i<0 then D.int 0 else D.int (qe (ls r forum 6 g day)))=D.int (max (qe (ls r forum 6 g day)) 0):=by
  simp only[ams];split
  .rw[Int.max_eq_right (by omega)]
  .rw[Int.max_eq_left (by omega)]
 rw[hm,hb];refine⟨_,OP r hd f.bill _ _,?_⟩;by_cases he:(nL r f.bill (sl g) (max (qe (ls r forum 6 g day)) 0)).2=0<;>simp[he]
def at7 (y:Nat)(h:y<18446744073709551616):ah T 126 [u y] (.int ((64-wu y:Nat):Int)):=by
 refine zyw 114 ax8 ?_;have hb:=(aeD h).2.2.2;have hw:i64.wrap (64-(wu y:Nat))=((64-wu y:Nat):Int):=by rw[aQ (by omega)];omega
 simp[Xh];refine⟨_,asD y h,?_⟩;simp[hw]
set_option maxHeartbeats 4000000 in
def amv (hi lo y:Nat)(hy:0<y)(B0:hi<y)(pP:lo<18446744073709551616)(v8:y<18446744073709551616):
 ah T 80 [u hi,u lo,u y] (.tup [u ((hi*18446744073709551616+lo)/y),u ((hi*18446744073709551616+lo)%y)]):=by
 refine zyw 113 ax7 ?_;have c1:¬y=0:=by omega
 have c2:¬y<=hi:=by omega
 by_cases c3:hi=0
 .subst c3;have hq:IntKind.u64.wrap ((lo:Int)/(y:Int))=((lo/y:Nat):Int):=by
   rw[<-Int.natCast_ediv];exact j6 (aas (aar ..) pP)
  have hr:((lo:Int).tmod (y:Int))=((lo%y:Nat):Int):=(Int.ofNat_tmod lo y).symm;simp[Ou,c1,c2,hq,hr,-Int.natCast_emod]
 .have hb:=aeD v8;obtain⟨L,hL⟩:∃L,L=wu y:=⟨_,rfl⟩
  have vQ:=at7 y v8;rw[<-hL] at hb vQ;have K5:0<L:=by
   rcases DQ L with h|h
   .have:=hb.1 h;omega
   .exact h
  have hLs:=hb.2.2.2;obtain⟨s,hs⟩:∃s,s=64-L:=⟨_,rfl⟩
  obtain⟨s',eu⟩:∃s',s'=L:=⟨_,rfl⟩
  rw[<-hs] at vQ;have FY:2^s'*2^s=18446744073709551616:=by rw[<-O9,show s'+s=64 by omega]
  have adL:2^(L-1)*2^s=9223372036854775808:=by rw[<-O9,show L-1+s=63 by omega]
  have aO:y*2^s<18446744073709551616:=by rw[<-FY];exact Nat.mul_lt_mul_of_pos_right (by rw[eu];exact hb.2.2.1) (xH s)
  have iy:9223372036854775808<=y*2^s:=by rw[<-adL];exact kf _ (hb.2.1 K5)
  have ws:IntKind.u64.wrap (s:Int)=s:=j6 (by omega);have nM:bW .shl .u64 (y:Int) (s:Int)=((y*2^s:Nat):Int):=by rw[WD y s (by omega),O8 aO]
  have adn:lo/2^s'<2^s:=by rw[xF (xH s'),xG,FY];exact pP
  have sZ:0<2^s:=xH s;have aqn:hi*2^s+2^s<=y*2^s:=by rw[<-Nat.succ_mul];exact kf _ B0
  have nP:bW .shl .u64 (hi:Int) (s:Int)=((hi*2^s:Nat):Int):=by rw[WD hi s (by omega),O8 (by omega)]
  have nQ:IntKind.u64.wrap (64-(s:Int))=s':=by rw[kI (by omega)];omega
  have nR:bW .shr .u64 (lo:Int) (s':Int)=((lo/2^s':Nat):Int):=Ik lo s' (by omega);have nS:bW .or .u64 ((hi*2^s:Nat):Int) ((lo/2^s':Nat):Int)=((hi*2^s+lo/2^s':Nat):Int):=auZ _ _ s (by omega) adn (Nat.mul_mod_left ..) (by omega);have nT:bW .shl .u64 (lo:Int) (s:Int)=((lo*2^s%18446744073709551616:Nat):Int):=WD lo s (by omega);have law:((hi*2^s+lo/2^s')*18446744073709551616+lo*2^s%18446744073709551616)/(y*2^s)=(hi*18446744073709551616+lo)/y:=by
   have h1:lo*2^s/18446744073709551616=lo/2^s':=by rw[<-FY];exact aav _ _ (xH s)
   have h2:=Ai (lo*2^s) 18446744073709551616;rw[h1] at h2;have h3:(hi*2^s+lo/2^s')*18446744073709551616+lo*2^s%18446744073709551616=(hi*18446744073709551616+lo)*2^s:=by
        rw[kc,kc,Nat.mul_right_comm hi];omega
   rw[h3];exact aav _ _ (xH s)
  have aeH:((hi*2^s+lo/2^s')*18446744073709551616+lo*2^s%18446744073709551616)%(y*2^s)/2^s=(hi*18446744073709551616+lo)%y:=by
   have h1:lo*2^s/18446744073709551616=lo/2^s':=by rw[<-FY];exact aav _ _ (xH s)
   have h2:=Ai (lo*2^s) 18446744073709551616;rw[h1] at h2;have h3:(hi*2^s+lo/2^s')*18446744073709551616+lo*2^s%18446744073709551616=(hi*18446744073709551616+lo)*2^s:=by
        rw[kc,kc,Nat.mul_right_comm hi];omega
   rw[h3,Nat.mul_mod_mul_right];exact Nat.mul_div_cancel _ (xH s)
  have hu:hi*2^s+lo/2^s'<y*2^s:=by omega
  have ma:lo*2^s%18446744073709551616<18446744073709551616:=qI _ (by decide);clear hb FY adL adn aqn hL;rw[<-law,<-aeH];clear law aeH;generalize y*2^s=v at*;generalize hi*2^s+lo/2^s'=u32 at*;generalize lo*2^s%18446744073709551616=un at*;have nN:bW .shr .u64 (v:Int) 32=((v/4294967296:Nat):Int):=dH v;have nO:bW .and .u64 (v:Int) 4294967295=((v%4294967296:Nat):Int):=DY v aO;have nU:bW .shr .u64 (un:Int) 32=((un/4294967296:Nat):Int):=dH un;have nV:bW .and .u64 (un:Int) 4294967295=((un%4294967296:Nat):Int):=DY un ma;have hv:v=v/4294967296*4294967296+v%4294967296:=by omega
  have hn:un=un/4294967296*4294967296+un%4294967296:=by omega
  have adY:2147483648<=v/4294967296:=by omega
  have adZ:v/4294967296<4294967296:=by omega
  have eH:v%4294967296<4294967296:=by omega
  have jR:un/4294967296<4294967296:=by omega
  have R4:un%4294967296<4294967296:=by omega
  generalize v/4294967296=v1 at*;generalize v%4294967296=v0 at*;generalize un/4294967296=n1 at*;generalize un%4294967296=n0 at*;have gm:¬v1=0:=by omega
  have nW:IntKind.u64.wrap ((u32:Int)/(v1:Int))=((u32/v1:Nat):Int):=by
   rw[<-Int.natCast_ediv];exact j6 (aas (aar ..) (by omega))
  have LJ:u32/v1*v1+u32%v1=u32:=DP u32 v1;have nX:IntKind.u64.wrap (((u32/v1:Nat):Int)*(v1:Int))=((u32/v1*v1:Nat):Int):=by
   rw[<-Int.natCast_mul];exact j6 (by omega)
  have nY:IntKind.u64.wrap ((u32:Int)-((u32/v1*v1:Nat):Int))=((u32%v1:Nat):Int):=by
   rw[kI (by omega)];omega
  simp[Ou,c1,c2,c3,-dH,-Int.natCast_add,-Int.natCast_mul,-Int.natCast_ediv,-Int.natCast_emod];refine⟨_,vQ,?_⟩;simp[-dH,-Int.natCast_add,-Int.natCast_mul,-Int.natCast_ediv,-Int.natCast_emod,ws,nM,nN,nO,nP,nQ,nR,nS,nT,nU,nV,gm,nW,nX,nY];refine asJ _ (u32/v1) (u32%v1) v1 v0 u32 n1 eH adY adZ jR (by omega) rfl rfl (by simp[-dH,-Int.natCast_add,-Int.natCast_mul,-Int.natCast_ediv,-Int.natCast_emod,ws,nM,nN,nO,nP,nQ,nR,nS,nT,nU,nV,gm,nW,nX,nY]) (by simp[-dH,-Int.natCast_add,-Int.natCast_mul,-Int.natCast_ediv,-Int.natCast_emod,ws,nM,nN,nO,nP,nQ,nR,nS,nT,nU,nV,gm,nW,nX,nY]) (by simp[-dH,-Int.natCast_add,-Int.natCast_mul,-Int.natCast_ediv,-Int.natCast_emod,ws,nM,nN,nO,nP,nQ,nR,nS,nT,nU,nV,gm,nW,nX,nY]) (by simp[-dH,-Int.natCast_add,-Int.natCast_mul,-Int.natCast_ediv,-Int.natCast_emod,ws,nM,nN,nO,nP,nQ,nR,nS,nT,nU,nV,gm,nW,nX,nY]) (by simp[-dH,-Int.natCast_add,-Int.natCast_mul,-Int.natCast_ediv,-Int.natCast_emod,ws,nM,nN,nO,nP,nQ,nR,nS,nT,nU,nV,gm,nW,nX,nY]) _ _ λO hq hk=>?_;have k2:O.r 2=u v:=by rw[hk 2 (by simp)];simp[-dH,-Int.natCast_add,-Int.natCast_mul,-Int.natCast_ediv,-Int.natCast_emod,ws,nM,nN,nO,nP,nQ,nR,nS,nT,nU,nV,gm,nW,nX,nY]
  have k8:O.r 8=u s:=by rw[hk 8 (by simp)];simp[-dH,-Int.natCast_add,-Int.natCast_mul,-Int.natCast_ediv,-Int.natCast_emod,ws,nM,nN,nO,nP,nQ,nR,nS,nT,nU,nV,gm,nW,nX,nY]
  have k9:O.r 9=u v1:=by rw[hk 9 (by simp)];simp[-dH,-Int.natCast_add,-Int.natCast_mul,-Int.natCast_ediv,-Int.natCast_emod,ws,nM,nN,nO,nP,nQ,nR,nS,nT,nU,nV,gm,nW,nX,nY]
  have tl:O.r 10=u v0:=by rw[hk 10 (by simp)];simp[-dH,-Int.natCast_add,-Int.natCast_mul,-Int.natCast_ediv,-Int.natCast_emod,ws,nM,nN,nO,nP,nQ,nR,nS,nT,nU,nV,gm,nW,nX,nY]
  have rK:O.r 11=u u32:=by rw[hk 11 (by simp)];simp[-dH,-Int.natCast_add,-Int.natCast_mul,-Int.natCast_ediv,-Int.natCast_emod,ws,nM,nN,nO,nP,nQ,nR,nS,nT,nU,nV,gm,nW,nX,nY]
  have rL:O.r 13=u n1:=by rw[hk 13 (by simp)];simp[-dH,-Int.natCast_add,-Int.natCast_mul,-Int.natCast_ediv,-Int.natCast_emod,ws,nM,nN,nO,nP,nQ,nR,nS,nT,nU,nV,gm,nW,nX,nY]
  have tn:O.r 14=u n0:=by rw[hk 14 (by simp)];simp[-dH,-Int.natCast_add,-Int.natCast_mul,-Int.natCast_ediv,-Int.natCast_emod,ws,nM,nN,nO,nP,nQ,nR,nS,nT,nU,nV,gm,nW,nX,nY]
  clear hk;rw[<-hv] at hq;obtain⟨q1,FZ⟩:∃q1,q1=(u32*4294967296+n1)/v:=⟨_,rfl⟩
  obtain⟨R,hR⟩:∃R,R=(u32*4294967296+n1)%v:=⟨_,rfl⟩
  rw[<-FZ] at hq;have F9:0<v:=by omega
  have aFF:R<v:=by rw[hR];exact qI _ F9
  have hqR:q1*v+R=u32*4294967296+n1:=by rw[FZ,hR];exact DP _ v
  have aGg:q1<4294967296:=by rw[FZ,xF F9];omega
  have q7:IntKind.u64.wrap (IntKind.u64.wrap (IntKind.u64.wrap ((u32:Int)*4294967296)+(n1:Int))-IntKind.u64.wrap ((q1:Int)*(v:Int)))=(R:Int):=by
   have h1:(q1:Int)*(v:Int)+(R:Int)=(u32:Int)*4294967296+n1:=by rw[<-Int.natCast_mul];omega
   simp only[Iz];generalize (q1:Int)*(v:Int)=M at*;omega
  have q8:IntKind.u64.wrap ((R:Int)/(v1:Int))=((R/v1:Nat):Int):=by
   rw[<-Int.natCast_ediv];exact j6 (aas (aar ..) (by omega))
  have aGk:R/v1*v1+R%v1=R:=DP R v1;have qZ:IntKind.u64.wrap (((R/v1:Nat):Int)*(v1:Int))=((R/v1*v1:Nat):Int):=by
   rw[<-Int.natCast_mul];exact j6 (by omega)
  have q6:IntKind.u64.wrap ((R:Int)-((R/v1*v1:Nat):Int))=((R%v1:Nat):Int):=by
   rw[kI (by omega)];omega
  simp[-dH,-Int.natCast_add,-Int.natCast_mul,-Int.natCast_ediv,-Int.natCast_emod,k2,k9,rK,rL,hq,gm,q7,q8,qZ,q6];refine asK _ (R/v1) (R%v1) v1 v0 R n0 eH adY adZ R4 (by omega) rfl rfl (by simp[-dH,-Int.natCast_add,-Int.natCast_mul,-Int.natCast_ediv,-Int.natCast_emod,k2,k8,k9,tl,rK,rL,tn,hq,gm,q7,q8,qZ,q6]) (by simp[-dH,-Int.natCast_add,-Int.natCast_mul,-Int.natCast_ediv,-Int.natCast_emod,k2,k8,k9,tl,rK,rL,tn,hq,gm,q7,q8,qZ,q6]) (by simp[-dH,-Int.natCast_add,-Int.natCast_mul,-Int.natCast_ediv,-Int.natCast_emod,k2,k8,k9,tl,rK,rL,tn,hq,gm,q7,q8,qZ,q6]) (by simp[-dH,-Int.natCast_add,-Int.natCast_mul,-Int.natCast_ediv,-Int.natCast_emod,k2,k8,k9,tl,rK,rL,tn,hq,gm,q7,q8,qZ,q6]) (by simp[-dH,-Int.natCast_add,-Int.natCast_mul,-Int.natCast_ediv,-Int.natCast_emod,k2,k8,k9,tl,rK,rL,tn,hq,gm,q7,q8,qZ,q6]) _ _ λV gX hk=>?_;have j15:V.r 15=u q1:=by rw[hk 15 (by simp)];simp[-dH,-Int.natCast_add,-Int.natCast_mul,-Int.natCast_ediv,-Int.natCast_emod,k2,k8,k9,tl,rK,rL,tn,hq,gm,q7,q8,qZ,q6]
  have j8:V.r 8=u s:=by rw[hk 8 (by simp)];simp[-dH,-Int.natCast_add,-Int.natCast_mul,-Int.natCast_ediv,-Int.natCast_emod,k2,k8,k9,tl,rK,rL,tn,hq,gm,q7,q8,qZ,q6]
  have j17:V.r 17=u R:=by rw[hk 17 (by simp)];simp[-dH,-Int.natCast_add,-Int.natCast_mul,-Int.natCast_ediv,-Int.natCast_emod,k2,k8,k9,tl,rK,rL,tn,hq,gm,q7,q8,qZ,q6]
  have j14:V.r 14=u n0:=by rw[hk 14 (by simp)];simp[-dH,-Int.natCast_add,-Int.natCast_mul,-Int.natCast_ediv,-Int.natCast_emod,k2,k8,k9,tl,rK,rL,tn,hq,gm,q7,q8,qZ,q6]
  have j2:V.r 2=u v:=by rw[hk 2 (by simp)];simp[-dH,-Int.natCast_add,-Int.natCast_mul,-Int.natCast_ediv,-Int.natCast_emod,k2,k8,k9,tl,rK,rL,tn,hq,gm,q7,q8,qZ,q6]
  rw[<-hv] at gX;clear hk;obtain⟨q0,s9⟩:∃q0,q0=(R*4294967296+n0)/v:=⟨_,rfl⟩
  rw[<-s9] at gX;have aGf:q0<4294967296:=by rw[s9,xF F9];omega
  have w1:IntKind.u64.wrap (IntKind.u64.wrap ((q1:Int)*4294967296)+(q0:Int))=((q1*4294967296+q0:Nat):Int):=by
   rw[kI (n:=(q1:Int)*4294967296) (by omega),kI (by omega)];omega
  have fin:(u32*18446744073709551616+un)/v=q1*4294967296+q0:=by
   have h1:u32*18446744073709551616+un=R*4294967296+n0+v*(q1*4294967296):=by
        have:v*(q1*4294967296)=(q1*v)*4294967296:=by rw[<-aau,xG v q1]
        omega
   rw[h1,Nat.add_mul_div_left _ _ F9,<-s9];omega
  obtain⟨R2,BM⟩:∃R2,R2=(R*4294967296+n0)%v:=⟨_,rfl⟩
  have aGi:q0*v+R2=R*4294967296+n0:=by rw[s9,BM];exact DP _ v
  have aFE:R2<v:=by rw[BM];exact qI _ F9
  have anF:(u32*18446744073709551616+un)%v=R2:=by
   have h1:u32*18446744073709551616+un=R*4294967296+n0+v*(q1*4294967296):=by
        have:v*(q1*4294967296)=(q1*v)*4294967296:=by rw[<-aau,xG v q1]
        omega
   rw[h1,Nat.add_mul_mod_self_left,<-BM]
  have w2:IntKind.u64.wrap (IntKind.u64.wrap (IntKind.u64.wrap ((R:Int)*4294967296)+(n0:Int))-IntKind.u64.wrap ((q0:Int)*(v:Int)))=(R2:Int):=by
   have h1:(q0:Int)*(v:Int)+(R2:Int)=(R:Int)*4294967296+n0:=by rw[<-Int.natCast_mul];omega
   simp only[Iz];generalize (q0:Int)*(v:Int)=M at*;omega
  have w3:bW .shr .u64 (R2:Int) (s:Int)=((R2/2^s:Nat):Int):=Ik R2 s (by omega);rw[fin,anF];simp[j8,j15,j17,j14,j2,gX,w1,w2,w3,-Int.natCast_add,-Int.natCast_mul,-Int.natCast_ediv,-dH]
structure View where
 realm:Realm
 forum:Int
 day:Int
 file:File
 form:Int
 due:Int
 deriving Inhabited
def dJ (x:View):D:=.agg [strs x.realm.currencies,pC x.realm.cities,groups x.realm.groups,firms x.realm.firms,orders x.realm.orders,usances x.realm.usances,rates x.realm.rates,halts x.realm.halts,.int x.forum,.int x.day,.int x.file.bill.drawer,.int x.file.bill.drawee,.int x.file.bill.payee,.int x.file.bill.sum,.int x.file.bill.currency,.int x.file.bill.tenor.kind,.int x.file.bill.tenor.n,.int x.file.bill.tenor.unit,.int x.file.bill.day,.int x.file.bill.city,.int x.file.bill.pay,.int x.file.bill.need,.int x.file.bill.rate,.int x.file.bill.flags,.int x.file.bill.parts,signs x.file.signs,alters x.file.alters,acts x.file.acts,facts x.file.facts,.int x.form,.int x.due]
@[simp] def aDx (x:View):(dJ x).cells=[strs x.realm.currencies,pC x.realm.cities,groups x.realm.groups,firms x.realm.firms,orders x.realm.orders,usances x.realm.usances,rates x.realm.rates,halts x.realm.halts,.int x.forum,.int x.day,.int x.file.bill.drawer,.int x.file.bill.drawee,.int x.file.bill.payee,.int x.file.bill.sum,.int x.file.bill.currency,.int x.file.bill.tenor.kind,.int x.file.bill.tenor.n,.int x.file.bill.tenor.unit,.int x.file.bill.day,.int x.file.bill.city,.int x.file.bill.pay,.int x.file.bill.need,.int x.file.bill.rate,.int x.file.bill.flags,.int x.file.bill.parts,signs x.file.signs,alters x.file.alters,acts x.file.acts,facts x.file.facts,.int x.form,.int x.due]:=zyz
@[simp] def aG9 (x:View):D.agg [strs x.realm.currencies,pC x.realm.cities,groups x.realm.groups,firms x.realm.firms,orders x.realm.orders,usances x.realm.usances,rates x.realm.rates,halts x.realm.halts,.int x.forum,.int x.day,.int x.file.bill.drawer,.int x.file.bill.drawee,.int x.file.bill.payee,.int x.file.bill.sum,.int x.file.bill.currency,.int x.file.bill.tenor.kind,.int x.file.bill.tenor.n,.int x.file.bill.tenor.unit,.int x.file.bill.day,.int x.file.bill.city,.int x.file.bill.pay,.int x.file.bill.need,.int x.file.bill.rate,.int x.file.bill.flags,.int x.file.bill.parts,signs x.file.signs,alters x.file.alters,acts x.file.acts,facts x.file.facts,.int x.form,.int x.due]=dJ x:=zyz
@[simp] def aDN (x:View):kh 31 (dJ x)=dJ x:=zyz
@[simp] def aHo (x:View)(a0 a1 a2 a3 a4 a5 a6 a7 a8 a9 qJ qK a12 qL qM uc ud a17 uf Ph a20 a21 a22 a23 a24 a25 a26 a27 a28 a29 a30:D):D.agg (dO [a0,a1,a2,a3,a4,a5,a6,a7,a8,a9,qJ,qK,a12,qL,qM,uc,ud,a17,uf,Ph,a20,a21,a22,a23,a24,a25,a26,a27,a28,a29,a30] 0 [strs x.realm.currencies,pC x.realm.cities,groups x.realm.groups,firms x.realm.firms,orders x.realm.orders,usances x.realm.usances,rates x.realm.rates,halts x.realm.halts,.int x.forum,.int x.day,.int x.file.bill.drawer,.int x.file.bill.drawee,.int x.file.bill.payee,.int x.file.bill.sum,.int x.file.bill.currency,.int x.file.bill.tenor.kind,.int x.file.bill.tenor.n,.int x.file.bill.tenor.unit,.int x.file.bill.day,.int x.file.bill.city,.int x.file.bill.pay,.int x.file.bill.need,.int x.file.bill.rate,.int x.file.bill.flags,.int x.file.bill.parts,signs x.file.signs,alters x.file.alters,acts x.file.acts,facts x.file.facts,.int x.form,.int x.due])=dJ x:=zyz
@[simp] def aDv (x:View):(dJ x).c 8=.int x.forum:=zyz
@[simp] def aDw (x:View):(dJ x).c 9=.int x.day:=zyz
@[simp] def aDa (x:View):(dJ x).c 10=.int x.file.bill.drawer:=zyz
@[simp] def aDb (x:View):(dJ x).c 11=.int x.file.bill.drawee:=zyz
@[simp] def aDc (x:View):(dJ x).c 12=.int x.file.bill.payee:=zyz
@[simp] def aDd (x:View):(dJ x).c 13=.int x.file.bill.sum:=zyz
@[simp] def aDe (x:View):(dJ x).c 14=.int x.file.bill.currency:=zyz
@[simp] def aDf (x:View):(dJ x).c 15=.int x.file.bill.tenor.kind:=zyz
@[simp] def aDg (x:View):(dJ x).c 16=.int x.file.bill.tenor.n:=zyz
@[simp] def aDh (x:View):(dJ x).c 17=.int x.file.bill.tenor.unit:=zyz
@[simp] def aDi (x:View):(dJ x).c 18=.int x.file.bill.day:=zyz
@[simp] def aDj (x:View):(dJ x).c 19=.int x.file.bill.city:=zyz
@[simp] def aDk (x:View):(dJ x).c 20=.int x.file.bill.pay:=zyz
@[simp] def aDl (x:View):(dJ x).c 21=.int x.file.bill.need:=zyz
@[simp] def aDm (x:View):(dJ x).c 22=.int x.file.bill.rate:=zyz
@[simp] def aDn (x:View):(dJ x).c 23=.int x.file.bill.flags:=zyz
@[simp] def aDo (x:View):(dJ x).c 24=.int x.file.bill.parts:=zyz
@[simp] def aDp (x:View):(dJ x).c 25=signs x.file.signs:=zyz
@[simp] def aDq (x:View):(dJ x).c 26=alters x.file.alters:=zyz
@[simp] def aDr (x:View):(dJ x).c 27=acts x.file.acts:=zyz
@[simp] def aDs (x:View):(dJ x).c 28=facts x.file.facts:=zyz
@[simp] def aDt (x:View):(dJ x).c 29=.int x.form:=zyz
@[simp] def aDu (x:View):(dJ x).c 30=.int x.due:=zyz
@[simp] def aDE (x:View):kh 8 (dJ x)=aP x.realm:=zyz
def rJ:List Int->Int->Int
 |[],o=>o
 |x::l,o=>if x=0 then 0 else rJ l (if x=2 then 2 else o)
def ast {l:List Int}{o:Int}(hn:∀x,x∈l->¬x=0)(h2:o=1\/o=2):rJ l o=if o=2\/2∈l then 2 else 1:=by
 induction l generalizing o with
 |nil=>rcases h2 with h|h<;>simp[rJ,h]
 |cons x l ih=>
  have hx:=hn x (by simp);unfold rJ;rw[if_neg hx];by_cases e:x=2
  .rw[if_pos e,ih (λy hy=>hn y (by simp[hy])) (.inr rfl)];simp[e]
  .rw[if_neg e,ih (λy hy=>hn y (by simp[hy])) h2];simp[vq e]
def aex:∀{l:List Int} {o:Int} {k:Nat} (hk:k<l.length),(∀j (hj:j<k),¬l[j]'(by omega)=0)->l[k]=0->rJ l o=0
 |[],o,k,hk,_,_=>by simp at hk
 |x::l,o,0,hk,hj,h=>by
  unfold rJ;rw[if_pos (by simpa using h)]
 |x::l,o,k+1,hk,hj,h=>by
  unfold rJ;rw[if_neg (by have:=hj 0 (by omega);simpa using this)];exact aex (k:=k) (by simpa using hk) (λj mO=>by have:=hj (j+1) (by omega);simpa using this) (by simpa using h)
def Cu (l:List Int)(k:Nat):Int:=if 2∈l.take k then 2 else 1
def asu (l:List Int)(hl:l.length<=100000):ah T 67 [ints l] (.int (rJ l 1)):=by
 refine zyw 103 ax2 ?_;simp[Xc];refine aL.scan l.length (λk=>l.getD k 0≠0) (λk=>[.int 0,.int (Cu l k),.int k]) (λ_=>[]) ?_ (λk hk hj ar=>?_) (λk hk hj ar=>?_) (λhj=>?_)
 .simp[Cu]
 .have hw:=bt hk (by omega);have hx:¬l[k]=0:=by simpa [hk] using ar
  have hm:Cu l (k+1)=if l[k]=2 then 2 else Cu l k:=by
   unfold Cu;rw[iQ hk];simp only[dR,Ah];by_cases e:l[k]=2
   .simp[e]
   .simp[e,vq e]
  rw[hm];simp[Vt,G8,hk,hw,hx];by_cases e:l[k]=2<;>simp[e]
 .have hx:l[k]=0:=by simpa [hk] using ar
  simp[Vt,G8,hk,hx];rw[aex hk (λj mO=>by simpa [show j<l.length by omega] using hj j mO) hx]
 .simp[Vt,G8];rw[ast (λx hx=>by obtain⟨j,gU,rfl⟩:=fu hx;simpa [gU] using hj j gU) (.inl rfl)];simp[Cu]
def j0 (v:View)(q sign:Int):Int:=Iu (vz v.realm v.forum q ⟨v.file,sign,sign,-1,v.due,v.day⟩)
def Wz (v:View)(hr:Right v.realm)(hf:FewS v.file)(q sign:Int):ah T 68 [dJ v,.int q,.int sign] (.int (j0 v q sign)):=by
 refine zyw 102 ax5 ?_;simp[Xf];refine⟨rh (vz v.realm v.forum q ⟨v.file,sign,sign,-1,v.due,v.day⟩),aaL v.realm hr v.forum q ⟨v.file,sign,sign,-1,v.due,v.day⟩ hf,aaN _⟩
def qO (f:File)(sign:Int)(n:Nat):Bool:=(f.alters.take n).any λa=>decide (sign<a.at_)
def yZ (f:File):Int:=(f.alters.getD (f.alters.length-1) default).sum
def oW (v:View)(sign:Int):Int×Int:=
 if qO v.file sign v.file.alters.length=false then(0,oU v.file sign v.file.alters.length)
 else if j0 v 4 sign=1 then(1,yZ v.file)
 else if j0 v 4 sign=2 then(2,min (oU v.file sign v.file.alters.length) (yZ v.file))
 else(j0 v 4 sign,oU v.file sign v.file.alters.length)
def axL (v:View)(hr:Right v.realm)(hf:FewS v.file)(sign:Int):ah T 69 [dJ v,.int sign] (.tup [.int (oW v sign).1,.int (oW v sign).2]):=by
 refine zyw 104 ax6 ?_;simp[Xg];have yo:=hf.alters;refine⟨_,avd v.file sign (by omega),?_⟩;refine aL.forRounds v.file.alters.length (λk=>[.bool (qO v.file sign k),.int k]) (λ_=>[]) ?_ (λk hk=>?_) ?_
 .simp[qO]
 .have hw:=bt hk (by omega);have hs:qO v.file sign (k+1)=(qO v.file sign k||decide (sign<v.file.alters[k].at_)):=by
   unfold qO;rw[iQ hk,List.any_append];simp
  rw[hs];cases qO v.file sign k<;>simp[Vu,G9,hk,hw]
 .unfold oW;cases ha:qO v.file sign v.file.alters.length
  .simp[Vu,G9,ha]
  simp[Vu,G9,ha];have FW:0<v.file.alters.length:=by
   rcases DQ v.file.alters.length with e|e
   .simp[qO,vp.mp e] at ha
   .exact e
  have hw:i64.wrap ((v.file.alters.length:Int)-1)=(v.file.alters.length:Int)-1:=aQ (by omega);have hn:((v.file.alters.length:Int)-1).toNat=v.file.alters.length-1:=by omega
  have af:v.file.alters.length-1<v.file.alters.length:=by omega
  have yA:yZ v.file=v.file.alters[v.file.alters.length-1].sum:=by simp[yZ,af]
  simp[hw,hn,af];refine⟨by omega,_,Wz v hr hf 4 sign,?_⟩;rw[yA];by_cases h1:j0 v 4 sign=1
  .simp[h1]
  by_cases h2:j0 v 4 sign=2
  .simp[h1,h2];split
   .rw[Int.min_eq_right (by omega)]
   .rw[Int.min_eq_left (by omega)]
  .simp[h1,h2]
@[simp] def aHW (a0 a1 a2 a3 a4 a5 a6 x:D):dO [a0,a1,a2,a3,a4,a5,a6] 3 [x]=[a0,a1,a2,x,a4,a5,a6]:=zyz
@[simp] def aHX (a0 a1 a2 a3 a4 a5 a6 x:D):dO [a0,a1,a2,a3,a4,a5,a6] 4 [x]=[a0,a1,a2,a3,x,a5,a6]:=zyz
@[simp] def aHY (a0 a1 a2 a3 a4 a5 a6 x:D):dO [a0,a1,a2,a3,a4,a5,a6] 5 [x]=[a0,a1,a2,a3,a4,x,a6]:=zyz
def mK (v:View)(sign:Int):Effect:=
 let s:=v.file.signs.getD sign.toNat default
 ⟨sign,s.kind,s.who,if Of v.file sign v.day=true then 0 else rJ [v.form,j0 v 1 sign,j0 v 2 sign] 1,(oW v sign).1,
    if s.kind=1\/s.kind=4 then min (oW v sign).2 s.sum else(oW v sign).2,decide (s.kind≠1)&&decide (bW .and .i64 s.flags 1=0)⟩
def anl (v:View)(hr:Right v.realm)(hf:FewS v.file)(sign:Int)(h0:0<=sign)(h1:sign<v.file.signs.length):ah T 33 [dJ v,.int sign] (jL (mK v sign)):=by
 refine zyw 99 ax4 ?_;obtain⟨k,rfl⟩:=qF h0;have hk:k<v.file.signs.length:=by omega
 have cJ:=axO v.file k v.day (by have:=hf.acts;omega);have SH:=axL v hr hf k;have th:v.file.signs.getD (k:Int).toNat default=v.file.signs[k]:=by simp[hk]
 have LL:=Wz v hr hf 1 k;have dX:=Wz v hr hf 2 k;have hj:ah T 67 [.list [.int v.form,.int (j0 v 1 k),.int (j0 v 2 k)]] (.int (rJ [v.form,j0 v 1 k,j0 v 2 k] 1)):=asu [v.form,j0 v 1 k,j0 v 2 k] (by simp);have hif:(if v.file.signs[k].kind=1 then D.bool false else D.bool (decide (bW BinOp.and IntKind.i64 v.file.signs[k].flags 1=0)))=D.bool (decide (v.file.signs[k].kind≠1)&&decide (bW BinOp.and IntKind.i64 v.file.signs[k].flags 1=0)):=by
  by_cases h:v.file.signs[k].kind=1<;>simp[h]
 unfold mK;rw[th];generalize j0 v 1 k=s1 at*;generalize j0 v 2 k=s2 at*;generalize rJ [v.form,s1,s2] 1=jj at*;generalize oW v k=tx at*;obtain⟨t1,t2⟩:=tx;simp only at SH;simp[Xe,hk,hif];refine⟨_,cJ,?_⟩;have yE:∀a b:Int,(if b<a then D.int b else D.int a)=D.int (min a b):=by
  intro a b;split
  .rw[Int.min_eq_right (by omega)]
  .rw[Int.min_eq_left (by omega)]
 cases Cd:Of v.file k v.day
 .simp[Cd];refine⟨_,LL,_,dX,_,hj,_,SH,?_⟩;by_cases h1:v.file.signs[k].kind=1\/v.file.signs[k].kind=4
  .simp[h1,yE];rfl
  .simp[h1,yE];rfl
 .simp[Cd];refine⟨_,SH,?_⟩;by_cases h1:v.file.signs[k].kind=1\/v.file.signs[k].kind=4
  .simp[h1,yE];rfl
  .simp[h1,yE];rfl
def kD (r:Realm)(forum:Int)(f:File)(day:Int):View:=⟨r,forum,day,cr f day,Iu (ls r forum 0 (cr f day) day),eJ r forum (cr f day) day⟩
def auX (r:Realm)(hr:Right r)(hd:RightD r)(forum:Int)(f:File)(day:Int)(hf:FewS f):ah T 32 [aP r,.int forum,ct f,.int day] (dJ (kD r forum f day)):=by
 refine zyw 16 ax3 ?_;simp[Xd];have hg:=hf.at_ day;refine⟨_,Wn f day (by have:=hf.signs;omega) (by have:=hf.acts;omega) (by have:=hf.alters;omega) (by have:=hf.facts;omega),?_⟩;simp;refine⟨_,aaM r hr forum 0 _ day hg,_,aaN _,_,aaq r hr hd forum _ day hg,?_⟩;simp;rfl
def uo (r:Realm)(forum:Int)(f:File)(day:Int):List Effect:=(List.range (kD r forum f day).file.signs.length).map λ(k:Nat)=>mK (kD r forum f day) k
def aj6 (r:Realm)(hr:Right r)(hd:RightD r)(forum:Int)(f:File)(day:Int)(hf:FewS f):ah T 11 [aP r,.int forum,ct f,.int day] (oa (uo r forum f day)):=by
 refine zyw 15 ax1 ?_;simp[Xb];refine⟨_,auX r hr hd forum f day hf,?_⟩;have hg:FewS (kD r forum f day).file:=hf.at_ day;have oC:(kD r forum f day).realm=r:=rfl;unfold uo;generalize kD r forum f day=v at*;have hl:=hg.signs;refine aL.forRounds v.file.signs.length (λk=>[.none,.int k]) (λk=>[oa ((List.range k).map λ(k:Nat)=>mK v k)]) ?_ (λk hk=>?_) ?_
 .simp[oa]
 .have hw:=bt hk (by omega);have he:=anl v (oC▸hr) hg k (by omega) (by omega);rw[O4,nH];have hln:((List.range k).map λ(k:Nat)=>mK v k).length=k:=by simp
  generalize ((List.range k).map λ(k:Nat)=>mK v k)=A at*;simp[aio,Nu,hk,hw];exact⟨_,he,by omega,by simp[oa]⟩
 .simp[aio,Nu]
def QY {n:Nat}{f:Nat->Int}(h:fC n f=0)(k:Nat)(hk:k<n):f k=0:=Q0.1 h k hk
def alG {r:Realm}(h:dv r=0)(k:Nat)(hk:k<r.orders.length):rP r.orders[k]=true:=by
 unfold dv at h;rw[N3] at h;have h1:=h (dj (eR r) 20 (nf r)) (by simp);unfold dj at h1;split at h1
 .cases h1
 have h2:=QY h1 k (by simpa [eR] using hk);have h3:=(BC h2).2;unfold nf at h3;simpa [hk] using h3
def ao4 {r:Realm}(hs:Small r)(h:dv r=0):DB r:=by
 intro o ho;obtain⟨k,hk,rfl⟩:=fu ho;have h1:=alG h k hk;obtain⟨hc,_⟩:=hs.order _ ho;refine⟨by omega,λch kQ=>?_⟩;unfold rP at h1;simp only[ao] at h1;obtain⟨j,hj,rfl⟩:=fu kQ;have h2:=xK.1 h1.1 j hj;simpa [aC,hj] using h2
def ao5 {r:Realm}(hs:Small r)(h:dv r=0):xu r:=by
 refine⟨by have:=hs.halts;omega,λx hx=>?_⟩;obtain⟨k,hk,rfl⟩:=fu hx;unfold dv at h;rw[N3] at h;have h1:=h (oR r) (by simp);unfold oR at h1;split at h1
 .cases h1
 split at h1
 .cases h1
 split at h1
 .cases h1
 split at h1
 .rename_i aK;have h2:=xK.1 aK k hk;simp[vL,wi,aC,hk] at h2;omega
 .cases h1
structure Good (r:Realm) (f:File):Prop where
 right:Right r
 rightD:RightD r
 few:FewS f
def ao6 {r:Realm}{f:File}(hr:r.OK)(h:E7 r f=true):Good r f:=by
 unfold E7 ux at h;simp only[ao,decide_eq_true_eq] at h;obtain⟨⟨⟨h1,h2⟩,h3⟩,h4⟩:=h;have hs:=QV hr h1;refine⟨⟨ao4 hs h4,by have:=hs.orders;omega,λo ho=>?_⟩,⟨hs,ao5 hs h4⟩,?_⟩
 .have:=hs.order o ho;refine⟨?_,by omega⟩;exact hr.2.2.2.2.1.2 o ho
 .simp[EW] at h2;exact⟨by omega,by omega,by omega,by omega⟩
@[simp] def aHe:D.none.cells=[D.none]:=zyz
end Rm
namespace Rm
open Go Cx
end Rm
namespace Rm
open Go Go.Proofs Cx
structure SumsOK (f:File):Prop where
 bill:1<=f.bill.sum/\f.bill.sum<=1099511627776
 rate:0<=f.bill.rate/\f.bill.rate<=1000
 alters:∀a,a∈f.alters->1<=a.sum/\a.sum<=1099511627776
 signs:∀s,s∈f.signs->s.kind=1\/s.kind=4->1<=s.sum/\s.sum<=1099511627776
def SumsOK.at_ {f:File}(h:SumsOK f)(day:Int):SumsOK (cr f day):=
 ⟨h.bill,h.rate,λa ha=>h.alters a ((eT.1 ha).1),λs hs=>h.signs s ((O5 _).subset hs)⟩
def axw {f:File}(h:SumsOK f)(sign:Int)(n:Nat):1<=oU f sign n/\oU f sign n<=1099511627776:=by
 unfold oU
 have key:∀(l:List Alter) (s:Int),(∀a,a∈l->a∈f.alters)->1<=s/\s<=1099511627776->1<=l.foldl (λs a=>if a.at_<=sign then a.sum else s) s/\l.foldl (λs a=>if a.at_<=sign then a.sum else s) s<=1099511627776:=by
  intro l
  induction l with
  |nil=>exact λs _ hs=>hs
  |cons a l ih=>
   intro s hl hs;rw[xy];refine ih _ (λb hb=>hl b (by simp[hb])) ?_;split
   .exact h.alters a (hl a (by simp))
   .exact hs
 exact key _ _ (λa ha=>aan ha) h.bill
def asz {f:File}{sign:Int}(h:SumsOK f)(au:qO f sign f.alters.length=true):1<=yZ f/\yZ f<=1099511627776:=by
 unfold yZ;have FW:0<f.alters.length:=by
  rcases DQ f.alters.length with e|e
  .simp[qO,vp.mp e] at au
  .exact e
 have af:f.alters.length-1<f.alters.length:=by omega
 have e:f.alters.getD (f.alters.length-1) default=f.alters[f.alters.length-1]:=by simp[af]
 rw[e];exact h.alters _ (bV af)
def axK {v:View}(h:SumsOK v.file)(sign:Int):1<=(oW v sign).2/\(oW v sign).2<=1099511627776:=by
 have h1:=axw h sign v.file.alters.length;unfold oW;split
 .exact h1
 rename_i ha;have h2:=asz (sign:=sign) h (by simpa using ha);split
 .exact h2
 split
 .simp only;omega
 .exact h1
def ank {v:View}(h:SumsOK v.file)(sign:Int)(h0:0<=sign)(h1:sign<v.file.signs.length):1<=(mK v sign).sum/\(mK v sign).sum<=1099511627776:=by
 have ht:=axK h sign;have af:sign.toNat<v.file.signs.length:=by omega
 have e:v.file.signs.getD sign.toNat default=v.file.signs[sign.toNat]:=by simp[af]
 unfold mK;simp only[e];split
 .rename_i hk;have:=h.signs _ (bV af) hk;omega
 .exact ht
def ZL (n m:Int):ah T 39 [.int n,.int m] (.bool (wi n 0 m)):=by
 refine zyw 111 ayx ?_;simp[XE];by_cases h:0<=n<;>simp[wi,h]
end Rm
namespace Rm
open Go Cx
structure Ratio where
 num:Int
 den:Int
 deriving DecidableEq,Inhabited
structure Quote where
 perMille:Int
 fails:List Ratio
 deriving DecidableEq,Inhabited
def Ratio.right (p:Ratio):Prop:=1<=p.den/\p.den<=1073741824/\0<=p.num/\p.num<=p.den
def lU (n:Int)(p:Ratio):Int:=(n*p.num+p.den-1)/p.den
def Oe {n:Int}{p:Ratio}(hp:p.right)(h:0<=n):0<=lU n p:=by
 unfold lU;have h1:0<=n*p.num:=DF h hp.2.2.1;exact Z9 (by have:=hp.1;omega) (by have:=hp.1;omega)
def WL {n:Int}{p:Ratio}(hp:p.right)(h:0<=n):lU n p<=n:=by
 unfold lU;have h1:n*p.num<=n*p.den:=Int.mul_le_mul_of_nonneg_left hp.2.2.2 h;have h2:n*p.num+p.den-1<(n+1)*p.den:=by rw[OS];omega
 have h3:=Int.ediv_lt_of_lt_mul (by have:=hp.1;omega:0<p.den) h2;omega
def uT (p:Ratio):Nat->Int->Int
 |0,n=>n
 |k+1,n=>uT p k (lU n p)
def aev {p:Ratio}(hp:p.right):∀(k:Nat) {n:Int},0<=n->0<=uT p k n
 |0,_,h=>h
 |k+1,_,h=>aev hp k (Oe hp h)
def aeu {p:Ratio}(hp:p.right):∀(k:Nat) {n:Int},0<=n->uT p k n<=n
 |0,_,h=>Ab _
 |k+1,_,h=>OT (aeu hp k (Oe hp h)) (WL hp h)
def qQ (ps:List Ratio)(um:Nat->Nat):Nat->Int
 |0=>1000000000
 |g+1=>uT (ps.getD g default) (um g) (qQ ps um g)
def pq (ps:List Ratio):Prop:=ps.length=10/\∀p,p∈ps->p.right
def pq.at {ps:List Ratio}(h:pq ps){g:Nat}(hg:g<10):(ps.getD g default).right:=by
 have:g<ps.length:=by rw[h.1];exact hg
 rw[aF,aW this];exact h.2 _ (bV this)
def Qs {ps:List Ratio}(h:pq ps)(um:Nat->Nat):∀g,g<=10->0<=qQ ps um g
 |0,_=>by simp[qQ]
 |g+1,hg=>aev (h.at (by omega)) _ (Qs h um g (by omega))
def abe {ps:List Ratio}(h:pq ps)(um:Nat->Nat):∀g,g<=10->qQ ps um g<=1000000000
 |0,_=>Ab _
 |g+1,hg=>OT (aeu (h.at (by omega)) _ (Qs h um g (by omega))) (abe h um g (by omega))
def abf (ps:List Ratio){a:Nat->Nat}(h:∀g,a g=0):∀g,qQ ps a g=1000000000
 |0=>rfl
 |g+1=>by rw[qQ,h g,uT,abf ps h g]
def fB (gs:List Int)(g:Nat):Nat:=(gs.filter λx=>decide (x=(g:Int))).length
def ab8 (ps:List Ratio):∀(k a:Nat) (gs:List Int) (n:Int),a+k=10->gs.Pairwise (·<=·)->(∀x,x∈gs->(a:Int)<=x/\x<10)->
 gs.foldl (λn x=>lU n (ps.getD x.toNat default)) n=(List.range k).foldl (λn i=>uT (ps.getD (a+i) default) (fB gs (a+i)) n) n
 |0,a,gs,n,hk,hs,hx=>by
  cases gs with
  |nil=>rfl
  |cons x gs=>have:=hx x (by simp);omega
 |k+1,a,gs,n,hk,hs,hx=>by
  have key:∀(gs:List Int) (n:Int),gs.Pairwise (·<=·)->(∀x,x∈gs->(a:Int)<=x/\x<10)->gs.foldl (λn x=>lU n (ps.getD x.toNat default)) n=(gs.filter λx=>decide (x≠(a:Int))).foldl (λn x=>lU n (ps.getD x.toNat default)) (uT (ps.getD a default) (fB gs a) n):=by
   intro gs
   induction gs with
   |nil=>intro n _ _;rfl
   |cons x gs ih=>
    intro n hs hx;obtain⟨h1,h2⟩:=xD.1 hs;by_cases e:x=(a:Int)
    .subst e;rw[xy,ih _ h2 (λy hy=>hx y (by simp[hy]))];have e1:fB ((a:Int)::gs) a=fB gs a+1:=by simp[fB]
     rw[e1,uT];simp
    .have aK:∀y,y∈x::gs->y≠(a:Int):=λy hy e'=>by
       subst e';rcases cB.1 hy with h|h
       .exact e h.symm
       .have:=h1 _ h;have:=(hx x (by simp)).1;omega
     have e1:fB (x::gs) a=0:=by
       unfold fB;rw[vp,List.filter_eq_nil_iff];intro y hy;simpa using aK y hy
     have e2:(x::gs).filter (λx=>decide (x≠(a:Int)))=x::gs:=by
       rw[List.filter_eq_self];intro y hy;simpa using aK y hy
     rw[e1,e2];rfl
  rw[key gs n hs hx,ab8 ps k (a+1) _ _ (by omega) (hs.sublist List.filter_sublist) (λx db=>by
   obtain⟨h1,h2⟩:=eT.1 db;have h3:=hx x h1;have h4:x≠(a:Int):=by simpa using h2
   omega)]
  rw[List.range_succ_eq_map,xy,aah]
  have ec:∀i:Nat,fB (gs.filter λx=>decide (x≠(a:Int))) (a+1+i)=fB gs (a+1+i):=by
   intro i;unfold fB;rw[List.filter_filter]
   congr 1
   apply List.filter_congr;intro x _;by_cases e:x=((a+1+i:Nat):Int)
   .subst e;simp;omega
   .rw[decide_eq_false e,sv]
  simp only[ec,iS]
  congr 1
  funext n i;rw[show a+1+i=a+i.succ by omega]
def aoV (ps:List Ratio){gs:List Int}(hs:gs.Pairwise (·<=·))(hx:∀x,x∈gs->0<=x/\x<10):
 gs.foldl (λn x=>lU n (ps.getD x.toNat default)) 1000000000=qQ ps (fB gs) 10:=by
 rw[ab8 ps 10 0 gs _ rfl hs (λx h=>by have:=hx x h;omega)]
 have:∀k,(List.range k).foldl (λn i=>uT (ps.getD (0+i) default) (fB gs (0+i)) n) 1000000000=qQ ps (fB gs) k:=by
  intro k
  induction k with
  |zero=>rfl
  |succ k ih=>rw[O4,tY,ih];simp[qQ]
 exact this 10
def gM (f:Nat->Int):Nat->Int
 |0=>0
 |n+1=>gM f n+f (n+1)
def WM {f:Nat->Int}{p:Int}:∀(k a:Nat),(∀s,a<s->s<=a+k->f s=p)->gM f (a+k)=gM f a+(k:Int)*p
 |0,a,_=>by simp
 |k+1,a,h=>by
  show gM f (a+k)+f (a+k+1)=_;rw[WM k a λs h1 h2=>h s h1 (by omega),h (a+k+1) (by omega) (by omega)];rw[Int.natCast_add,OS];simp;omega
def WN {f g:Nat->Int}:∀n,(∀s,0<s->s<=n->f s<=g s)->gM f n<=gM g n
 |0,_=>Ab _
 |n+1,h=>by
  have h1:=WN n λs h1 h2=>h s h1 (by omega);have h2:=h (n+1) (by omega) (by omega);show gM f n+f (n+1)<=gM g n+g (n+1);omega
def WO {f:Nat->Int}{m:Nat}(h:∀s,m<s->f s=0){n:Nat}(hn:m<=n):gM f n=gM f m:=by
 have:=WM (f:=f) (p:=0) (n-m) m λs h1 h2=>h s h1;rw[show m+(n-m)=n by omega] at this;simpa using this
abbrev WS:Type:=Int×Int×Int
def w6 (pay:Nat->Int)(w:WS)(s:Int):WS:=
 if s<=w.2.2 then w else
    (w.1+(s-w.2.2)/1000000000*pay s.toNat+((s-w.2.2)%1000000000*pay s.toNat+w.2.1)/1000000000,((s-w.2.2)%1000000000*pay s.toNat+w.2.1)%1000000000,s)
def iu (pay:Nat->Int)(L:List Int):WS:=L.foldl (w6 pay) (0,0,0)
structure InvW (pay:Nat->Int) (w:WS):Prop where
 sum:1000000000*w.1+w.2.1=gM pay w.2.2.toNat
 r0:0<=w.2.1
 r1:w.2.1<1000000000
 b0:0<=w.2.2
def InvW.start (pay:Nat->Int):InvW pay (0,0,0):=⟨by simp[gM],by simp,by simp,by simp⟩
def InvW.step {pay:Nat->Int}(hp:∀s,0<=pay s){w:WS}(h:InvW pay w){x:Int}(hc:∀s:Nat,w.2.2<s->(s:Int)<=x->pay s=pay x.toNat):InvW pay (w6 pay w x):=by
 unfold w6;by_cases hx:x<=w.2.2
 .rw[if_pos hx];exact h
 rw[if_neg hx];obtain⟨h1,h2,h3,h4⟩:=h;obtain⟨whole,rest,below⟩:=w;simp only at*;have hk:below.toNat+(x-below).toNat=x.toNat:=by omega
 have hs:=WM (f:=pay) (p:=pay x.toNat) (x-below).toNat below.toNat λs k1 k2=>hc s (by omega) (by omega);rw[hk] at hs;have e1:(((x-below).toNat:Nat):Int)=x-below:=by omega
 rw[e1] at hs;have hm:=Int.mul_ediv_add_emod ((x-below)%1000000000*pay x.toNat+rest) 1000000000;have hw:=Int.mul_ediv_add_emod (x-below) 1000000000;have hmul:(x-below)*pay x.toNat=1000000000*((x-below)/1000000000*pay x.toNat)+(x-below)%1000000000*pay x.toNat:=by
  rw[<-Int.mul_assoc,<-OS,hw]
 have p0:=hp x.toNat;refine⟨?_,?_,?_,?_⟩
 .show 1000000000*(whole+(x-below)/1000000000*pay x.toNat+((x-below)%1000000000*pay x.toNat+rest)/1000000000)+((x-below)%1000000000*pay x.toNat+rest)%1000000000=gM pay x.toNat;rw[hs,<-h1,hmul];generalize (x-below)/1000000000*pay x.toNat=A at*;generalize (x-below)%1000000000*pay x.toNat=B at*;omega
 .exact Int.emod_nonneg _ (by omega)
 .exact Int.emod_lt_of_pos _ (by omega)
 .show 0<=x;omega
def OR (pay:Nat->Int)(L:List Int):Prop:=∀s x:Nat,s<=x->(∀y,y∈L->y<(s:Int)\/(x:Int)<=y)->pay s=pay x
def Q8 {pay:Nat->Int}(hp:∀s,0<=pay s){L:List Int}(hg:OR pay L)(hs:L.Pairwise (·<=·))(h0:∀x,x∈L->0<=x):∀k,k<=L.length->
 InvW pay (iu pay (L.take k))/\(∀j (hj:j<L.length),j<k->L[j]<=(iu pay (L.take k)).2.2)/\((iu pay (L.take k)).2.2=0\/(iu pay (L.take k)).2.2∈L)
 |0,_=>⟨.start pay,λj _ h=>absurd h (Nat.not_lt_zero _),.inl rfl⟩
 |k+1,hk=>by
  obtain⟨h1,h2,h3⟩:=Q8 hp hg hs h0 k (by omega);have af:k<L.length:=by omega
  have e:iu pay (L.take (k+1))=w6 pay (iu pay (L.take k)) L[k]:=by
   unfold iu;rw[iQ af,tY];rfl
  rw[e];generalize iu pay (L.take k)=w at*;have Gc:=h0 _ (bV af);refine⟨h1.step hp λs k1 k2=>?_,λj hj mO=>?_,?_⟩
  .refine hg s _ (by omega) λy hy=>?_;obtain⟨j,hj,rfl⟩:=fu hy;by_cases mO:j<k
   .have:=h2 j hj mO;omega
   .have:L[k]<=L[j]:=by
     by_cases e:j=k
     .subst e;exact Ab _
     .exact O1.1 hs k j af hj (by omega)
    omega
  .unfold w6;by_cases hx:L[k]<=w.2.2
   .rw[if_pos hx];by_cases e:j=k
    .subst e;exact hx
    .exact h2 j hj (by omega)
   .rw[if_neg hx];show L[j]<=L[k];by_cases e:j=k
    .subst e;exact Ab _
    .exact O1.1 hs j k hj af (by omega)
  .unfold w6;by_cases hx:L[k]<=w.2.2
   .rw[if_pos hx];exact h3
   .rw[if_neg hx];exact .inr (bV af)
def aoU {pay:Nat->Int}(hp:∀s,0<=pay s){L:List Int}(hg:OR pay L)(hs:L.Pairwise (·<=·))(h0:∀x,x∈L->0<=x){m:Nat}(hm:∀x,x∈L->x<=(m:Int))(hz:∀s:Nat,(∀y,y∈L->y<(s:Int))->pay s=0):
 (iu pay L).1=gM pay m/1000000000:=by
 obtain⟨h1,h2,h3⟩:=Q8 hp hg hs h0 L.length (ba _);rw[DN] at h1 h2 h3;generalize iu pay L=w at*;have hb:w.2.2.toNat<=m:=by
  rcases h3 with e|e
  .rw[e];exact kg _
  .have:=hm _ e;omega
 have adT:gM pay m=gM pay w.2.2.toNat:=WO (λs eu=>hz s λy hy=>by
  obtain⟨j,hj,rfl⟩:=fu hy;have:=h2 j hj hj;have:=h1.b0;omega) hb
 rw[adT,<-h1.sum];have:=h1.r0;have:=h1.r1;omega
def Tg (e:Effect):Bool:=decide (e.binds=1)&&(decide (e.kind=1)||e.recourse)
def pI (r:Realm)(e:Effect):Int:=(r.firms.getD e.firm.toNat default).group
def cE (r:Realm)(g:Int):Int:=(r.groups.getD g.toNat default).grade
def eW (r:Realm)(l:List Effect)(s:Int):List Int:=ki (lK ((l.filter λe=>decide (s<=e.sum)).map (pI r)))
def uz {r:Realm}{l:List Effect}{s g:Int}:g∈eW r l s↔∃e,e∈l/\s<=e.sum/\pI r e=g:=by
 unfold eW;rw[amk (LY _),asl];simp only[bZ,eT,decide_eq_true_eq,and_assoc]
def BI (r:Realm)(l:List Effect)(s:Int):(eW r l s).Pairwise (·<·):=aml (LY _)
def py (r:Realm)(gs:List Int)(ps:List Ratio):Int:=qQ ps (fB (gs.map (cE r))) 10
def eA (r:Realm)(l:List Effect)(ps:List Ratio)(s:Nat):Int:=1000000000-py r (eW r l s) ps
def Gi:∀{a b:List Int},a.Pairwise (·<·)->b.Pairwise (·<·)->(∀x,x∈a->x∈b)->a.Sublist b
 |[],b,_,_,_=>List.nil_sublist b
 |x::a,[],_,_,h=>by have:=h x (by simp);cases this
 |x::a,y::b,ha,hb,h=>by
  obtain⟨a1,a2⟩:=xD.1 ha;obtain⟨b1,b2⟩:=xD.1 hb;by_cases e:x=y
  .subst e;refine List.Sublist.cons_cons _ (Gi a2 b2 λz hz=>?_);rcases cB.1 (h z (by simp[hz])) with e|e
   .have:=a1 z hz;omega
   .exact e
  .refine .cons _ (Gi ha b2 λz hz=>?_);rcases cB.1 (h z hz) with e'|e'
   .subst e';rcases cB.1 hz with e2|e2
    .exact absurd e2.symm e
    .have h1:=a1 _ e2;rcases cB.1 (h x (by simp)) with e3|e3
     .exact absurd e3 e
     .have:=b1 _ e3;omega
   .exact e'
def aej {a b:List Int}(ha:a.Pairwise (·<·))(hb:b.Pairwise (·<·))(h:∀x,x∈a↔x∈b):a=b:=
 (Gi ha hb λx hx=>(h x).1 hx).eq_of_length (Nat.le_antisymm (Gi ha hb λx hx=>(h x).1 hx).length_le (Gi hb ha λx hx=>(h x).2 hx).length_le)
def aEg {a b:List Int}(h:a.Sublist b)(f:Int->Int)(g:Nat):fB (a.map f) g<=fB (b.map f) g:=((h.map f).filter _).length_le
def zm {r:Realm}{ps:List Ratio}(hq:pq ps)(l:List Effect)(s:Nat):0<=eA r l ps s/\eA r l ps s<=1000000000:=by
 unfold eA py;have h1:=Qs hq (fB ((eW r l s).map (cE r))) 10 (ba _);have h2:=abe hq (fB ((eW r l s).map (cE r))) 10 (ba _);omega
def avo {r:Realm}{ps:List Ratio}{l:List Effect}{s:Nat}(h:∀e,e∈l->e.sum<(s:Int)):eA r l ps s=0:=by
 have e1:eW r l s=[]:=by
  rw[aaf];intro g hg;obtain⟨e,he,h1,_⟩:=uz.1 hg;have:=h e he;omega
 unfold eA py;rw[e1,abf ps (a:=fB (([]:List Int).map (cE r))) (λg=>rfl)];rfl
def ahr (r:Realm)(l:List Effect)(ps:List Ratio):OR (eA r l ps) (l.map (·.sum)):=by
 intro s x vW h;have e1:eW r l s=eW r l x:=by
  refine aej (BI _ _ _) (BI _ _ _) λg=>?_;rw[uz,uz];refine exists_congr λe=>and_congr_right λhe=>and_congr_left λ_=>?_;have:=h e.sum (Ag he);omega
 unfold eA;rw[e1]
def ao9 {r:Realm}{l l':List Effect}(h:∀e,e∈l↔e∈l')(s:Int):eW r l s=eW r l' s:=
 aej (BI _ _ _) (BI _ _ _) λg=>by
  rw[uz,uz];exact exists_congr λe=>and_congr_left λ_=>h e
def j5 (r:Realm)(l:List Effect)(ps:List Ratio):Int:=gM (eA r l ps) 1099511627776/1000000000
def ajJ {r:Realm}{l l':List Effect}{ps:List Ratio}(hq:pq ps)(hp:∀e,e∈l'↔e∈l)(hs:l'.Pairwise (λa b=>a.sum<=b.sum))(h0:∀e,e∈l->0<=e.sum/\e.sum<=1099511627776):
 (iu (eA r l ps) (l'.map (·.sum))).1=j5 r l ps:=by
 have hm:∀y,y∈l'.map (·.sum)->∃e,e∈l/\e.sum=y:=λy hy=>by
  obtain⟨e,he,rfl⟩:=bZ.1 hy;exact⟨e,(hp e).1 he,rfl⟩
 refine aoU (λs=>(zm hq l s).1) (λs x vW h=>?_) (DM.2 hs) (λx hx=>?_) (λx hx=>?_) (λs h=>?_)
 .refine ahr r l ps s x vW λy hy=>?_;obtain⟨e,he,rfl⟩:=bZ.1 hy;exact h _ (Ag ((hp e).2 he))
 .obtain⟨e,he,rfl⟩:=hm x hx;exact(h0 e he).1
 .obtain⟨e,he,rfl⟩:=hm x hx;exact(h0 e he).2
 .exact avo λe he=>h _ (Ag ((hp e).2 he))
def WQ {f:Nat->Int}{c:Int}:∀n,(∀s,0<s->s<=n->f s<=c)->gM f n<=(n:Int)*c
 |0,_=>by simp[gM]
 |n+1,h=>by
  have h1:=WQ n λs h1 h2=>h s h1 (by omega);have h2:=h (n+1) (by omega) (by omega);show gM f n+f (n+1)<=_;rw[Int.natCast_add,OS];simp;omega
def aAI {r:Realm}{l:List Effect}{ps:List Ratio}(hq:pq ps):0<=j5 r l ps:=by
 unfold j5;refine Z9 ?_ (by omega);have h1:=WN (f:=λ_=>0) (g:=eA r l ps) 1099511627776 λs _ _=>(zm hq l s).1;have h2:=WO (f:=λ_=>(0:Int)) (m:=0) (λ_ _=>rfl) (kg 1099511627776);have h3:gM (λ_=>(0:Int)) 0=0:=rfl;rw[h2,h3] at h1;exact h1
def qf (w x:Int):Int:=(w*x+359999)/360000
def pD (w pm d:Int):Int×Int:=
 if wi w 0 1099511627776=true/\wi pm 0 1000=true/\wi d 0 20000=true then(if qf w (pm*d)<=w then(qf w (pm*d),0) else(0,3)) else(0,1)
def Cy (w x:Int):Int:=if qf w x<=w then w-qf w x else 0
def auA {w x:Int}(hw:0<=w)(hx:0<=x):0<=qf w x:=by
 unfold qf;have:=DF hw hx;omega
def aup {w x:Int}(hw:0<=w)(hx:0<=x):0<=Cy w x/\Cy w x<=w:=by
 have:=auA hw hx;unfold Cy;split<;>omega
def amu {w pm d:Int}(hw:0<=w/\w<=1099511627776)(hp:0<=pm/\pm<=1000)(hd:0<=d/\d<=20000):(if(pD w pm d).2≠0 then 0 else w-(pD w pm d).1)=Cy w (pm*d):=by
 have e:pD w pm d=if qf w (pm*d)<=w then(qf w (pm*d),0) else(0,3):=by
  unfold pD;rw[if_pos ⟨by simp[wi];omega,by simp[wi];omega,by simp[wi];omega⟩]
 rw[e];unfold Cy;split<;>simp
def ahx (w pm due day:Int):Int×Int:=
 if due=-1 then(0,4) else if day<due/\20000<due-day then(0,3) else(Cy w (pm*max (due-day) 0),0)
def jm (x y g:Int):Int:=if g=x then y else if g=y then x else g
def ajn (x y g:Int):jm x y (jm x y g)=g:=by
 unfold jm;by_cases h1:g=x
 .subst h1;by_cases h2:y=g
  .subst h2;simp
  .simp[h2]
 .by_cases h2:g=y
  .subst h2;simp[h1]
  .simp[h1,h2]
def abl {a b:List Int}(h:a.Perm b)(g:Nat):fB a g=fB b g:=(h.filter _).length_eq
def aei {l:List Int}(h:l.Pairwise (·<·)):l.Nodup:=h.imp λh e=>by subst e;exact absurd h (Int.lt_irrefl _)
def aly {r s:Realm}{ps:List Ratio}{l:List Effect}{x y:Int}(hg:s.groups=r.groups)(mc:cE r x=cE r y)(hf:∀e,e∈l->pI s e=jm x y (pI r e))(t:Int):
 py s (eW s l t) ps=py r (eW r l t) ps:=by
 have rv:cE s=cE r:=by funext g;unfold cE;rw[hg]
 have hsw:∀g,cE r (jm x y g)=cE r g:=λg=>by
  unfold jm;split
  .rename_i h;rw[h,mc]
  split
  .rename_i h;rw[h,mc]
  .rfl
 have jR:((eW r l t).map (jm x y)).Nodup:=by
  unfold List.Nodup;rw[DM];refine(aei (BI r l t)).imp λh e=>h ?_;have:=congrArg (jm x y) e
  rwa [ajn,ajn] at this
 have hp:(eW s l t).Perm ((eW r l t).map (jm x y)):=by
  refine(aki (aei (BI s l t)) jR).2 λg=>?_;rw[bZ,uz];constructor
  .rintro⟨e,he,h1,h2⟩;exact⟨pI r e,uz.2 ⟨e,he,h1,rfl⟩,by rw[<-hf e he];exact h2⟩
  .rintro⟨g',h1,h2⟩;obtain⟨e,he,h3,h4⟩:=uz.1 h1;exact⟨e,he,h3,by rw[hf e he,h4,h2]⟩
 unfold py;rw[rv];have e:fB ((eW s l t).map (cE r))=fB ((eW r l t).map (cE r)):=by
  funext g;rw[abl (hp.map (cE r)) g,lW]
  congr 1
  exact qH λa _=>hsw a
 rw[e]
def aAH {r s:Realm}{ps:List Ratio}{l:List Effect}{x y:Int}(hg:s.groups=r.groups)(mc:cE r x=cE r y)(hf:∀e,e∈l->pI s e=jm x y (pI r e)):j5 s l ps=j5 r l ps:=by
 unfold j5;have:eA s l ps=eA r l ps:=by
  funext t;unfold eA;rw[aly hg mc hf]
 rw[this]
end Rm
namespace Rm
open Go Go.Proofs Cx
def abC {r:Realm}{b:Bill}(hr:RightD r)(hc:dv r=0)(RD:aC b.city r.cities.length=true)(eG:aC b.pay r.cities.length=true)(hd:eD b.day=true)(hk:b.tenor.kind=3)(hu:b.tenor.unit=0)
 (hn:eD b.tenor.n=true) {g:Int} (hg:0<=g/\g<=20000) (hs:b.tenor.n+g<=100000):nL r b (-1) g=lT r b.pay (b.tenor.n+g):=by
 have ko:=NU r hr.small;rw[hc] at ko;have lH:0<=b.tenor.n/\b.tenor.n<=100000:=by simpa [eD] using hn
 have tg:=WC r hr.halts b.pay (b.tenor.n+g) (by simpa [aC] using eG) hr.cities (by omega) (by omega);have hb:ah T 76 [aP r,dI b,.int (-1)] (.tup [.int b.tenor.n,.int 0]):=by
  refine .of_tree rfl xN zO ?_;simp[oX,hk]
 have h:ah T 37 [aP r,dI b,.int (-1),.int g] (.tup [.int (lT r b.pay (b.tenor.n+g)).1,.int (lT r b.pay (b.tenor.n+g)).2]):=by
  have uL:=Cl r b.city;have ac8:=Cl r b.pay;have yx:=wk b.day;have hi3:=wk b.tenor.n;have hi4:=DS b.tenor;rw[RD] at uL;rw[eG] at ac8;rw[hd] at yx;rw[hn] at hi3;rw[show Di b.tenor=false from by simp[Di,hk]] at hi4;have hw:i64.wrap (b.tenor.n+g)=b.tenor.n+g:=aQ (by omega);have jQ:¬g<0:=by omega
  have iv:¬20000<g:=by omega
  have dX:¬100000<b.tenor.n+g:=by omega
  refine .of_tree rfl Po YV ?_;simp[Is];refine⟨_,ko,?_⟩;simp;refine⟨_,uL,?_⟩;simp;refine⟨_,ac8,?_⟩;simp;refine⟨_,yx,?_⟩;simp[hk,hu,jQ,iv];refine⟨_,hi4,?_⟩;simp;refine⟨_,hb,?_⟩;simp;refine⟨_,hi3,?_⟩;simp[hw,dX];refine⟨_,tg,?_⟩;simp
 have h2:=h.det (OP r hr b (-1) g);simp at h2;exact Prod.ext h2.1.symm h2.2.symm
def av5 (l:List Int)(hl:l.length<=4000000):ah T 20 [ints l,ints l] (.bool true):=by
 refine zyw 117 azg ?_;simp[Yi];refine aL.forRounds l.length (λk=>[.bool false,.int k]) (λ_=>[]) ?_ (λk hk=>?_) ?_
 .simp
 .have hw:=bt hk (by omega);simp[aiz,NI,hk,hw]
 .simp[aiz,NI]
def LV {n:Int}(h:-100000<=n/\n<=100000):aZ n:=by unfold aZ;omega
def oc (x:Ratio):D:=.agg [.int x.num,.int x.den]
@[simp] def aCw (x:Ratio):(oc x).cells=[.int x.num,.int x.den]:=zyz
@[simp] def aG1 (x:Ratio):D.agg [.int x.num,.int x.den]=oc x:=zyz
@[simp] def aCu (x:Ratio):(oc x).c 0=.int x.num:=zyz
@[simp] def aCv (x:Ratio):(oc x).c 1=.int x.den:=zyz
def vd (l:List Ratio):D:=.list (l.map oc)
@[simp] def aHB (l:List Ratio):(vd l).l=l.map oc:=zyz
@[simp] def aHA (l:List Ratio):(vd l).cells=[vd l]:=zyz
def lu (x:Quote):D:=.agg [.int x.perMille,vd x.fails]
@[simp] def aCn (x:Quote):(lu x).cells=[.int x.perMille,vd x.fails]:=zyz
@[simp] def aGZ (x:Quote):D.agg [.int x.perMille,vd x.fails]=lu x:=zyz
@[simp] def aCl (x:Quote):(lu x).c 0=.int x.perMille:=zyz
@[simp] def aCm (x:Quote):(lu x).c 1=vd x.fails:=zyz
abbrev ajD:Ty:=.agg [.int .i64,.int .i64]
abbrev aAi:Ty:=.agg [.int .i64,.slice ajD]
def Ratio.OK (x:Ratio):Prop:=aZ x.num/\aZ x.den
def Quote.OK (x:Quote):Prop:=aZ x.perMille/\x.fails.length<=maxLen/\∀p,p∈x.fails->p.OK
def awl {d:D}(h:DTy ajD d):∃x:Ratio,d=oc x/\x.OK:=by
 obtain⟨ds,rfl,hs⟩:=h.agg_inv;obtain⟨d0,ds,rfl,h0,hs⟩:=hs.cons_inv;obtain⟨d1,ds,rfl,h1,hs⟩:=hs.cons_inv;obtain rfl:=hs.nil_inv;obtain⟨n0,rfl,b0⟩:=h0.i64_inv;obtain⟨n1,rfl,b1⟩:=h1.i64_inv;exact⟨⟨n0,n1⟩,rfl,⟨b0,b1⟩⟩
def avN {d:D}(h:DTy aAi d):∃x:Quote,d=lu x/\x.OK:=by
 obtain⟨ds,rfl,hs⟩:=h.agg_inv;obtain⟨d0,ds,rfl,h0,hs⟩:=hs.cons_inv;obtain⟨d1,ds,rfl,h1,hs⟩:=hs.cons_inv;obtain rfl:=hs.nil_inv;obtain⟨n0,rfl,b0⟩:=h0.i64_inv;obtain⟨xs,rfl,hm,hx⟩:=h1.slice_inv;obtain⟨l,rfl,hl⟩:=kC (enc:=oc) (P:=Ratio.OK) λx hh=>awl (hx x hh);exact⟨⟨n0,l⟩,rfl,⟨b0,by simpa using hm,hl⟩⟩
def pw (p:Ratio):Bool:=decide (p.den<1)||decide (1073741824<p.den)||decide (p.num<0)||decide (p.den<p.num)
def jD (q:Quote):Int:=if q.perMille<0\/1000<q.perMille\/q.fails.length≠10\/q.fails.any pw=true then 1 else 0
def Vj {q:Quote}(h:jD q=0):0<=q.perMille/\q.perMille<=1000/\pq q.fails:=by
 unfold jD at h;split at h
 .cases h
 rename_i h1;have h2:q.fails.any pw=false:=by
  cases e:q.fails.any pw with
  |false=>rfl
  |true=>exact absurd (.inr (.inr (.inr e))) h1
 refine⟨by omega,by omega,?_,λp hp=>?_⟩
 .exact DC λe=>h1 (.inr (.inr (.inl e)))
 .have:=List.any_eq_false.1 h2 p hp;simp[pw] at this;unfold Ratio.right;omega
def aj8 (l:List Ratio)(f:Nat)(caps:List D)(g:Nat->Bool)(hg:∀k (hk:k<l.length),ah T f (oc l[k]::caps) (.bool (g k)))(hl:l.length<=4294967296):
 ah T 81 [vd l,.clo f caps] (.int (mX l.length g)):=by
 refine zyw 8 azN ?_;simp[YP];refine .scan l.length (λk=>g k=false) (λk=>[.int 0,.int k]) (λ_=>[]) ?_ (λk hk hj ho=>?_) (λk hk hj ho=>?_) (λhj=>?_)
 .simp
 .have hw:=bt hk hl;simp[Wc,HV,hk,hw];refine⟨_,_,⟨rfl,rfl⟩,_,hg k hk,?_⟩;simp[ho,hw]
 .have he:=L2 hk (by simpa using ho) hj;simp[Wc,HV,hk,he];refine⟨_,_,⟨rfl,rfl⟩,_,hg k hk,?_⟩;simp[ho]
 .have he:=L1 hj;simp[Wc,HV,he]
def aj0 (l:List Ratio)(f:Nat)(caps:List D)(g:Nat->Bool)(hg:∀k (hk:k<l.length),ah T f (oc l[k]::caps) (.bool (g k)))(hl:l.length<=4294967296):
 ah T 42 [vd l,.clo f caps] (.bool ((List.range l.length).any g)):=by
 refine zyw 7 azI ?_;simp[YK];refine⟨_,aj8 l f caps g hg hl,?_⟩;have:=S9 l.length g;simp[<-this]
def ajX (p:Ratio):ah T 41 [oc p] (.bool (pw p)):=by
 refine zyw 6 ayN ?_;simp[XT,pw];by_cases h1:p.den<1<;>by_cases h2:1073741824<p.den<;>by_cases h3:p.num<0<;>by_cases h4:p.den<p.num<;>simp[h1,h2,h3,h4]
def OO (q:Quote)(hl:q.fails.length<=4294967296):ah T 19 [lu q] (.int (jD q)):=by
 refine zyw 5 ayO ?_
 have h:=aj0 q.fails 41 [] (λk=>pw (q.fails.getD k default)) (λk hk=>by
  have e:q.fails.getD k default=q.fails[k]:=by simp[hk]
  rw[e];exact ajX _) hl
 have e:(List.range q.fails.length).any (λk=>pw (q.fails.getD k default))=q.fails.any pw:=by
  rw[tU,xx,xx];constructor
  .rintro⟨k,hk,hb⟩;have bf:=fS.1 hk;exact⟨q.fails[k],bV bf,by simpa [bf] using hb⟩
  .rintro⟨p,hp,hb⟩;obtain⟨k,hk,rfl⟩:=fu hp;exact⟨k,fS.2 hk,by simpa [hk] using hb⟩
 rw[e] at h;by_cases p1:0<=q.perMille
 case neg=>
  have n1:q.perMille<0:=by omega
  have e1:jD q=1:=by unfold jD;rw[if_pos (.inl n1)]
  rw[e1];simp[Dr,p1,n1]
 have n1:¬q.perMille<0:=by omega
 by_cases p2:q.perMille<=1000
 case neg=>
  have n2:1000<q.perMille:=by omega
  have e1:jD q=1:=by unfold jD;rw[if_pos (.inr (.inl n2))]
  rw[e1];simp[Dr,p1,n1,p2,n2]
 have n2:¬1000<q.perMille:=by omega
 by_cases p3:q.fails.length=10
 case neg=>
  have n3:¬(q.fails.length:Int)=10:=by omega
  have e1:jD q=1:=by unfold jD;rw[if_pos (.inr (.inr (.inl p3)))]
  rw[e1];simp[Dr,p1,n1,p2,n2,p3,n3]
 have n3:(q.fails.length:Int)=10:=by omega
 have e1:jD q=if q.fails.any pw=true then 1 else 0:=by
  unfold jD;by_cases hb:q.fails.any pw=true
  .rw[if_pos hb,if_pos (.inr (.inr (.inr hb)))]
  .rw[if_neg hb,if_neg (by rintro(h|h|h|h);exact n1 h;exact n2 h;exact h p3;exact hb h)]
 rw[e1];clear e e1;generalize q.fails.any pw=b at h ⊢;simp[Dr,p1,n1,p2,n2,p3,n3];refine⟨_,h,?_⟩;cases b<;>simp
def avj (a b c:Nat)(ha:a<9223372036854775808)(hb:b<9223372036854775808)(hc:0<c)(hc2:c<9223372036854775808):
 ah T 40 [.int a,.int b,.int c] (if 1099511627776<a*b/c then .tup [.int 0,.int 0,.bool false] else .tup [.int ((a*b/c:Nat):Int),.int ((a*b%c:Nat):Int),.bool true]):=by
 refine zyw 112 ayw ?_;have wa:IntKind.u64.wrap (a:Int)=a:=j6 (by omega);have wb:IntKind.u64.wrap (b:Int)=b:=j6 (by omega);have wc:IntKind.u64.wrap (c:Int)=c:=j6 (by omega);simp[XD,wa,wb,wc,-Int.natCast_ediv,-Int.natCast_emod,-Int.natCast_mul];refine⟨_,afp a b (by omega) (by omega),?_⟩;have BV:=Ai (a*b) 18446744073709551616;have pP:a*b%18446744073709551616<18446744073709551616:=qI _ (by decide);generalize B0:a*b/18446744073709551616=hi at*;generalize aF2:a*b%18446744073709551616=lo at*;by_cases h1:c<=hi
 .have cA:(c:Int)<=(hi:Int):=by omega
  have acL:18446744073709551616<=a*b/c:=by
   rw[O7 hc];have:=Nat.mul_le_mul_left 18446744073709551616 h1;omega
  have de:1099511627776<a*b/c:=by omega
  simp[h1,de]
 .have cA:¬(c:Int)<=(hi:Int):=by omega
  have hd:=amv hi lo c hc (by omega) pP (by omega);have e:hi*18446744073709551616+lo=a*b:=by omega
  rw[e] at hd;have gx:a*b%c<c:=qI _ hc;simp[h1,-Int.natCast_ediv,-Int.natCast_emod,-Int.natCast_mul];refine⟨_,hd,?_⟩;generalize a*b/c=q at*;generalize a*b%c=r at*;by_cases h2:1099511627776<q
  .have gS:(1099511627776:Int)<(q:Int):=by omega
   simp[h2,gS]
  .have gS:¬(1099511627776:Int)<(q:Int):=by omega
   have hw:i64.wrap (q:Int)=q:=aQ (by omega);have da:i64.wrap (r:Int)=r:=aQ (by omega);simp[h2,gS,hw,da]
def alo (n:Nat):((n:Int)+359999)/360000=((n/360000:Nat):Int)+if 0<n%360000 then 1 else 0:=by
 split<;>omega
def aj4 (w pm d:Int):ah T 14 [.int w,.int pm,.int d] (.tup [.int (pD w pm d).1,.int (pD w pm d).2]):=by
 refine zyw 110 ayv ?_;simp[XC];refine⟨_,ZL _ _,?_⟩;cases h1:wi w 0 1099511627776
 .simp[pD,h1]
 simp;refine⟨_,ZL _ _,?_⟩;cases h2:wi pm 0 1000
 .simp[pD,h1,h2]
 simp;refine⟨_,ZL _ _,?_⟩;cases h3:wi d 0 20000
 .simp[pD,h1,h2,h3]
 simp[wi] at h1 h2 h3;obtain⟨a,rfl⟩:=qF h1.1;obtain⟨b,rfl⟩:=qF h2.1;obtain⟨c,rfl⟩:=qF h3.1;have Rw:b*c<=20000000:=gk (DR (show b<=1000 by omega) (show c<=20000 by omega)) (by decide);have hw:i64.wrap ((b:Int)*(c:Int))=((b*c:Nat):Int):=by rw[<-Int.natCast_mul];exact aQ (by omega)
 have hp:=avj a (b*c) 360000 (by omega) (by omega) (by decide) (by decide);have hdF:pD a b c=if qf a ((b*c:Nat):Int)<=(a:Int) then(qf a ((b*c:Nat):Int),0) else(0,3):=by
  unfold pD;rw[if_pos ⟨by simp[wi];omega,by simp[wi];omega,by simp[wi];omega⟩,Int.natCast_mul]
 have iZ:qf a ((b*c:Nat):Int)=((a*(b*c)/360000:Nat):Int)+if 0<a*(b*c)%360000 then 1 else 0:=by
  unfold qf;rw[<-Int.natCast_mul,alo]
 rw[hdF,iZ];generalize a*(b*c)/360000=q at*;generalize a*(b*c)%360000=r at*;simp[hw];refine⟨_,hp,?_⟩;by_cases hq:1099511627776<q
 .have:¬((q:Int)+(if 0<r then 1 else 0)<=(a:Int)):=by split<;>omega
  rw[if_pos hq];simp[this]
 .rw[if_neg hq];by_cases hr:0<r
  .have oC:(0:Int)<(r:Int):=by omega
   have da:i64.wrap ((q:Int)+1)=(q:Int)+1:=aQ (by omega);by_cases hle:(q:Int)+1<=(a:Int)
   .have oy:¬((a:Int)<(q:Int)+1):=by omega
    simp[hr,oC,da,hle,oy]
   .have oy:(a:Int)<(q:Int)+1:=by omega
    simp[hr,oC,da,hle,oy]
  .have oC:¬(0:Int)<(r:Int):=by omega
   by_cases hle:(q:Int)<=(a:Int)
   .have oy:¬((a:Int)<(q:Int)):=by omega
    have iw:¬(a<q):=by omega
    simp[hr,oC,hle,oy,iw]
    try omega
   .have oy:(a:Int)<(q:Int):=by omega
    have iw:a<q:=by omega
    simp[hr,oC,hle,oy,iw]
    try omega
def dZ (r:Realm)(forum:Int)(f:File)(day:Int):List Effect:=(uo r forum f day).filter Tg
def amo (l:List Effect)(h:l.length<=4294967296):ah T 56 [oa l,.clo 57 []] (oa (l.filter Tg)):=by
 refine .of_ext (g:=λ_ ds=>KH ds) rfl ⟨0,λ_ _=>?_⟩;show(if 57=57/\(l.map jL).length<=4294967296 then some (D.list ((l.map jL).filter gY)) else none)=_;rw[if_pos ⟨rfl,by simpa using h⟩,List.filter_map];rfl
def abO (r:Realm)(forum:Int)(f:File)(day:Int):(uo r forum f day).length<=f.signs.length:=by
 unfold uo;rw[ei,aal];exact(O5 _).length_le
def aeN (r:Realm)(hr:Right r)(hd:RightD r)(forum:Int)(f:File)(day:Int)(hf:FewS f):ah T 27 [aP r,.int forum,ct f,.int day] (oa (dZ r forum f day)):=by
 refine zyw 14 ayY ?_;simp[X0];have hl:=abO r forum f day;have:=hf.signs;refine⟨_,aj6 r hr hd forum f day hf,?_⟩;exact amo _ (by omega)
def S7 (r:Realm)(forum:Int):ah T 26 [aP r,.int forum] (.bool (decide (0<=forum/\forum<r.orders.length))):=by
 refine zyw 13 ayW ?_;simp[XZ];by_cases h:0<=forum<;>simp[h]
def S5 (l:List Int):(l.map D.int).map D.i=l:=by rw[lW];exact xA _
def axm (l:List Int)(h:l.length<=4294967296):ah T 63 [.none,ints l] (.tup [.tup [],ints (lK l)]):=by
 refine .of_ext (g:=λ_ ds=>Io ds) rfl ⟨0,λ_ _=>?_⟩;show(if(l.map D.int).length<=4294967296 then some (D.tup [.tup [],ints (lK ((l.map D.int).map D.i))]) else none)=_;rw[S5,if_pos (by simpa using h)]
def al4 (l:List Int)(h:l.length<=4294967296):ah T 64 [ints l] (ints (ki l)):=by
 refine .of_ext (g:=λ_ ds=>KF ds) rfl ⟨0,λ_ _=>?_⟩;show(if(l.map D.int).length<=4294967296 then some (ints (ki ((l.map D.int).map D.i))) else none)=_;rw[S5,if_pos (by simpa using h)]
def alP (l:List Int)(h:l.length<=4294967296):ah T 60 [ints l] (ints l):=by
 refine .of_ext (g:=λ_ ds=>KB ds) rfl ⟨0,λ_ _=>?_⟩;show(if(l.map D.int).length<=4294967296 then some (D.list (l.map D.int)) else none)=_;rw[if_pos (by simpa using h)];rfl
def z8 (r:Realm)(l:List Effect):Prop:=∀e,e∈l->0<=e.firm/\e.firm<r.firms.length
def sP (r:Realm)(l:List Effect)(s:Int):List Int:=(l.filter λe=>decide (s<=e.sum)).map (pI r)
def apg (r:Realm)(l:List Effect)(e:Effect)(s:Int):sP r (l++[e]) s=sP r l s++if s<=e.sum then[pI r e] else[]:=by
 unfold sP;rw[OX,nH]
 congr 1
 by_cases h:s<=e.sum<;>simp[List.filter,h]
def aci (r:Realm)(l:List Effect)(s:Int):(sP r l s).length<=l.length:=by
 unfold sP;rw[ei];exact pg _ _
def acg (r:Realm)(l:List Effect)(s:Int)(hf:z8 r l)(hl:l.length<=1000):ah T 31 [aP r,oa l,.int s] (ints (eW r l s)):=by
 refine zyw 108 ayV ?_;simp[XY];refine aL.forRounds l.length (λk=>[.none,.int k]) (λk=>[ints (sP r (l.take k) s)]) ?_ (λk hk=>?_) ?_
 .simp[sP,ints]
 .have hw:=bt hk (by omega);obtain⟨f1,f2⟩:=hf _ (bV hk);rw[iQ hk,apg];have Fx:=aci r (l.take k) s;rw[dQ] at Fx;generalize sP r (l.take k) s=G at*;simp[aiy,NF,hk,hw];generalize l[k]=e at*;have af:e.firm.toNat<r.firms.length:=by omega
  have hg:pI r e=r.firms[e.firm.toNat].group:=by unfold pI;simp[af]
  by_cases h:s<=e.sum
  .simp[h,hg,f1,f2,af];exact⟨by omega,by simp[ints]⟩
  .simp[h]
 .rw[DN];have Fx:=aci r l s;have hG:eW r l s=ki (lK (sP r l s)):=rfl;rw[hG];generalize sP r l s=G at*;have hs:=axm G (by omega);have hc:=al4 (lK G) (by rw[LX];omega);simp[aiy,NF];refine⟨_,hs,?_⟩;simp;exact hc
def DE (r:Realm)(gs:List Int):Prop:=∀g,g∈gs->0<=g/\g<r.groups.length
def xt (r:Realm):Prop:=∀g,g∈r.groups->0<=g.grade/\g.grade<10
def xt.at {r:Realm}(h:xt r){g:Int}(h0:0<=g)(h1:g<r.groups.length):0<=cE r g/\cE r g<10:=by
 have af:g.toNat<r.groups.length:=by omega
 unfold cE;rw[aF,aW af];exact h _ (bV af)
def Rg (r:Realm)(g:Int)(h0:0<=g)(h1:g<r.groups.length):dT (aP r) (.int g)=cE r g:=by
 have af:g.toNat<r.groups.length:=by omega
 unfold dT cE;show((((groups r.groups).l.getD g.toNat .none).c 0).i:Int)=_;rw[show(groups r.groups).l=r.groups.map sM from rfl,aF,cf,aW af,aF,aW af];rfl
def qP (r:Realm)(gs:List Int):List Int:=(gK (dT (aP r)) (gs.map D.int)).map D.i
def Qh (r:Realm)(gs:List Int):(qP r gs).Perm gs:=by
 have:=(sm (dT (aP r)) (gs.map D.int)).map D.i
 rwa [S5] at this
def ala (r:Realm)(gs:List Int):D.list (gK (dT (aP r)) (gs.map D.int))=ints (qP r gs):=by
 unfold qP ints;rw[lW]
 congr 1
 conv=>lhs;rw[<-xA (gK (dT (aP r)) (gs.map D.int))]
 refine qH λx hx=>?_;obtain⟨g,_,rfl⟩:=bZ.1 ((sm _ _).mem_iff.1 hx);rfl
def alb (r:Realm){gs:List Int}(h:DE r gs):((qP r gs).map (cE r)).Pairwise (·<=·):=by
 unfold qP;rw[lW,DM];refine(ajg (dT (aP r)) (gs.map D.int)).imp_of_mem λ{a b} ha hb rl=>?_;obtain⟨x,hx,rfl⟩:=bZ.1 ((sm _ _).mem_iff.1 ha);obtain⟨y,hy,rfl⟩:=bZ.1 ((sm _ _).mem_iff.1 hb);rw[Rg r x (h x hx).1 (h x hx).2,Rg r y (h y hy).1 (h y hy).2] at rl;exact rl
def axl (r:Realm)(gs:List Int)(hg:DE r gs)(hr:xt r)(hl:gs.length<=4294967296):ah T 61 [.none,.clo 62 [.ref (aP r)],ints gs] (.tup [.tup [],ints (qP r gs)]):=by
 have aK:(gs.map D.int).all (zd (aP r))=true:=by
  rw[cP];intro x hx;obtain⟨g,uK,rfl⟩:=bZ.1 hx;obtain⟨h0,h1⟩:=hg g uK;have h2:=hr.at h0 h1;have e:((aP r).c 2).l.length=r.groups.length:=by show(r.groups.map sM).length=_;simp
  simp only[zd,ao,decide_eq_true_eq,Rg r g h0 h1,e];have e2:(D.int g).i=g:=rfl;rw[e2];exact⟨⟨h0,by omega⟩,by omega⟩
 refine .of_ext (g:=λ_ ds=>Oa ds) rfl ⟨0,λ_ _=>?_⟩;show(if 62=62/\(gs.map D.int).length<=4294967296/\(gs.map D.int).all (zd (aP r))=true then some (D.tup [.tup [],.list (gK (dT (aP r)) (gs.map D.int))]) else none)=_;rw[if_pos ⟨rfl,by simpa using hl,aK⟩,ala]
def alz (r:Realm)(gs:List Int)(ps:List Ratio):qQ ps (fB ((qP r gs).map (cE r))) 10=py r gs ps:=by
 unfold py;have e:fB ((qP r gs).map (cE r))=fB (gs.map (cE r)):=by
  funext g;exact abl ((Qh r gs).map _) g
 rw[e]
def ab9 {ps:List Ratio}(hq:pq ps):∀(l:List Int),(∀x,x∈l->0<=x/\x<10)->∀n:Int,0<=n/\n<=1000000000->0<=l.foldl (λn x=>lU n (ps.getD x.toNat default)) n/\l.foldl (λn x=>lU n (ps.getD x.toNat default)) n<=1000000000
 |[],_,n,h=>h
 |x::l,hx,n,h=>by
  have hp:=hq.at (g:=x.toNat) (by have:=hx x (by simp);omega);exact ab9 hq l (λy hy=>hx y (by simp[hy])) _ ⟨Oe hp h.1,OT (WL hp h.1) h.2⟩
def abg (r:Realm)(gs:List Int)(q:Quote)(hg:DE r gs)(hr:xt r)(hq:pq q.fails)(hl:gs.length<=1000000):ah T 30 [aP r,ints gs,lu q] (.int (py r gs q.fails)):=by
 refine zyw 9 ayU ?_;simp[XX];refine⟨_,alP gs (by omega),?_⟩;refine⟨_,axl r gs hg hr (by omega),?_⟩;have Fi:(qP r gs).length=gs.length:=(Qh r gs).length_eq;have BR:DE r (qP r gs):=λg h=>hg g ((Qh r gs).mem_iff.1 h)
 have kr:=aoV q.fails (alb r hg) (λx hx=>by
  obtain⟨g,uK,rfl⟩:=bZ.1 hx;exact hr.at (BR g uK).1 (BR g uK).2)
 rw[alz,aah] at kr;rw[<-kr];generalize qP r gs=L at*
 have yK:∀k,0<=(L.take k).foldl (λn g=>lU n (q.fails.getD (cE r g).toNat default)) 1000000000/\(L.take k).foldl (λn g=>lU n (q.fails.getD (cE r g).toNat default)) 1000000000<=1000000000:=λk=>by
  have:=ab9 hq ((L.take k).map (cE r)) (λx hx=>by
   obtain⟨g,uK,rfl⟩:=bZ.1 hx;exact hr.at (BR g (aan uK)).1 (BR g (aan uK)).2) 1000000000 (by omega)
  rw[aah] at this;exact this
 simp;refine aL.forRounds L.length (λk=>[.int ((L.take k).foldl (λn g=>lU n (q.fails.getD (cE r g).toNat default)) 1000000000),.int k]) (λ_=>[]) ?_ (λk hk=>?_) ?_
 .simp
 .have hw:=bt hk (by omega);obtain⟨g0,g1⟩:=BR _ (bV hk);have rv:=hr.at g0 g1;have hn:=yK k;rw[iQ hk,tY];simp only[xy,List.foldl_nil];generalize (L.take k).foldl (λn g=>lU n (q.fails.getD (cE r g).toNat default)) 1000000000=n at*;simp[aix,ND,hk,hw];generalize L[k]=g at*;have af:g.toNat<r.groups.length:=by omega
  have hga:cE r g=r.groups[g.toNat].grade:=by unfold cE;simp[af]
  have aFX:q.fails.length=10:=hq.1;have ado:(cE r g).toNat<q.fails.length:=by omega
  have hp:=hq.at (g:=(cE r g).toNat) (by omega);have oA:q.fails.getD (cE r g).toNat default=q.fails[(cE r g).toNat]:=by simp[ado]
  rw[oA] at hp;have gT:(((Option.map sM r.groups[g.toNat]?).getD D.none).c 0).i=cE r g:=by rw[hga];simp[af]
  rw[gT];simp only[aW ado,kM,kL];generalize q.fails[(cE r g).toNat]=p at*;obtain⟨p1,p2,p3,p4⟩:=hp;have m1:n*p.num<=1000000000*1073741824:=aaa (by omega) (by omega) (by omega) (by omega);have m0:0<=n*p.num:=DF hn.1 p3;have hs:=Oe ⟨p1,p2,p3,p4⟩ hn.1;have dX:=WL ⟨p1,p2,p3,p4⟩ hn.1;refine⟨⟨g0,g1⟩,⟨rv.1,by omega⟩,?_,?_⟩
  .simp;omega
  .simp;rw[aQ (n:=n*p.num) (by omega),aQ (n:=n*p.num+p.den) (by omega),aQ (n:=n*p.num+p.den-1) (by omega),DG (by omega)];exact aQ (by unfold lU at hs dX;omega)
 .simp[aix,ND]
def QN (d:D):Effect:=⟨(d.c 0).i,(d.c 1).i,(d.c 2).i,(d.c 3).i,(d.c 4).i,(d.c 5).i,(d.c 6).b⟩
def px (l:List Effect):List Effect:=(gK gL (l.map jL)).map QN
def alc (l:List Effect):D.list (gK gL (l.map jL))=oa (px l):=by
 unfold px oa;rw[lW]
 congr 1
 conv=>lhs;rw[<-xA (gK gL (l.map jL))]
 refine qH λx hx=>?_;obtain⟨g,_,rfl⟩:=bZ.1 ((sm _ _).mem_iff.1 hx);rfl
def ald (l:List Effect):(px l).Perm l:=by
 have:=(sm gL (l.map jL)).map QN;rw[lW] at this;have e:l.map (QN∘jL)=l:=xA _
 rwa [e] at this
def aa4 (l:List Effect):(px l).Pairwise λa b=>a.sum<=b.sum:=by
 unfold px;rw[DM];refine(ajg gL (l.map jL)).imp_of_mem λ{a b} ha hb rl=>?_;exact rl
def aaz (l:List Effect):Prop:=∀e,e∈l->0<=e.sum/\e.sum<=1099511627776
def axj (l:List Effect)(hs:aaz l)(hl:l.length<=4294967296):ah T 28 [.none,.clo 29 [],oa l] (.tup [.tup [],oa (px l)]):=by
 have aK:(l.map jL).all CB=true:=by
  rw[cP];intro x hx;obtain⟨e,he,rfl⟩:=bZ.1 hx;have:=hs e he;simp only[CB,ao,decide_eq_true_eq];exact this
 refine .of_ext (g:=λ_ ds=>N9 ds) rfl ⟨0,λ_ _=>?_⟩;show(if 29=29/\(l.map jL).length<=4294967296/\(l.map jL).all CB=true then some (D.tup [.tup [],.list (gK gL (l.map jL))]) else none)=_;rw[if_pos ⟨rfl,by simpa using hl,aK⟩,alc]
def II (r:Realm):Prop:=∀f,f∈r.firms->0<=f.group/\f.group<r.groups.length
def apb {r:Realm}(RK:II r){l:List Effect}(hf:z8 r l)(s:Int):DE r (eW r l s):=by
 intro g hg;obtain⟨e,he,_,rfl⟩:=uz.1 hg;obtain⟨h0,h1⟩:=hf e he;have af:e.firm.toNat<r.firms.length:=by omega
 unfold pI;rw[aF,aW af];exact RK _ (bV af)
def ao8 (r:Realm)(l:List Effect)(s:Int):(eW r l s).length<=l.length:=by
 unfold eW;refine gk (abw _ _) ?_;rw[LX,ei];exact pg _ _
structure PayOK (r:Realm) (l:List Effect):Prop where
 firms:z8 r l
 sums:aaz l
 fg:II r
 gr:xt r
 len:l.length<=1000
def aAG {r:Realm}{l:List Effect}{ps:List Ratio}(hq:pq ps):j5 r l ps<=1099511627776:=by
 unfold j5;have:=WQ (f:=eA r l ps) (c:=1000000000) 1099511627776 λs _ _=>(zm hq l s).2;generalize gM (eA r l ps) 1099511627776=S at*;omega
def p7 (r:Realm)(forum:Int):Prop:=0<=forum/\forum<r.orders.length
instance (r:Realm) (forum:Int):Decidable (p7 r forum):=by unfold p7;exact inferInstance
def kH (r:Realm)(forum:Int)(f:File)(day:Int)(q:Quote):Int×Int:=
 if jD q≠0\/¬p7 r forum then(0,1) else(j5 r (dZ r forum f day) q.fails,0)
def IV (r:Realm)(hr:Right r)(hd:RightD r)(forum:Int)(f:File)(day:Int)(hf:FewS f)(q:Quote)(uO:q.fails.length<=4294967296)(hp:PayOK r (dZ r forum f day)):
 ah T 10 [aP r,.int forum,ct f,.int day,lu q] (.tup [.int (kH r forum f day q).1,.int (kH r forum f day q).2]):=by
 refine zyw 12 ayS ?_;simp[XW];refine⟨_,OO q uO,?_⟩;by_cases hq:jD q=0
 case neg=>
  simp[hq,kH]
  try exact⟨_,S7 r forum⟩
 simp[hq];refine⟨_,S7 r forum,?_⟩;by_cases ho:0<=forum/\forum<r.orders.length
 case neg=>
  have:¬p7 r forum:=ho;simp[hq,ho,kH,this]
 have iY:p7 r forum:=ho;obtain⟨_,_,hQ⟩:=Vj hq;simp[ho];refine⟨_,aeN r hr hd forum f day hf,?_⟩;have hwE:kH r forum f day q=(j5 r (dZ r forum f day) q.fails,0):=by
  unfold kH;rw[if_neg (by simp[hq,iY])]
 rw[hwE];generalize dZ r forum f day=l at*;simp;refine⟨_,axj l hp.sums (by have:=hp.len;omega),?_⟩;have yH:=ald l;have kr:=ajJ (r:=r) (l:=l) (l':=px l) hQ (λe=>yH.mem_iff) (aa4 l) hp.sums
 have hinv:=λk hk=>Q8 (pay:=eA r l q.fails) (λs=>(zm hQ l s).1) (L:=(px l).map (·.sum)) (λs x vW h=>ahr r l q.fails s x vW λy hy=>by
  obtain⟨e,he,rfl⟩:=bZ.1 hy
  exact h _ (Ag (yH.mem_iff.2 he))) (DM.2 (aa4 l)) (λx hx=>by
   obtain⟨e,he,rfl⟩:=bZ.1 hx;exact(hp.sums e (yH.mem_iff.1 he)).1) k hk
 have hlen:(px l).length=l.length:=yH.length_eq;have cW:∀e,e∈px l↔e∈l:=λe=>yH.mem_iff;have hfo:z8 r (px l):=λe he=>hp.firms e ((cW e).1 he);rw[<-kr];generalize px l=L at*;have aps:L.length<=1000:=by have:=hp.len;omega
 refine aL.forRounds L.length (λk=>[.int (iu (eA r l q.fails) ((L.take k).map (·.sum))).1,.int (iu (eA r l q.fails) ((L.take k).map (·.sum))).2.1,.int (iu (eA r l q.fails) ((L.take k).map (·.sum))).2.2,.int k]) (λ_=>[]) ?_ (λk hk=>?_) ?_
 .simp[iu]
 .have hw:=bt hk (by omega);obtain⟨i1,i2,i3⟩:=hinv k (by simp;omega);rw[<-List.map_take] at i1 i2 i3;have adT:=hp.sums _ ((cW _).1 (bV hk));rw[iQ hk,nH];have F5:iu (eA r l q.fails) ((L.take k).map (·.sum)++[L[k]].map (·.sum))=w6 (eA r l q.fails) (iu (eA r l q.fails) ((L.take k).map (·.sum))) L[k].sum:=by
   unfold iu;rw[tY];rfl
  rw[F5];have yG:=zm (r:=r) hQ l L[k].sum.toNat;have uF:(iu (eA r l q.fails) ((L.take k).map (·.sum))).2.2<=1099511627776:=by
   rcases i3 with e|e
   .rw[e];omega
   .obtain⟨x,hx,e2⟩:=bZ.1 e;have:=(hp.sums x ((cW x).1 hx)).2;omega
  have LO:=WQ (f:=eA r l q.fails) (c:=1000000000) (iu (eA r l q.fails) ((L.take k).map (·.sum))).2.2.toNat λs _ _=>(zm hQ l s).2;rw[<-i1.sum] at LO;have r0:=i1.r0;have r1:=i1.r1;have b0:=i1.b0;generalize iu (eA r l q.fails) ((L.take k).map (·.sum))=w at*;obtain⟨whole,rest,below⟩:=w;simp only at*;have rv:=acg r L L[k].sum hfo aps;have Fx:=ao8 r L L[k].sum;have kQ:=abg r (eW r L L[k].sum) q (apb hp.fg hfo _) hp.gr hQ (by omega);rw[ao9 cW] at rv kQ;simp[aiw,NC,hk,hw];generalize L[k]=e at*;have hsn:((e.sum.toNat:Nat):Int)=e.sum:=by omega
  have oA:eA r l q.fails e.sum.toNat=1000000000-py r (eW r l e.sum) q.fails:=by unfold eA;rw[hsn]
  rw[oA] at yG;unfold w6;by_cases hle:e.sum<=below
  .simp[hle]
  .rw[if_neg hle,oA];simp[hle];refine⟨_,rv,?_⟩;refine⟨_,kQ,?_⟩;generalize py r (eW r l e.sum) q.fails=ch at*;have wch:(D.int ch).i=ch:=rfl;rw[wch];generalize hpp:1000000000-ch=p at*;have wp:i64.wrap p=p:=aQ (by omega);have ww:i64.wrap (e.sum-below)=e.sum-below:=aQ (by omega);generalize hW:e.sum-below=W at*;have hW0:0<W/\W<=1099511627776:=by omega
   rw[wp,ww,DG (by omega),OU (by omega)];have q1:0<=W/1000000000/\W/1000000000<=1100:=by omega
   have m1:0<=W%1000000000/\W%1000000000<1000000000:=by omega
   generalize W/1000000000=A at*;generalize W%1000000000=B at*;have a1:0<=A*p:=DF q1.1 yG.1;have a2:A*p<=1100*1000000000:=aaa q1.2 yG.2 yG.1 (by omega);have b1:0<=B*p:=DF m1.1 yG.1;have b2:B*p<=1000000000*1000000000:=aaa (by omega) yG.2 yG.1 (by omega);have hwb:whole<=1099511627776:=by omega
   have mT:0<=whole:=by
        have h1:=WN (f:=λ_=>0) (g:=eA r l q.fails) below.toNat λs _ _=>(zm hQ l s).1;have h2:=WO (f:=λ_=>(0:Int)) (m:=0) (λ_ _=>rfl) (kg below.toNat);have h3:gM (λ_=>(0:Int)) 0=0:=rfl;rw[h2,h3] at h1;have h4:=i1.sum;have h1:0<=gM (eA r l q.fails) below.toNat:=h1;simp only at h4;omega
   rw[aQ (n:=A) (by omega)];generalize A*p=X at*;generalize B*p=Y at*;rw[aQ (n:=X) (by omega),aQ (n:=Y) (by omega),aQ (n:=Y+rest) (by omega),DG (by omega),OU (by omega),aQ (n:=whole+X) (by omega),aQ (n:=(Y+rest)/1000000000) (by omega),aQ (by omega)];exact⟨rfl,rfl⟩
 .simp[aiw,NC]
def ni (r:Realm)(forum:Int)(f:File)(day:Int)(q:Quote):Int×Int:=
 if(kH r forum f day q).2≠0 then(0,(kH r forum f day q).2) else ahx (kH r forum f day q).1 q.perMille (eJ r forum f day) day
def aAF (r:Realm)(forum:Int)(f:File)(day:Int)(q:Quote):kH r forum f day q=(0,1)\/(jD q=0/\p7 r forum/\kH r forum f day q=(j5 r (dZ r forum f day) q.fails,0)):=by
 unfold kH;by_cases h:jD q≠0\/¬p7 r forum
 .exact .inl (if_pos h)
 .refine .inr ⟨DC λe=>h (.inl e),DC λe=>h (.inr e),if_neg h⟩
def Pc (r:Realm)(hr:Right r)(hd:RightD r)(forum:Int)(f:File)(day:Int)(hf:FewS f)(q:Quote)(uO:q.fails.length<=4294967296)(hp:PayOK r (dZ r forum f day))(uG:aZ day)(hm:eJ r forum f day=-1\/(0<=eJ r forum f day/\eJ r forum f day<=100000/\0<=day)):
 ah T 9 [aP r,.int forum,ct f,.int day,lu q] (.tup [.int (ni r forum f day q).1,.int (ni r forum f day q).2]):=by
 refine zyw 109 ayQ ?_;simp[XV];refine⟨_,IV r hr hd forum f day hf q uO hp,?_⟩;rcases aAF r forum f day q with e|⟨hq,ho,e⟩
 .unfold ni;rw[e];simp
 obtain⟨p0,p1,hQ⟩:=Vj hq;unfold ni;rw[e];have mT:=aAI (r:=r) (l:=dZ r forum f day) hQ;have jc:=aAG (r:=r) (l:=dZ r forum f day) hQ;generalize j5 r (dZ r forum f day) q.fails=w at*;simp;refine⟨_,aaq r hr hd forum f day hf,?_⟩;generalize eJ r forum f day=due at*;unfold ahx;by_cases h1:due=-1
 .simp[h1]
 obtain⟨m0,m1,m2⟩:=hm.resolve_left h1;have ws:i64.wrap (due-day)=due-day:=aQ (by unfold aZ at uG;omega);rw[if_neg h1];by_cases h2:day<due/\20000<due-day
 .rw[if_pos h2];simp[h1,h2,ws]
 rw[if_neg h2];have gS:¬(day<due/\20000<due-day):=h2;simp[h1,gS,ws];have hmx:(if due-day<0 then D.int 0 else D.int (due-day))=D.int (max (due-day) 0):=by
  split
  .rw[show max (due-day) 0=0 by omega]
  .rw[show max (due-day) 0=due-day by omega]
 have hD:=aj4 w q.perMille (max (due-day) 0);have hn:=amu (w:=w) (pm:=q.perMille) (d:=max (due-day) 0) ⟨mT,jc⟩ ⟨p0,p1⟩ (by omega);have hnr:=aup (w:=w) (x:=q.perMille*max (due-day) 0) mT (DF p0 (by omega));rw[<-hn] at hnr ⊢;generalize pD w q.perMille (max (due-day) 0)=dd at*;rw[hmx];refine⟨_,hD,?_⟩;obtain⟨d1,d2⟩:=dd;by_cases dB:d2=0
 .simp[dB] at hnr ⊢;exact aQ (by omega)
 .simp[dB]
def aji (a b:Int):Prop:=a=2\/a=b
@[simp] def aHd:D.none.b=false:=zyz
def fb (n a b:Int):ah T 53 [.int n,.int a,.int b] (.bool (wi n a b)):=by
 refine zyw 144 ayJ ?_;simp[XQ];by_cases h:a<=n<;>simp[wi,h]
def oY (n m:Int):ah T 87 [.int n,.int m] (.bool (aC n m)):=by
 refine zyw 141 aAe ?_;simp[Zq];by_cases h:0<=n<;>simp[aC,h]
def Om (b:Bill):Bool:=
 if b.tenor.kind=0\/b.tenor.kind=4 then decide (b.tenor.n=0)&&decide (b.tenor.unit=0)
 else if b.tenor.kind=1\/b.tenor.kind=2 then(decide (1<=b.tenor.n)&&decide (b.tenor.n<=400))&&(decide (b.tenor.unit=0)||decide (b.tenor.unit=1))
 else if b.tenor.kind=3 then(decide (b.day<=b.tenor.n)&&decide (b.tenor.n<=100000))&&decide (b.tenor.unit=0)
 else false
def aAD (b:Bill):ah T 88 [dI b] (.bool (Om b)):=by
 refine zyw 142 aAf ?_;unfold Om;simp[Zr];by_cases h0:b.tenor.kind=0
 .by_cases h1:b.tenor.n=0<;>simp[h0,h1]
 by_cases h4:b.tenor.kind=4
 .by_cases h1:b.tenor.n=0<;>simp[h4,h1]
 simp[h0,h4];by_cases k1:b.tenor.kind=1
 .by_cases h1:1<=b.tenor.n<;>by_cases h2:b.tenor.n<=400<;>by_cases h3:b.tenor.unit=0<;>simp[k1,h1,h2,h3]
 by_cases k2:b.tenor.kind=2
 .by_cases h1:1<=b.tenor.n<;>by_cases h2:b.tenor.n<=400<;>by_cases h3:b.tenor.unit=0<;>simp[k2,h1,h2,h3]
 simp[k1,k2];by_cases k3:b.tenor.kind=3
 .by_cases h1:b.day<=b.tenor.n<;>by_cases h2:b.tenor.n<=100000<;>simp[k3,h1,h2]
 simp[k3]
def uW (n m:Int):Bool:=decide (n=-1)||aC n m
def zS (r:Realm)(b:Bill):Bool:=((aC b.drawer r.firms.length&&aC b.drawee r.firms.length)&&uW b.payee r.firms.length)&&uW b.need r.firms.length
def xl (r:Realm)(b:Bill):Bool:=(aC b.currency r.currencies.length&&aC b.city r.cities.length)&&aC b.pay r.cities.length
def zC (b:Bill):Prop:=((((1<=b.sum/\b.sum<=1099511627776)/\0<=b.day)/\b.day<=100000)/\0<=b.rate)/\b.rate<=1000
def Q9 (b:Bill):Prop:=((0<=b.flags/\b.flags<=7)/\(bW .and .i64 b.flags 4=0\/¬b.payee=-1))/\Om b=true
structure BillOK (r:Realm) (b:Bill):Prop where
 realm:dv r=0
 who:zS r b=true
 where_:xl r b=true
 range:zC b
 parts:1<=b.parts/\b.parts<=4
 form:Q9 b
 usance:b.tenor.kind=4->∃u,u∈r.usances/\u.fr=b.city/\u.to=b.pay
def qE (P:Prop)(d:D):Prop:=∃e:Int,d=.int e/\(e=0↔P)
def qE.no {P:Prop}{e:Int}(h:¬P)(he:e≠0):qE P (.int e):=⟨e,rfl,λx=>absurd x he,λx=>absurd x h⟩
def qE.ok {P:Prop}(h:P):qE P (.int 0):=⟨0,rfl,λ_=>h,λ_=>rfl⟩
def aAC (r:Realm)(hs:Small r)(b:Bill):∃d,ah T 51 [aP r,dI b] d/\qE (BillOK r b) d:=by
 refine ah.ex_of_tree rfl akQ aAd ?_;simp[Zp];refine⟨_,NU r hs,?_⟩;by_cases h0:dv r=0
 case neg=>
  simp[h0];exact .no (λh=>h0 h.realm) h0
 simp[h0];refine⟨_,oY _ _,?_⟩;cases h1:aC b.drawer r.firms.length
 .simp;exact .no (λh=>by simpa [zS,h1] using h.who) (by decide)
 simp;refine⟨_,oY _ _,?_⟩;cases h2:aC b.drawee r.firms.length
 .simp;exact .no (λh=>by simpa [zS,h2] using h.who) (by decide)
 by_cases h3:uW b.payee r.firms.length=true
 case neg=>
  have fE:¬b.payee=-1/\aC b.payee r.firms.length=false:=by simpa [uW] using h3
  simp[fE.1];refine⟨_,oY _ _,?_⟩;simp[fE.2];exact .no (λh=>h3 (by have:=h.who;simp[zS] at this;exact this.1.2)) (by decide)
 by_cases h4:uW b.need r.firms.length=true
 case neg=>
  have om:¬b.need=-1/\aC b.need r.firms.length=false:=by simpa [uW] using h4
  have fI:qE (BillOK r b) (.int 1):=.no (λh=>h4 (by have:=h.who;simp[zS] at this;exact this.2)) (by decide);by_cases hp:b.payee=-1
  .simp[hp,om.1];refine⟨_,oY _ _,?_⟩;simp[om.2];exact fI
  .have fE:aC b.payee r.firms.length=true:=by simpa [uW,hp] using h3
   simp[hp];refine⟨_,oY _ _,?_⟩;simp[fE,om.1];refine⟨_,oY _ _,?_⟩;simp[om.2];exact fI
 have LP:zS r b=true:=by simp[zS,h1,h2,h3,h4]
 have hp:b.payee=-1\/(¬b.payee=-1/\aC b.payee r.firms.length=true):=by
  by_cases e:b.payee=-1
  .exact .inl e
  .exact .inr ⟨e,by simpa [uW,e] using h3⟩
 have hn:b.need=-1\/(¬b.need=-1/\aC b.need r.firms.length=true):=by
  by_cases e:b.need=-1
  .exact .inl e
  .exact .inr ⟨e,by simpa [uW,e] using h4⟩
 have bad:¬xl r b=true->qE (BillOK r b) (.int 1):=λh=>.no (λk=>h k.where_) (by decide);have fin:∀u:Int,(u=0↔∃u,u∈r.usances/\u.fr=b.city/\u.to=b.pay)->zC b->(1<=b.parts/\b.parts<=4)->Q9 b->xl r b=true->qE (BillOK r b) (if b.tenor.kind=4 then .int u else .int 0):=by
  intro u hu h6 h7 h8 h9;by_cases e:b.tenor.kind=4
  .rw[if_pos e];exact⟨u,rfl,λh=>⟨h0,LP,h9,h6,h7,h8,λ_=>hu.1 h⟩,λh=>hu.2 (h.usance e)⟩
  .rw[if_neg e];exact .ok ⟨h0,LP,h9,h6,h7,h8,λh=>absurd h e⟩
 obtain⟨un,ue,hu1,_,hu2⟩:=aaB r b.city b.pay (by have:=hs.us;omega);rcases hp with hp|⟨hp,eP⟩<;>rcases hn with hn|⟨hn,rA⟩
 case' inl.inl=>simp[hp,hn]
 case' inl.inr=>simp[hp,hn];refine⟨_,oY _ _,?_⟩;simp[rA]
 case' inr.inl=>simp[hp,hn];refine⟨_,oY _ _,?_⟩;simp[eP]
 case' inr.inr=>simp[hp,hn];refine⟨_,oY _ _,?_⟩;simp[eP];refine⟨_,oY _ _,?_⟩;simp[rA]
 all_goals
  refine⟨_,oY _ _,?_⟩;cases h5:aC b.currency r.currencies.length
  .simp;exact bad (by simp[xl,h5])
  simp;refine⟨_,oY _ _,?_⟩;cases h6:aC b.city r.cities.length
  .simp;exact bad (by simp[xl,h6])
  simp;refine⟨_,oY _ _,?_⟩;cases h7:aC b.pay r.cities.length
  .simp;exact bad (by simp[xl,h7])
  have Gb:xl r b=true:=by simp[xl,h5,h6,h7]
  simp;by_cases h8:zC b
  case neg=>
   have Rk:((((b.sum<1\/1099511627776<b.sum)\/b.day<0)\/100000<b.day)\/b.rate<0)\/1000<b.rate:=by unfold zC at h8;omega
   rw[if_pos Rk];exact .no (λk=>h8 k.range) (by decide)
  have Rk:¬(((((b.sum<1\/1099511627776<b.sum)\/b.day<0)\/100000<b.day)\/b.rate<0)\/1000<b.rate):=by unfold zC at h8;omega
  rw[if_neg Rk];by_cases h9:1<=b.parts/\b.parts<=4
  case neg=>
   rw[if_pos (by omega)];exact .no (λk=>h9 k.parts) (by decide)
  rw[if_neg (by omega)];have Pp:¬Q9 b->qE (BillOK r b) (.int 2):=λh=>.no (λk=>h k.form) (by decide);by_cases g1:0<=b.flags/\b.flags<=7
  case neg=>
   have fD:b.flags<0\/7<b.flags:=by omega
   simp[g1,fD];exact Pp (λh=>g1 h.1.1)
  have fD:¬(b.flags<0\/7<b.flags):=by omega
  by_cases g2:bW .and .i64 b.flags 4=0\/¬b.payee=-1
  case neg=>
   have pH:¬bW .and .i64 b.flags 4=0/\b.payee=-1:=by simpa using g2
   first
        |exact absurd pH.2 hp
        |(simp[g1,fD,pH]
          exact Pp (λh=>g2 h.1.2))
  have g3:(b.payee=-1->bW .and .i64 b.flags 4=0):=λe=>g2.resolve_right (λh=>h e);simp[g1,fD,hp,g3];refine⟨_,aAD b,?_⟩;cases jr:Om b
  .simp;exact Pp (λh=>by have:=h.2;rw[jr] at this;cases this)
  have hf:=fin ue hu2 h8 h9 ⟨⟨g1,g2⟩,jr⟩ Gb;simp;by_cases e:b.tenor.kind=4
  .simp[e] at hf ⊢;exact⟨_,hu1,hf⟩
  .simp[e] at hf ⊢;exact hf
end Rm
