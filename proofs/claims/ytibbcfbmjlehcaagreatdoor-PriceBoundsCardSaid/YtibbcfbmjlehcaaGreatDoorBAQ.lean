/-
  Shared texts of this claim.
-/
import Derived.Test.YtibbcfbmjlehcaaGreatDoorBAP
import Derived.Test.YtibbcfbmjlehcaaGreatDoorBAK
import Derived.Test.YtibbcfbmjlehcaaGreatDoorBAJ
import Derived.Test.YtibbcfbmjlehcaaGreatDoorBAO
set_option linter.defProp false
set_option linter.unusedSimpArgs false
set_option linter.unusedVariables false
noncomputable section
open Go.IntKind (i64)
namespace Rm
open Go Go.Proofs Cx
def abp (R Y:Int)(hR:0<=R/\R<146097)(h1:365*Y<=R-R/1460+R/36524-R/146096)(h2:R-R/1460+R/36524-R/146096<365*Y+365):0<=R-(365*Y+Y/4-Y/100)/\R-(365*Y+Y/4-Y/100)<=500:=by
 have k0:R/36524<=R/1460:=by omega
 have k1:Y/4<=R/1460:=by omega
 have hY:0<=Y:=by omega
 have hc:R/36524=0\/R/36524=1\/R/36524=2\/R/36524=3\/R/36524=4:=by omega
 have k2:25*(R/36524)<=R/1460:=by omega
 refine⟨?_,?_⟩
 .rcases Int.lt_or_le Y (100*(R/36524)) with hy|hy
  .have k3:Y/4<=25*(R/36524)-1:=by omega
   have k4:R/36524-1<=Y/100:=by omega
   omega
  .have k3:R/36524<=Y/100:=by omega
   omega
 .omega
def abq (n:Int)(h:0<=n/\n<=100400):ah T 185 [.int n] (.tup [.int (fq n).1,.int (fq n).2.1,.int (fq n).2.2]):=by
 refine zyw 89 ax8 ?_;have w:∀x:Int,-1000000000<=x->x<=1000000000->i64.wrap x=x:=λx a b=>aO (by omega);have t:∀x y:Int,0<=x->x.tdiv y=x/y:=λx y hx=>DJ hx;have u:∀x y:Int,0<=x->x.tmod y=x%y:=λx y hx=>O5 hx;simp[Xq];unfold fq;simp only[];rw[w (n+730425) (by omega) (by omega),u (n+730425) 146097 (by omega),t (n+730425) 146097 (by omega)];have hR:0<=(n+730425)%146097/\(n+730425)%146097<146097:=by omega
 have hE:0<=(n+730425)/146097/\(n+730425)/146097<100:=by omega
 generalize (n+730425)%146097=R at*;generalize (n+730425)/146097=e at*;rw[t R 1460 (by omega),t R 36524 (by omega),t R 146096 (by omega),w (R/1460) (by omega) (by omega),w (R-R/1460) (by omega) (by omega),w (R/36524) (by omega) (by omega),w (R-R/1460+R/36524) (by omega) (by omega),w (R/146096) (by omega) (by omega),w (R-R/1460+R/36524-R/146096) (by omega) (by omega),t (R-R/1460+R/36524-R/146096) 365 (by omega)];have hY:0<=(R-R/1460+R/36524-R/146096)/365/\(R-R/1460+R/36524-R/146096)/365<400:=by omega
 have hD:0<=R-(365*((R-R/1460+R/36524-R/146096)/365)+(R-R/1460+R/36524-R/146096)/365/4-(R-R/1460+R/36524-R/146096)/365/100)/\R-(365*((R-R/1460+R/36524-R/146096)/365)+(R-R/1460+R/36524-R/146096)/365/4-(R-R/1460+R/36524-R/146096)/365/100)<=500:=by
  exact abp R _ hR (by omega) (by omega)
 generalize (R-R/1460+R/36524-R/146096)/365=Y at*;rw[w Y (by omega) (by omega),w (365*Y) (by omega) (by omega),t Y 4 (by omega),t Y 100 (by omega),w (Y/4) (by omega) (by omega),w (Y/100) (by omega) (by omega),w (365*Y+Y/4) (by omega) (by omega),w (365*Y+Y/4-Y/100) (by omega) (by omega),w (R-(365*Y+Y/4-Y/100)) (by omega) (by omega)];generalize R-(365*Y+Y/4-Y/100)=D at*;rw[w (5*D) (by omega) (by omega),w (5*D+2) (by omega) (by omega),t (5*D+2) 153 (by omega)];have hM:0<=(5*D+2)/153/\(5*D+2)/153<=20:=by omega
 generalize (5*D+2)/153=M at*;rw[w M (by omega) (by omega),w (M+3) (by omega) (by omega),w (M+3-12) (by omega) (by omega),w e (by omega) (by omega),w (400*e) (by omega) (by omega),w (Y+400*e) (by omega) (by omega),w (Y+400*e+1) (by omega) (by omega)];rw[w (153*M) (by omega) (by omega),w (153*M+2) (by omega) (by omega),t (153*M+2) 5 (by omega),w ((153*M+2)/5) (by omega) (by omega),w (D-(153*M+2)/5) (by omega) (by omega),w (D-(153*M+2)/5+1) (by omega) (by omega)];refine⟨?_,?_,rfl⟩
 .generalize (if 12<M+3 then M+3-12 else M+3)=m;split<;>rfl
 .split<;>rfl
def ajZ (d n:Int):∃x e:Int,ah T 164 [.int d,.int n] (.tup [.int x,.int e])/\(e=0->0<=x/\x<=100000):=by
 by_cases h0:eu d=true/\-5000<=n/\n<=5000
 .have hd:0<=d/\d<=100400:=by have:=h0.1;simp[eu] at this;omega
  obtain⟨A,hA⟩:∃A,A=i64.wrap (i64.wrap (i64.wrap (i64.wrap (12*(fq d).1)+(fq d).2.1)-1)+n):=⟨_,rfl⟩
  obtain⟨Y,hY⟩:∃Y,Y=i64.wrap (A.tdiv 12):=⟨_,rfl⟩
  obtain⟨M,hM⟩:∃M,M=i64.wrap (A.tmod 12+1):=⟨_,rfl⟩
  obtain⟨x,e,hD,hb⟩:=aj6 Y M (if Cp Y M<(fq d).2.2 then Cp Y M else(fq d).2.2);refine⟨x,e,.of_tree rfl aaV ajw ?_,hb⟩;have n1:¬n< -5000:=by omega
  have n2:¬5000<n:=by omega
  simp[OF,n1,n2];refine⟨_,Iz d,?_⟩;simp[h0.1];refine⟨_,abq d hd,?_⟩;simp[<-hA,<-hY,<-hM];refine⟨_,Mb Y M,?_⟩;by_cases hl:Cp Y M<(fq d).2.2
  .simp only[if_pos hl] at hD;simp[hl];refine⟨_,hD,?_⟩;simp
  .simp only[if_neg hl] at hD;simp[hl];refine⟨_,hD,?_⟩;simp
 .refine⟨0,3,.of_tree rfl aaV ajw ?_,by simp⟩;simp[OF];refine⟨_,Iz d,?_⟩;simp;intro a b c;exact absurd ⟨a,b,c⟩ h0
def RF (l:List Int)(x:Int):hasB l x=l.contains x:=by
 rw[tR];simp[hasB]
def Io (c:City):Prop:=c.rest.length<=100000/\c.feasts.length<=100000/\c.shut.length<=100000
def alO (n:Int)(h:0<=n/\n<=100400):(0<=(fq n).2.1/\(fq n).2.1<=30)/\-1000<=(fq n).2.2/\(fq n).2.2<=1000:=by
 unfold fq;simp only[];have hR:0<=(n+730425)%146097/\(n+730425)%146097<146097:=by omega
 generalize (n+730425)%146097=R at*;have hD:=abp R ((R-R/1460+R/36524-R/146096)/365) hR (by omega) (by omega);generalize (R-R/1460+R/36524-R/146096)/365=Y at*;generalize R-(365*Y+Y/4-Y/100)=D at*;have hM:0<=(5*D+2)/153/\(5*D+2)/153<=20:=by omega
 generalize (5*D+2)/153=M at*;refine⟨?_,by omega,by omega⟩;split<;>omega
def auX (c:City)(hc:Io c)(n:Int)(h:0<=n/\n<=100400):ah T 189 [gP c,.int n] (.bool (zl c.rest c.feasts c.shut n)):=by
 refine zyw 98 ayc ?_;simp[Xt];refine⟨_,abq n h,?_⟩;have w5:i64.wrap (n+5)=n+5:=aO (by omega);have m7:(n+5).tmod 7=(n+5)%7:=O5 (by omega);obtain⟨h1,h2,h3⟩:=hc;simp[w5,m7];refine⟨_,xo c.rest ((n+5)%7) (by omega),?_⟩;unfold zl;rw[<-RF];cases hr:hasB c.rest ((n+5)%7)
 .obtain⟨gq,db⟩:=alO n h;have wm:i64.wrap (100*(fq n).2.1)=100*(fq n).2.1:=aO (by omega);have wd:i64.wrap (100*(fq n).2.1+(fq n).2.2)=100*(fq n).2.1+(fq n).2.2:=aO (by omega);simp[hr,wm,wd];refine⟨_,xo c.feasts _ (by omega),?_⟩;have e1:=RF c.feasts (100*(fq n).2.1+(fq n).2.2);have e2:=RF c.shut n;simp at e1 e2;cases hf:hasB c.feasts (100*(fq n).2.1+(fq n).2.2)
  .simp[hf,<-e1,<-e2];exact⟨_,xo c.shut n (by omega),rfl⟩
  .simp[hf,<-e1]
 .simp[hr]
def eZ (c:City)(a:Int)(k:Nat):List Int:=((List.range k).map λ(i:Nat)=>a+i).filter (zl c.rest c.feasts c.shut)
def aby (c:City)(a:Int)(k:Nat):eZ c a (k+1)=eZ c a k++if zl c.rest c.feasts c.shut (a+k) then[a+k] else[]:=by
 unfold eZ;rw[Pf,pf,IN]
 congr 1
 cases h:zl c.rest c.feasts c.shut (a+k)<;>simp[h]
def amg (c:City)(a:Int){k n:Nat}(h:k<=n):∃r,eZ c a n=eZ c a k++r:=by
 induction n with
 |zero=>obtain rfl:k=0:=by omega
        exact⟨[],by simp⟩
 |succ n ih=>
  by_cases e:k=n+1
  .subst e;exact⟨[],by simp⟩
  .obtain⟨r,hr⟩:=ih (by omega);exact⟨r++_,by rw[aby,hr,sr]⟩
def sI (d:Int):D:=.tup [.int d]
def amh (c:City)(a b:Int):abA [.ref (.int a),.ref (.int b),.ref (gP c)]=(eZ c a (b-a+1).toNat).map sI:=by
 have hi:∀l:List Int,y2 (ints l)=l:=λl=>by
  show(l.map D.int).map D.i=l;rw[nF];exact xy l
 show(abz (y2 (ints c.rest)) (y2 (ints c.feasts)) (y2 (ints c.shut)) a b).map _=_;rw[hi,hi,hi];rfl
def ame (c:City)(hc:Io c)(a b:Int)(ha:0<=a)(hb:b<=100400)(rf:a<=100400):ah T 188 [.ref (.int a),.ref (.int b),.ref (gP c)] (.list ((eZ c a (b-a+1).toNat).map sI)):=by
 have vR:=amh c a b;rw[<-vR];obtain⟨N,hN⟩:∃N,N=(b-a+1).toNat:=⟨_,rfl⟩
 refine ah.of_it (pc:=(ab ui)) (J:=1000) (k:=1) rfl (λx hx=>?_) (λm hm=>?_)
 .rw[vR] at hx;obtain⟨i,_,rfl⟩:=cr.1 hx;exact⟨_,rfl,rfl⟩
 .rw[vR] at hm ⊢;rw[<-hN] at hm ⊢;refine OP ?_;rw[ax9];simp[Xs];refine aL.forLoop (α:=Nat) (λk vr vo=>k<=N/\vr=[.int (a+k)]/\vo=[.list ((eZ c a k).map sI)]/\(eZ c a k).length<=m) (λk=>N-k) 0 ?_ ?_
  .simp[anu,eZ]
  .rintro k vr vo ⟨hk,rfl,rfl,oq⟩;by_cases af:k<N
   .have hle:a+(k:Int)<=b:=by omega
    have jb:i64.wrap (a+(k:Int)+1)=a+((k+1:Nat):Int):=by rw[aO (by omega)];omega
    have eA:=(auX c hc (a+k) (by omega))
    have Ce:=aby c a k;obtain⟨r,hr⟩:=amg c a (k:=k+1) (n:=N) af;simp[aiq,NC,hle];refine⟨_,eA.yld (by decide),?_⟩;cases hi:zl c.rest c.feasts c.shut (a+k)
    .simp[hi] at Ce ⊢;exact⟨k+1,by omega,by omega,jb,by rw[Ce],by rw[Ce];exact oq⟩
    .simp[hi] at Ce ⊢;have hlen:(eZ c a (k+1)).length=(eZ c a k).length+1:=by rw[Ce];simp
     have uM:(eZ c a k).map sI++[D.tup [D.int (a+k)]]=(eZ c a (k+1)).map sI:=by rw[Ce,pf];rfl
     have F9:(eZ c a (k+1)).map sI=((eZ c a N).map sI).take ((eZ c a k).length+1):=by
      rw[hr,pf,List.take_append_of_le_length (by simp[hlen]),xD (by simp[hlen])]
     have aY:(eZ c a k).length<((eZ c a N).map sI).length:=by rw[hr];simp[hlen];omega
     rw[uM];refine⟨_,ah.answer F9 aY oq,?_⟩;by_cases yG:(eZ c a k).length<m
     .simp[yG];exact⟨k+1,by omega,by omega,jb,rfl,by omega⟩
     .obtain rfl:(eZ c a k).length=m:=by omega
      simp;rw[F9]
   .obtain rfl:k=N:=by omega
    have hle:¬a+(k:Int)<=b:=by omega
    simp[aiq,NC,hle];rw[xD (by simp;omega)]
def ami (c:City)(a b:Int):ah T 166 [gP c,.int a,.int b] (.clo 188 [.ref (.int a),.ref (.int b),.ref (gP c)]):=by
 refine zyw 97 aya ?_;simp[Xr]
def oa (d:Int):Int:=if 100000<d+400 then 100000 else d+400
def jz (c:City)(d:Int):Int×Int:=
 if eu d=false then(0,3) else match eZ c d (oa d-d+1).toNat with|[]=>(0,3)|x::_=>(x,0)
def amf {c:City}{a:Int}{k:Nat}{x:Int}(h:x∈eZ c a k):a<=x/\x<a+k:=by
 unfold eZ at h;obtain⟨h1,_⟩:=eH.mp h;obtain⟨i,hi,rfl⟩:=cr.mp h1;have:=fP.mp hi;omega
def afx {c:City}{d:Int}(h:(jz c d).2=0):eu d=true/\d<=(jz c d).1/\(jz c d).1<=100000:=by
 unfold jz at h ⊢;cases hd:eu d
 .simp[hd] at h
 .simp only[hd] at h ⊢;cases hk:eZ c d (oa d-d+1).toNat with
  |nil=>rw[hk] at h;simp at h
  |cons x l=>
   have hm:x∈eZ c d (oa d-d+1).toNat:=by rw[hk];simp
   have:=amf hm;have he:oa d<=100000:=by unfold oa;split<;>omega
   simp[eu] at hd;simp;unfold oa at*;omega
def akn (c:City)(hc:Io c)(d:Int):ah T 125 [gP c,.int d] (.tup [.int (jz c d).1,.int (jz c d).2]):=by
 refine zyw 96 ax7 ?_;simp[Xp];refine⟨_,Iz d,?_⟩;cases hd:eu d
 .simp[jz,hd]
 have gu:0<=d/\d<=100000:=by simpa [eu] using hd
 have hw:i64.wrap (d+400)=d+400:=aO (by omega);have he:oa d<=100000:=by unfold oa;split<;>omega
 simp[hd,hw];have hE:(if 100000<d+400 then D.int 100000 else D.int (d+400))=D.int (oa d):=by unfold oa;split<;>rfl
 rw[hE];refine⟨_,ami c d (oa d),_,_,rfl,_,ame c hc d (oa d) gu.1 (by omega) (by omega),?_⟩;cases hk:eZ c d (oa d-d+1).toNat with
 |nil=>
  have hn:jz c d=(0,3):=by unfold jz;simp[hd,hk]
  rw[hn];refine aL.eachR [] (by simp) (λ_ vo=>vo=[.agg [.int 0],.agg [.int 0]]) ?_ (λk x vo hx hi=>by simp at hx) (λvo hi=>?_)
  .simp
  .subst hi;simp
 |cons x l=>
  have hn:jz c d=(x,0):=by unfold jz;simp[hd,hk]
  rw[hn];refine aL.eachR ((x::l).map sI) (by simp) (λk vo=>k=0/\vo=[.agg [.int 0],.agg [.int 0]]) ?_ (λk y vo hx hi=>?_) (λvo hi=>?_)
  .simp
  .obtain⟨rfl,rfl⟩:=hi;simp at hx;subst hx;simp[awl,VG,sI];rfl
  .exact absurd hi.1 (by simp)
def Og (o:Int)(d:Int)(h:Halt):Int:=if(h.order=o/\h.fr<=d)/\d<=h.to then h.to+1 else d
def ns (r:Realm)(o d:Int)(k:Nat):Int:=(r.halts.take k).foldl (Og o) d
def ajh (r:Realm)(o d:Int){k:Nat}(hk:k<r.halts.length):ns r o d (k+1)=Og o (ns r o d k) r.halts[k]:=by
 unfold ns;rw[iP hk,tV];rfl
def xr (r:Realm):Prop:=r.halts.length<=100000/\∀h,h∈r.halts->0<=h.fr/\h.to<=100000
def WT {r:Realm}(hh:xr r)(o d:Int)(hd:d<=100001):∀k,k<=r.halts.length->d<=ns r o d k/\ns r o d k<=100001
 |0,_=>⟨by simp[ns],by simpa [ns] using hd⟩
 |k+1,hk=>by
  obtain⟨h1,h2⟩:=WT hh o d hd k (by omega);rw[ajh r o d (by omega)];have:=hh.2 _ (bS (show k<r.halts.length by omega));unfold Og;split<;>omega
def zP (r:Realm)(o:Int):Nat->Int->Int
 |0,d=>d
 |n+1,d=>if ns r o d r.halts.length=d then d else zP r o n (ns r o d r.halts.length)
def jZ (r:Realm)(o d:Int):Int:=zP r o (100002-d).toNat d
def WU {r:Realm}(hh:xr r)(o:Int):∀(n:Nat) (d:Int),d<=100001->d<=zP r o n d/\zP r o n d<=100001
 |0,d,hd=>⟨vi _,hd⟩
 |n+1,d,hd=>by
  obtain⟨h1,h2⟩:=WT hh o d hd r.halts.length (aX _);unfold zP;split
  .omega
  .have:=WU hh o n _ h2;omega
def axe (r:Realm)(hh:xr r)(o d:Int)(h0:0<=d)(hd:d<=100001):ah T 124 [aQ r,.int o,.int d] (.int (jZ r o d)):=by
 refine zyw 95 azU ?_;simp[Zg];refine aL.forLoop (α:=Int×Bool×Nat) (λs vr vo=>vr=[.int s.1,.bool s.2.1]/\vo=[]/\d<=s.1/\s.1<=100001/\(s.2.1=true->(100002-s.1).toNat<=s.2.2)/\(s.2.1=true->zP r o s.2.2 s.1=jZ r o d)/\(s.2.1=false->s.1=jZ r o d)) (λs=>2*(100001-s.1).toNat+(if s.2.1 then 1 else 0)) (d,true,(100002-d).toNat) ?_ ?_
 .simp;exact⟨by omega,rfl⟩
 .rintro⟨e,ch,n⟩ vr vo ⟨rfl,rfl,h1,h2,h3,h4,h5⟩;simp only at*;cases ch
  .simp[aiJ,N0];exact h5 rfl
  .have h3:=h3 rfl;have h4:=h4 rfl;obtain⟨n,rfl⟩:∃m,n=m+1:=⟨n-1,by omega⟩
   have bP:=WT hh o e h2;simp[aiJ,N0];refine aL.forRounds r.halts.length (λk=>[.int (ns r o e k),.bool (decide (e<ns r o e k)),.int k]) (λ_=>[]) ?_ (λk hk=>?_) ?_
   .simp[ns]
   .have hw:=br hk (by have:=hh.1;omega);have cE:=bP k (by omega);have yT:=hh.2 _ (bS hk);rw[ajh r o e hk];unfold Og;generalize ns r o e k=x at*;by_cases hc:(r.halts[k].order=o/\r.halts[k].fr<=x)/\x<=r.halts[k].to
    .have cT:i64.wrap (r.halts[k].to+1)=r.halts[k].to+1:=aO (by omega);simp[NZ,Db,hk,hw,hc,cT];omega
    .simp[NZ,Db,hk,hw,hc]
   .have hE:=bP r.halts.length (aX _);unfold zP at h4;generalize ns r o e r.halts.length=x at*;by_cases hx:x=e
    .rw[if_pos hx] at h4;subst hx;simp[NZ,Db];exact⟨x,by omega,rfl,h1,h2,h4⟩
    .rw[if_neg hx] at h4;have af:e<x:=by omega
     simp[NZ,Db,af];exact⟨x,by omega,rfl,by omega,by omega,n,by omega,h4⟩
def tH (r:Realm)(c:City)(o:Int):Nat->Int->Int×Int
 |0,d=>(d,0)
 |n+1,d=>
  if(jz c (jZ r o d)).2≠0 then(0,3)
  else if(jz c (jZ r o d)).1=jZ r o d then(jZ r o d,0)
  else tH r c o n (jz c (jZ r o d)).1
def aje (r:Realm)(c:City)(o:Int)(n:Nat)(d:Int):tH r c o (n+1) d=
 if(jz c (jZ r o d)).2≠0 then(0,3)
 else if(jz c (jZ r o d)).1=jZ r o d then(jZ r o d,0)
 else tH r c o n (jz c (jZ r o d)).1:=rfl
def lS (r:Realm)(city d:Int):Int×Int:=tH r (r.cities.getD city.toNat default) (gC r city) (100002-d).toNat d
def WM (r:Realm)(hh:xr r)(city d:Int)(hc:0<=city/\city<r.cities.length)(hs:∀c,c∈r.cities->Io c)(h0:0<=d)(hd:d<=100001):ah T 77 [aQ r,.int city,.int d] (.tup [.int (lS r city d).1,.int (lS r city d).2]):=by
 refine zyw 94 azT ?_;simp[Zf];refine⟨_,rW r city,?_⟩;have aY:city.toNat<r.cities.length:=by omega
 have hcg:r.cities.getD city.toNat default=r.cities[city.toNat]:=by simp[aY]
 have hsc:=hs _ (bS aY);have hF:lS r city d=tH r r.cities[city.toNat] (gC r city) (100002-d).toNat d:=by unfold lS;rw[hcg]
 rw[hF];refine aL.forLoop (α:=Int×Nat) (λs vr vo=>(∃a b,vr=[.int s.1,a,b])/\vo=[]/\0<=s.1/\s.1<=100001/\(100002-s.1).toNat<=s.2/\tH r r.cities[city.toNat] (gC r city) s.2 s.1=tH r r.cities[city.toNat] (gC r city) (100002-d).toNat d) (λs=>s.2) (d,(100002-d).toNat) ?_ ?_
 .simp;omega
 .rintro⟨e,n⟩ vr vo ⟨⟨a,b,rfl⟩,rfl,h1,h2,h3,h4⟩;simp only at*;obtain⟨n,rfl⟩:∃m,n=m+1:=⟨n-1,by omega⟩
  rw[<-h4];have Cd:=WU hh (gC r city) (100002-e).toNat e h2;have hsr:=axe r hh (gC r city) e h1 h2;rw[aje];change e<=jZ r (gC r city) e/\jZ r (gC r city) e<=100001 at Cd;generalize jZ r (gC r city) e=x at*;have Sp:=akn r.cities[city.toNat] hsc x;have pH:=afx (c:=r.cities[city.toNat]) (d:=x);generalize jz r.cities[city.toNat] x=N at*;obtain⟨y,er⟩:=N;simp only at Sp pH;simp[awq,Wq];refine⟨_,hsr,?_⟩;simp[aY,hc];refine⟨_,Sp,?_⟩;by_cases he:er=0
  .obtain⟨g1,g2,g3⟩:=pH he;by_cases hy:y=x
   .simp[he,hy]
   .simp[he,hy];exact⟨y,n,by omega,rfl,by omega,by omega,by omega,rfl⟩
  .simp[he]
structure RightD (r:Realm):Prop where
 small:Small r
 halts:xr r
def RightD.cities {r:Realm}(h:RightD r)(c:City)(hc:c∈r.cities):Io c:=by
 obtain⟨h1,h2,h3,_⟩:=h.small.city c hc;exact⟨by omega,by omega,by omega⟩
def DX (d:Int)(t:Tenor):∃n e:Int,ah T 122 [.int d,py t] (.tup [.int n,.int e]):=by
 by_cases h0:t.n<0
 .refine⟨0,3,.of_tree rfl I9 ON ?_⟩;simp[Dw,h0]
 by_cases h1:20000<t.n
 .refine⟨0,3,.of_tree rfl I9 ON ?_⟩;simp[Dw,h0,h1]
 by_cases h2:t.unit=1
 .obtain⟨n,e,h,_⟩:=ajZ d t.n;refine⟨n,e,.of_tree rfl I9 ON ?_⟩;simp[Dw,h0,h1,h2];refine⟨_,h,?_⟩;simp
 .refine⟨i64.wrap (d+t.n),0,.of_tree rfl I9 ON ?_⟩;simp[Dw,h0,h1,h2]
def ak6 (r:Realm)(hr:RightD r)(b:Bill)(seen:Int):∃n e:Int,ah T 76 [aQ r,dE b,.int seen] (.tup [.int n,.int e]):=by
 have SR:D.agg [D.int b.tenor.kind,D.int b.tenor.n,D.int b.tenor.unit]=py b.tenor:=rfl;by_cases h0:b.tenor.kind=0
 .refine⟨seen,0,.of_tree rfl xM zS ?_⟩;simp[oV,h0]
 by_cases h1:b.tenor.kind=1
 .obtain⟨n,e,h⟩:=DX seen b.tenor;refine⟨n,e,.of_tree rfl xM zS ?_⟩;have cB:(b.tenor.kind=1)=True:=eq_true h1;simp[oV,h0,cB];refine⟨_,h,?_⟩;simp
 by_cases h2:b.tenor.kind=2
 .obtain⟨n,e,h⟩:=DX b.day b.tenor;refine⟨n,e,.of_tree rfl xM zS ?_⟩;have fa:(b.tenor.kind=2)=True:=eq_true h2;simp[oV,h0,h1,fa];refine⟨_,h,?_⟩;simp
 by_cases h4:b.tenor.kind=4
 .obtain⟨n,e,h,_⟩:=aku r b.city b.pay (by have:=hr.small.us;omega);refine⟨i64.wrap (b.day+n),e,.of_tree rfl xM zS ?_⟩;have om:(b.tenor.kind=4)=True:=eq_true h4;simp[oV,h0,h1,h2,om];refine⟨_,h,?_⟩;simp
 .refine⟨b.tenor.n,0,.of_tree rfl xM zS ?_⟩;simp[oV,h0,h1,h2,h4]
def ah.ex_of_tree {tab:Nat->Option PC}{ext:Nat->Option (aT->List D->Option D)}{f:Nat}{pc:PC}{t:PT}{ds:List D}{P:D->Prop}(hx:ext f=none)(ht:tab f=some pc)(he:tree pc=t)
 (h:aH (eJ tab ext) t (lX ds) (λx=>∃d,x=.ret d/\P d)):∃d,ah (eJ tab ext) f ds d/\P d:=by
 subst he;obtain⟨x,⟨d,rfl,hd⟩,n0,hn⟩:=ajC (MX ⟨λ_ _ _ h=>(by obtain⟨_,h,_⟩:=h;cases h),λ_ _ _ _ _ _ h=>(by obtain⟨_,h,_⟩:=h;cases h),λ_ h=>h⟩ h);exact⟨d,.of_pc hx ht ⟨.ret d,rfl,n0,hn⟩,hd⟩
def IX (d:D):Prop:=∃n e:Int,d=.tup [.int n,.int e]
@[simp] def aC3 (n e:Int):IX (.tup [.int n,.int e])=True:=eq_true ⟨n,e,rfl⟩
def Ab (r:Realm)(hr:RightD r)(b:Bill)(seen cd:Int):∃d,ah T 37 [aQ r,dE b,.int seen,.int cd] d/\IX d:=by
 have SR:D.agg [D.int b.tenor.kind,D.int b.tenor.n,D.int b.tenor.unit]=py b.tenor:=rfl;have ki:=N2 r hr.small;refine ah.ex_of_tree rfl Pz Zb ?_;simp[It];refine⟨_,ki,?_⟩;by_cases h0:il r=0
 case neg=>simp[h0]
 simp[h0];refine⟨_,Cl r b.city,?_⟩;cases h1:aD b.city r.cities.length
 .simp[h1]
 simp[h1];refine⟨_,Cl r b.pay,?_⟩;cases h2:aD b.pay r.cities.length
 .simp[h2]
 simp[h2];refine⟨_,we b.day,?_⟩;cases h3:eu b.day
 .simp[h3]
 simp[h3];intro _ _ _ _;have hp:0<=b.pay/\b.pay<r.cities.length:=by simpa [aD] using h2
 have fin:0<=cd->cd<=20000->∃d,ah T 76 [aQ r,dE b,D.int seen] d/\
  if(d.tget 1).i=0 then ∃d1,ah T 74 [d.tget 0] d1/\(d1.b=true->i64.wrap ((d.tget 0).i+cd)<=100000->
        ∃d2,ah T 77 [aQ r,D.int b.pay,D.int (i64.wrap ((d.tget 0).i+cd))] d2/\IX (D.tup [d2.tget 0,d2.tget 1]))
  else IX (D.tup [D.int 0,d.tget 1]):=by
  intro yw jv;obtain⟨n,e,h⟩:=ak6 r hr b seen;refine⟨_,h,?_⟩;by_cases he:e=0
  .simp[he];refine⟨_,we n,?_⟩;cases hd:eu n
   .simp[hd]
   have gu:0<=n/\n<=100000:=by simpa [eu] using hd
   have hw:i64.wrap (n+cd)=n+cd:=aO (by omega);simp[hd,hw];intro hle;refine⟨_,WM r hr.halts b.pay (n+cd) hp hr.cities (by omega) (by omega),?_⟩;simp
  .simp[he]
 by_cases hs:seen=-1
 .simp[hs] at fin ⊢;intro yw jv;refine⟨_,DT b.tenor,?_⟩;simp;intro _;exact fin yw jv
 .simp[hs] at fin ⊢;refine⟨_,we seen,?_⟩;cases hk:eu seen
  .simp[hk]
  simp[hk];intro yw jv;exact⟨⟨_,DT b.tenor⟩,fin yw jv⟩
def qU (r:Realm)(b:Bill)(seen cd:Int):Int×Int:=
 open Classical in if h:RightD r then((Ab r h b seen cd).choose_spec.2.choose,(Ab r h b seen cd).choose_spec.2.choose_spec.choose) else(0,0)
def OZ (r:Realm)(hr:RightD r)(b:Bill)(seen cd:Int):ah T 37 [aQ r,dE b,.int seen,.int cd] (.tup [.int (qU r b seen cd).1,.int (qU r b seen cd).2]):=by
 have h:=(Ab r hr b seen cd).choose_spec.2.choose_spec.choose_spec;have h1:=(Ab r hr b seen cd).choose_spec.1;rw[h] at h1;have e:qU r b seen cd=((Ab r hr b seen cd).choose_spec.2.choose,(Ab r hr b seen cd).choose_spec.2.choose_spec.choose):=by unfold qU;rw[dif_pos hr]
 rw[e];exact h1
def eM (r:Realm)(forum:Int)(f:File)(day:Int):Int:=
 if(ct f day).signs=[] then-1
 else if(qU r f.bill (sd (ct f day)) (max (pZ (mI r forum 6 (ct f day) day)) 0)).2≠0 then-1
 else(qU r f.bill (sd (ct f day)) (max (pZ (mI r forum 6 (ct f day) day)) 0)).1
@[simp] def aHl (x:File)(a0 a1 a2 a3 a4 a5 a6 a7 a8 a9 qC qD a12 qE qF ua ub a17 uc:D):(dJ [a0,a1,a2,a3,a4,a5,a6,a7,a8,a9,qC,qD,a12,qE,qF,ua,ub,a17,uc] 0 [.int x.bill.drawer,.int x.bill.drawee,.int x.bill.payee,.int x.bill.sum,.int x.bill.currency,.int x.bill.tenor.kind,.int x.bill.tenor.n,.int x.bill.tenor.unit,.int x.bill.day,.int x.bill.city,.int x.bill.pay,.int x.bill.need,.int x.bill.rate,.int x.bill.flags,.int x.bill.parts,signs x.signs,alters x.alters,acts x.acts,facts x.facts])[15]?.getD D.none=signs x.signs:=zyz
def Pj (r:Realm)(hr:Right r)(hd:RightD r)(forum:Int)(f:File)(day:Int)(hf:FewS f):ah T 13 [aQ r,.int forum,cu f,.int day] (.int (eM r forum f day)):=by
 refine zyw 61 axQ ?_;simp[Xa];refine⟨_,Ww f day (by have:=hf.signs;omega) (by have:=hf.acts;omega) (by have:=hf.alters;omega) (by have:=hf.facts;omega),?_⟩;have hg:=hf.at_ day;have hb:(ct f day).bill=f.bill:=rfl;unfold eM;generalize ct f day=g at*;simp;by_cases h0:g.signs=[]
 .simp[h0]
 simp[h0];refine⟨_,aaS r hr forum 6 g day hg,_,akN _,_,awz g (by have:=hg.signs;omega) (by have:=hg.acts;omega),?_⟩;have hm:(if(D.int (pZ (mI r forum 6 g day))).i<0 then D.int 0 else D.int (pZ (mI r forum 6 g day)))=D.int (max (pZ (mI r forum 6 g day)) 0):=by
  simp only[amt];split
  .rw[Int.max_eq_right (by omega)]
  .rw[Int.max_eq_left (by omega)]
 rw[hm,hb];refine⟨_,OZ r hd f.bill _ _,?_⟩;by_cases he:(qU r f.bill (sd g) (max (pZ (mI r forum 6 g day)) 0)).2=0<;>simp[he]
def at5 (y:Nat)(h:y<18446744073709551616):ah T 126 [u y] (.int ((64-wh y:Nat):Int)):=by
 refine zyw 114 ax4 ?_;have hb:=(aeG h).2.2.2;have hw:i64.wrap (64-(wh y:Nat))=((64-wh y:Nat):Int):=by rw[aO (by omega)];omega
 simp[Xm];refine⟨_,asA y h,?_⟩;simp[hw]
set_option maxHeartbeats 4000000 in
def amv (hi lo y:Nat)(hy:0<y)(B0:hi<y)(pG:lo<18446744073709551616)(vX:y<18446744073709551616):
 ah T 80 [u hi,u lo,u y] (.tup [u ((hi*18446744073709551616+lo)/y),u ((hi*18446744073709551616+lo)%y)]):=by
 refine zyw 113 ax3 ?_;have c1:¬y=0:=by omega
 have c2:¬y<=hi:=by omega
 by_cases c3:hi=0
 .subst c3;have hq:IntKind.u64.wrap ((lo:Int)/(y:Int))=((lo/y:Nat):Int):=by
   rw[<-Int.natCast_ediv];exact j3 (aax (aaw ..) pG)
  have hr:((lo:Int).tmod (y:Int))=((lo%y:Nat):Int):=(Int.ofNat_tmod lo y).symm;simp[OE,c1,c2,hq,hr,-Int.natCast_emod]
 .have hb:=aeG vX;obtain⟨L,hL⟩:∃L,L=wh y:=⟨_,rfl⟩
  have vM:=at5 y vX;rw[<-hL] at hb vM;have K9:0<L:=by
   rcases Am L with h|h
   .have:=hb.1 h;omega
   .exact h
  have hLs:=hb.2.2.2;obtain⟨s,hs⟩:∃s,s=64-L:=⟨_,rfl⟩
  obtain⟨s',ef⟩:∃s',s'=L:=⟨_,rfl⟩
  rw[<-hs] at vM;have F2:2^s'*2^s=18446744073709551616:=by rw[<-Pm,show s'+s=64 by omega]
  have adP:2^(L-1)*2^s=9223372036854775808:=by rw[<-Pm,show L-1+s=63 by omega]
  have aP:y*2^s<18446744073709551616:=by rw[<-F2];exact Nat.mul_lt_mul_of_pos_right (by rw[ef];exact hb.2.2.1) (xG s)
  have iy:9223372036854775808<=y*2^s:=by rw[<-adP];exact ka _ (hb.2.1 K9)
  have ws:IntKind.u64.wrap (s:Int)=s:=j3 (by omega);have nK:bW .shl .u64 (y:Int) (s:Int)=((y*2^s:Nat):Int):=by rw[WN y s (by omega),Pl aP]
  have adr:lo/2^s'<2^s:=by rw[xE (xG s'),xF,F2];exact pG
  have sX:0<2^s:=xG s;have aqn:hi*2^s+2^s<=y*2^s:=by rw[<-Nat.succ_mul];exact ka _ B0
  have nN:bW .shl .u64 (hi:Int) (s:Int)=((hi*2^s:Nat):Int):=by rw[WN hi s (by omega),Pl (by omega)]
  have nO:IntKind.u64.wrap (64-(s:Int))=s':=by rw[kC (by omega)];omega
  have nP:bW .shr .u64 (lo:Int) (s':Int)=((lo/2^s':Nat):Int):=Il lo s' (by omega);have nQ:bW .or .u64 ((hi*2^s:Nat):Int) ((lo/2^s':Nat):Int)=((hi*2^s+lo/2^s':Nat):Int):=au0 _ _ s (by omega) adr (Nat.mul_mod_left ..) (by omega);have nR:bW .shl .u64 (lo:Int) (s:Int)=((lo*2^s%18446744073709551616:Nat):Int):=WN lo s (by omega);have law:((hi*2^s+lo/2^s')*18446744073709551616+lo*2^s%18446744073709551616)/(y*2^s)=(hi*18446744073709551616+lo)/y:=by
   have h1:lo*2^s/18446744073709551616=lo/2^s':=by rw[<-F2];exact aaA _ _ (xG s)
   have h2:=Al (lo*2^s) 18446744073709551616;rw[h1] at h2;have h3:(hi*2^s+lo/2^s')*18446744073709551616+lo*2^s%18446744073709551616=(hi*18446744073709551616+lo)*2^s:=by
        rw[j7,j7,Nat.mul_right_comm hi];omega
   rw[h3];exact aaA _ _ (xG s)
  have aeK:((hi*2^s+lo/2^s')*18446744073709551616+lo*2^s%18446744073709551616)%(y*2^s)/2^s=(hi*18446744073709551616+lo)%y:=by
   have h1:lo*2^s/18446744073709551616=lo/2^s':=by rw[<-F2];exact aaA _ _ (xG s)
   have h2:=Al (lo*2^s) 18446744073709551616;rw[h1] at h2;have h3:(hi*2^s+lo/2^s')*18446744073709551616+lo*2^s%18446744073709551616=(hi*18446744073709551616+lo)*2^s:=by
        rw[j7,j7,Nat.mul_right_comm hi];omega
   rw[h3,Nat.mul_mod_mul_right];exact Nat.mul_div_cancel _ (xG s)
  have hu:hi*2^s+lo/2^s'<y*2^s:=by omega
  have l7:lo*2^s%18446744073709551616<18446744073709551616:=qB _ (by decide);clear hb F2 adP adr aqn hL;rw[<-law,<-aeK];clear law aeK;generalize y*2^s=v at*;generalize hi*2^s+lo/2^s'=u32 at*;generalize lo*2^s%18446744073709551616=un at*;have nL:bW .shr .u64 (v:Int) 32=((v/4294967296:Nat):Int):=dD v;have nM:bW .and .u64 (v:Int) 4294967295=((v%4294967296:Nat):Int):=D0 v aP;have nS:bW .shr .u64 (un:Int) 32=((un/4294967296:Nat):Int):=dD un;have nT:bW .and .u64 (un:Int) 4294967295=((un%4294967296:Nat):Int):=D0 un l7;have hv:v=v/4294967296*4294967296+v%4294967296:=by omega
  have hn:un=un/4294967296*4294967296+un%4294967296:=by omega
  have ad1:2147483648<=v/4294967296:=by omega
  have ad2:v/4294967296<4294967296:=by omega
  have eC:v%4294967296<4294967296:=by omega
  have kO:un/4294967296<4294967296:=by omega
  have Sg:un%4294967296<4294967296:=by omega
  generalize v/4294967296=v1 at*;generalize v%4294967296=v0 at*;generalize un/4294967296=n1 at*;generalize un%4294967296=n0 at*;have gn:¬v1=0:=by omega
  have nU:IntKind.u64.wrap ((u32:Int)/(v1:Int))=((u32/v1:Nat):Int):=by
   rw[<-Int.natCast_ediv];exact j3 (aax (aaw ..) (by omega))
  have LM:u32/v1*v1+u32%v1=u32:=DR u32 v1;have nV:IntKind.u64.wrap (((u32/v1:Nat):Int)*(v1:Int))=((u32/v1*v1:Nat):Int):=by
   rw[<-Int.natCast_mul];exact j3 (by omega)
  have nW:IntKind.u64.wrap ((u32:Int)-((u32/v1*v1:Nat):Int))=((u32%v1:Nat):Int):=by
   rw[kC (by omega)];omega
  simp[OE,c1,c2,c3,-dD,-Int.natCast_add,-Int.natCast_mul,-Int.natCast_ediv,-Int.natCast_emod];refine⟨_,vM,?_⟩;simp[-dD,-Int.natCast_add,-Int.natCast_mul,-Int.natCast_ediv,-Int.natCast_emod,ws,nK,nL,nM,nN,nO,nP,nQ,nR,nS,nT,gn,nU,nV,nW];refine asG _ (u32/v1) (u32%v1) v1 v0 u32 n1 eC ad1 ad2 kO (by omega) rfl rfl (by simp[-dD,-Int.natCast_add,-Int.natCast_mul,-Int.natCast_ediv,-Int.natCast_emod,ws,nK,nL,nM,nN,nO,nP,nQ,nR,nS,nT,gn,nU,nV,nW]) (by simp[-dD,-Int.natCast_add,-Int.natCast_mul,-Int.natCast_ediv,-Int.natCast_emod,ws,nK,nL,nM,nN,nO,nP,nQ,nR,nS,nT,gn,nU,nV,nW]) (by simp[-dD,-Int.natCast_add,-Int.natCast_mul,-Int.natCast_ediv,-Int.natCast_emod,ws,nK,nL,nM,nN,nO,nP,nQ,nR,nS,nT,gn,nU,nV,nW]) (by simp[-dD,-Int.natCast_add,-Int.natCast_mul,-Int.natCast_ediv,-Int.natCast_emod,ws,nK,nL,nM,nN,nO,nP,nQ,nR,nS,nT,gn,nU,nV,nW]) (by simp[-dD,-Int.natCast_add,-Int.natCast_mul,-Int.natCast_ediv,-Int.natCast_emod,ws,nK,nL,nM,nN,nO,nP,nQ,nR,nS,nT,gn,nU,nV,nW]) _ _ λO hq hk=>?_;have k2:O.r 2=u v:=by rw[hk 2 (by simp)];simp[-dD,-Int.natCast_add,-Int.natCast_mul,-Int.natCast_ediv,-Int.natCast_emod,ws,nK,nL,nM,nN,nO,nP,nQ,nR,nS,nT,gn,nU,nV,nW]
  have k8:O.r 8=u s:=by rw[hk 8 (by simp)];simp[-dD,-Int.natCast_add,-Int.natCast_mul,-Int.natCast_ediv,-Int.natCast_emod,ws,nK,nL,nM,nN,nO,nP,nQ,nR,nS,nT,gn,nU,nV,nW]
  have k9:O.r 9=u v1:=by rw[hk 9 (by simp)];simp[-dD,-Int.natCast_add,-Int.natCast_mul,-Int.natCast_ediv,-Int.natCast_emod,ws,nK,nL,nM,nN,nO,nP,nQ,nR,nS,nT,gn,nU,nV,nW]
  have tg:O.r 10=u v0:=by rw[hk 10 (by simp)];simp[-dD,-Int.natCast_add,-Int.natCast_mul,-Int.natCast_ediv,-Int.natCast_emod,ws,nK,nL,nM,nN,nO,nP,nQ,nR,nS,nT,gn,nU,nV,nW]
  have rE:O.r 11=u u32:=by rw[hk 11 (by simp)];simp[-dD,-Int.natCast_add,-Int.natCast_mul,-Int.natCast_ediv,-Int.natCast_emod,ws,nK,nL,nM,nN,nO,nP,nQ,nR,nS,nT,gn,nU,nV,nW]
  have rF:O.r 13=u n1:=by rw[hk 13 (by simp)];simp[-dD,-Int.natCast_add,-Int.natCast_mul,-Int.natCast_ediv,-Int.natCast_emod,ws,nK,nL,nM,nN,nO,nP,nQ,nR,nS,nT,gn,nU,nV,nW]
  have th:O.r 14=u n0:=by rw[hk 14 (by simp)];simp[-dD,-Int.natCast_add,-Int.natCast_mul,-Int.natCast_ediv,-Int.natCast_emod,ws,nK,nL,nM,nN,nO,nP,nQ,nR,nS,nT,gn,nU,nV,nW]
  clear hk;rw[<-hv] at hq;obtain⟨q1,F3⟩:∃q1,q1=(u32*4294967296+n1)/v:=⟨_,rfl⟩
  obtain⟨R,hR⟩:∃R,R=(u32*4294967296+n1)%v:=⟨_,rfl⟩
  rw[<-F3] at hq;have Gc:0<v:=by omega
  have aFD:R<v:=by rw[hR];exact qB _ Gc
  have hqR:q1*v+R=u32*4294967296+n1:=by rw[F3,hR];exact DR _ v
  have aGf:q1<4294967296:=by rw[F3,xE Gc];omega
  have qX:IntKind.u64.wrap (IntKind.u64.wrap (IntKind.u64.wrap ((u32:Int)*4294967296)+(n1:Int))-IntKind.u64.wrap ((q1:Int)*(v:Int)))=(R:Int):=by
   have h1:(q1:Int)*(v:Int)+(R:Int)=(u32:Int)*4294967296+n1:=by rw[<-Int.natCast_mul];omega
   simp only[IA];generalize (q1:Int)*(v:Int)=M at*;omega
  have qY:IntKind.u64.wrap ((R:Int)/(v1:Int))=((R/v1:Nat):Int):=by
   rw[<-Int.natCast_ediv];exact j3 (aax (aaw ..) (by omega))
  have aGj:R/v1*v1+R%v1=R:=DR R v1;have qV:IntKind.u64.wrap (((R/v1:Nat):Int)*(v1:Int))=((R/v1*v1:Nat):Int):=by
   rw[<-Int.natCast_mul];exact j3 (by omega)
  have qW:IntKind.u64.wrap ((R:Int)-((R/v1*v1:Nat):Int))=((R%v1:Nat):Int):=by
   rw[kC (by omega)];omega
  simp[-dD,-Int.natCast_add,-Int.natCast_mul,-Int.natCast_ediv,-Int.natCast_emod,k2,k9,rE,rF,hq,gn,qX,qY,qV,qW];refine asH _ (R/v1) (R%v1) v1 v0 R n0 eC ad1 ad2 Sg (by omega) rfl rfl (by simp[-dD,-Int.natCast_add,-Int.natCast_mul,-Int.natCast_ediv,-Int.natCast_emod,k2,k8,k9,tg,rE,rF,th,hq,gn,qX,qY,qV,qW]) (by simp[-dD,-Int.natCast_add,-Int.natCast_mul,-Int.natCast_ediv,-Int.natCast_emod,k2,k8,k9,tg,rE,rF,th,hq,gn,qX,qY,qV,qW]) (by simp[-dD,-Int.natCast_add,-Int.natCast_mul,-Int.natCast_ediv,-Int.natCast_emod,k2,k8,k9,tg,rE,rF,th,hq,gn,qX,qY,qV,qW]) (by simp[-dD,-Int.natCast_add,-Int.natCast_mul,-Int.natCast_ediv,-Int.natCast_emod,k2,k8,k9,tg,rE,rF,th,hq,gn,qX,qY,qV,qW]) (by simp[-dD,-Int.natCast_add,-Int.natCast_mul,-Int.natCast_ediv,-Int.natCast_emod,k2,k8,k9,tg,rE,rF,th,hq,gn,qX,qY,qV,qW]) _ _ λV gV hk=>?_;have j15:V.r 15=u q1:=by rw[hk 15 (by simp)];simp[-dD,-Int.natCast_add,-Int.natCast_mul,-Int.natCast_ediv,-Int.natCast_emod,k2,k8,k9,tg,rE,rF,th,hq,gn,qX,qY,qV,qW]
  have j8:V.r 8=u s:=by rw[hk 8 (by simp)];simp[-dD,-Int.natCast_add,-Int.natCast_mul,-Int.natCast_ediv,-Int.natCast_emod,k2,k8,k9,tg,rE,rF,th,hq,gn,qX,qY,qV,qW]
  have j17:V.r 17=u R:=by rw[hk 17 (by simp)];simp[-dD,-Int.natCast_add,-Int.natCast_mul,-Int.natCast_ediv,-Int.natCast_emod,k2,k8,k9,tg,rE,rF,th,hq,gn,qX,qY,qV,qW]
  have j14:V.r 14=u n0:=by rw[hk 14 (by simp)];simp[-dD,-Int.natCast_add,-Int.natCast_mul,-Int.natCast_ediv,-Int.natCast_emod,k2,k8,k9,tg,rE,rF,th,hq,gn,qX,qY,qV,qW]
  have j2:V.r 2=u v:=by rw[hk 2 (by simp)];simp[-dD,-Int.natCast_add,-Int.natCast_mul,-Int.natCast_ediv,-Int.natCast_emod,k2,k8,k9,tg,rE,rF,th,hq,gn,qX,qY,qV,qW]
  rw[<-hv] at gV;clear hk;obtain⟨q0,sY⟩:∃q0,q0=(R*4294967296+n0)/v:=⟨_,rfl⟩
  rw[<-sY] at gV;have aGe:q0<4294967296:=by rw[sY,xE Gc];omega
  have w1:IntKind.u64.wrap (IntKind.u64.wrap ((q1:Int)*4294967296)+(q0:Int))=((q1*4294967296+q0:Nat):Int):=by
   rw[kC (n:=(q1:Int)*4294967296) (by omega),kC (by omega)];omega
  have fin:(u32*18446744073709551616+un)/v=q1*4294967296+q0:=by
   have h1:u32*18446744073709551616+un=R*4294967296+n0+v*(q1*4294967296):=by
        have:v*(q1*4294967296)=(q1*v)*4294967296:=by rw[<-aaz,xF v q1]
        omega
   rw[h1,Nat.add_mul_div_left _ _ Gc,<-sY];omega
  obtain⟨R2,Rz⟩:∃R2,R2=(R*4294967296+n0)%v:=⟨_,rfl⟩
  have aGh:q0*v+R2=R*4294967296+n0:=by rw[sY,Rz];exact DR _ v
  have aFC:R2<v:=by rw[Rz];exact qB _ Gc
  have anF:(u32*18446744073709551616+un)%v=R2:=by
   have h1:u32*18446744073709551616+un=R*4294967296+n0+v*(q1*4294967296):=by
        have:v*(q1*4294967296)=(q1*v)*4294967296:=by rw[<-aaz,xF v q1]
        omega
   rw[h1,Nat.add_mul_mod_self_left,<-Rz]
  have w2:IntKind.u64.wrap (IntKind.u64.wrap (IntKind.u64.wrap ((R:Int)*4294967296)+(n0:Int))-IntKind.u64.wrap ((q0:Int)*(v:Int)))=(R2:Int):=by
   have h1:(q0:Int)*(v:Int)+(R2:Int)=(R:Int)*4294967296+n0:=by rw[<-Int.natCast_mul];omega
   simp only[IA];generalize (q0:Int)*(v:Int)=M at*;omega
  have w3:bW .shr .u64 (R2:Int) (s:Int)=((R2/2^s:Nat):Int):=Il R2 s (by omega);rw[fin,anF];simp[j8,j15,j17,j14,j2,gV,w1,w2,w3,-Int.natCast_add,-Int.natCast_mul,-Int.natCast_ediv,-dD]
structure View where
 realm:Realm
 forum:Int
 day:Int
 file:File
 form:Int
 due:Int
 deriving Inhabited
def dF (x:View):D:=.agg [strs x.realm.currencies,px x.realm.cities,groups x.realm.groups,firms x.realm.firms,orders x.realm.orders,usances x.realm.usances,rates x.realm.rates,halts x.realm.halts,.int x.forum,.int x.day,.int x.file.bill.drawer,.int x.file.bill.drawee,.int x.file.bill.payee,.int x.file.bill.sum,.int x.file.bill.currency,.int x.file.bill.tenor.kind,.int x.file.bill.tenor.n,.int x.file.bill.tenor.unit,.int x.file.bill.day,.int x.file.bill.city,.int x.file.bill.pay,.int x.file.bill.need,.int x.file.bill.rate,.int x.file.bill.flags,.int x.file.bill.parts,signs x.file.signs,alters x.file.alters,acts x.file.acts,facts x.file.facts,.int x.form,.int x.due]
@[simp] def aDv (x:View):(dF x).cells=[strs x.realm.currencies,px x.realm.cities,groups x.realm.groups,firms x.realm.firms,orders x.realm.orders,usances x.realm.usances,rates x.realm.rates,halts x.realm.halts,.int x.forum,.int x.day,.int x.file.bill.drawer,.int x.file.bill.drawee,.int x.file.bill.payee,.int x.file.bill.sum,.int x.file.bill.currency,.int x.file.bill.tenor.kind,.int x.file.bill.tenor.n,.int x.file.bill.tenor.unit,.int x.file.bill.day,.int x.file.bill.city,.int x.file.bill.pay,.int x.file.bill.need,.int x.file.bill.rate,.int x.file.bill.flags,.int x.file.bill.parts,signs x.file.signs,alters x.file.alters,acts x.file.acts,facts x.file.facts,.int x.form,.int x.due]:=zyz
@[simp] def aG8 (x:View):D.agg [strs x.realm.currencies,px x.realm.cities,groups x.realm.groups,firms x.realm.firms,orders x.realm.orders,usances x.realm.usances,rates x.realm.rates,halts x.realm.halts,.int x.forum,.int x.day,.int x.file.bill.drawer,.int x.file.bill.drawee,.int x.file.bill.payee,.int x.file.bill.sum,.int x.file.bill.currency,.int x.file.bill.tenor.kind,.int x.file.bill.tenor.n,.int x.file.bill.tenor.unit,.int x.file.bill.day,.int x.file.bill.city,.int x.file.bill.pay,.int x.file.bill.need,.int x.file.bill.rate,.int x.file.bill.flags,.int x.file.bill.parts,signs x.file.signs,alters x.file.alters,acts x.file.acts,facts x.file.facts,.int x.form,.int x.due]=dF x:=zyz
@[simp] def aDL (x:View):kc 31 (dF x)=dF x:=zyz
@[simp] def aHn (x:View)(a0 a1 a2 a3 a4 a5 a6 a7 a8 a9 qC qD a12 qE qF ua ub a17 uc Pt a20 a21 a22 a23 a24 a25 a26 a27 a28 a29 a30:D):D.agg (dJ [a0,a1,a2,a3,a4,a5,a6,a7,a8,a9,qC,qD,a12,qE,qF,ua,ub,a17,uc,Pt,a20,a21,a22,a23,a24,a25,a26,a27,a28,a29,a30] 0 [strs x.realm.currencies,px x.realm.cities,groups x.realm.groups,firms x.realm.firms,orders x.realm.orders,usances x.realm.usances,rates x.realm.rates,halts x.realm.halts,.int x.forum,.int x.day,.int x.file.bill.drawer,.int x.file.bill.drawee,.int x.file.bill.payee,.int x.file.bill.sum,.int x.file.bill.currency,.int x.file.bill.tenor.kind,.int x.file.bill.tenor.n,.int x.file.bill.tenor.unit,.int x.file.bill.day,.int x.file.bill.city,.int x.file.bill.pay,.int x.file.bill.need,.int x.file.bill.rate,.int x.file.bill.flags,.int x.file.bill.parts,signs x.file.signs,alters x.file.alters,acts x.file.acts,facts x.file.facts,.int x.form,.int x.due])=dF x:=zyz
@[simp] def aDt (x:View):(dF x).c 8=.int x.forum:=zyz
@[simp] def aDu (x:View):(dF x).c 9=.int x.day:=zyz
@[simp] def aC8 (x:View):(dF x).c 10=.int x.file.bill.drawer:=zyz
@[simp] def aC9 (x:View):(dF x).c 11=.int x.file.bill.drawee:=zyz
@[simp] def aDa (x:View):(dF x).c 12=.int x.file.bill.payee:=zyz
@[simp] def aDb (x:View):(dF x).c 13=.int x.file.bill.sum:=zyz
@[simp] def aDc (x:View):(dF x).c 14=.int x.file.bill.currency:=zyz
@[simp] def aDd (x:View):(dF x).c 15=.int x.file.bill.tenor.kind:=zyz
@[simp] def aDe (x:View):(dF x).c 16=.int x.file.bill.tenor.n:=zyz
@[simp] def aDf (x:View):(dF x).c 17=.int x.file.bill.tenor.unit:=zyz
@[simp] def aDg (x:View):(dF x).c 18=.int x.file.bill.day:=zyz
@[simp] def aDh (x:View):(dF x).c 19=.int x.file.bill.city:=zyz
@[simp] def aDi (x:View):(dF x).c 20=.int x.file.bill.pay:=zyz
@[simp] def aDj (x:View):(dF x).c 21=.int x.file.bill.need:=zyz
@[simp] def aDk (x:View):(dF x).c 22=.int x.file.bill.rate:=zyz
@[simp] def aDl (x:View):(dF x).c 23=.int x.file.bill.flags:=zyz
@[simp] def aDm (x:View):(dF x).c 24=.int x.file.bill.parts:=zyz
@[simp] def aDn (x:View):(dF x).c 25=signs x.file.signs:=zyz
@[simp] def aDo (x:View):(dF x).c 26=alters x.file.alters:=zyz
@[simp] def aDp (x:View):(dF x).c 27=acts x.file.acts:=zyz
@[simp] def aDq (x:View):(dF x).c 28=facts x.file.facts:=zyz
@[simp] def aDr (x:View):(dF x).c 29=.int x.form:=zyz
@[simp] def aDs (x:View):(dF x).c 30=.int x.due:=zyz
@[simp] def aDC (x:View):kc 8 (dF x)=aQ x.realm:=zyz
def rD:List Int->Int->Int
 |[],o=>o
 |x::l,o=>if x=0 then 0 else rD l (if x=2 then 2 else o)
def asr {l:List Int}{o:Int}(hn:∀x,x∈l->¬x=0)(h2:o=1\/o=2):rD l o=if o=2\/2∈l then 2 else 1:=by
 induction l generalizing o with
 |nil=>rcases h2 with h|h<;>simp[rD,h]
 |cons x l ih=>
  have hx:=hn x (by simp);unfold rD;rw[if_neg hx];by_cases e:x=2
  .rw[if_pos e,ih (λy hy=>hn y (by simp[hy])) (.inr rfl)];simp[e]
  .rw[if_neg e,ih (λy hy=>hn y (by simp[hy])) h2];simp[vm e]
def aeA:∀{l:List Int} {o:Int} {k:Nat} (hk:k<l.length),(∀j (hj:j<k),¬l[j]'(by omega)=0)->l[k]=0->rD l o=0
 |[],o,k,hk,_,_=>by simp at hk
 |x::l,o,0,hk,hj,h=>by
  unfold rD;rw[if_pos (by simpa using h)]
 |x::l,o,k+1,hk,hj,h=>by
  unfold rD;rw[if_neg (by have:=hj 0 (by omega);simpa using this)];exact aeA (k:=k) (by simpa using hk) (λj mP=>by have:=hj (j+1) (by omega);simpa using this) (by simpa using h)
def Cu (l:List Int)(k:Nat):Int:=if 2∈l.take k then 2 else 1
def ass (l:List Int)(hl:l.length<=100000):ah T 67 [ints l] (.int (rD l 1)):=by
 refine zyw 103 axY ?_;simp[Xh];refine aL.scan l.length (λk=>l.getD k 0≠0) (λk=>[.int 0,.int (Cu l k),.int k]) (λ_=>[]) ?_ (λk hk hj ar=>?_) (λk hk hj ar=>?_) (λhj=>?_)
 .simp[Cu]
 .have hw:=br hk (by omega);have hx:¬l[k]=0:=by simpa [hk] using ar
  have hm:Cu l (k+1)=if l[k]=2 then 2 else Cu l k:=by
   unfold Cu;rw[iP hk];simp only[dM,Ak];by_cases e:l[k]=2
   .simp[e]
   .simp[e,vm e]
  rw[hm];simp[VC,G9,hk,hw,hx];by_cases e:l[k]=2<;>simp[e]
 .have hx:l[k]=0:=by simpa [hk] using ar
  simp[VC,G9,hk,hx];rw[aeA hk (λj mP=>by simpa [show j<l.length by omega] using hj j mP) hx]
 .simp[VC,G9];rw[asr (λx hx=>by obtain⟨j,gS,rfl⟩:=fm hx;simpa [gS] using hj j gS) (.inl rfl)];simp[Cu]
def lR (v:View)(q sign:Int):Int:=Iv (D2 v.realm v.forum q ⟨v.file,sign,sign,-1,v.due,v.day⟩)
def WJ (v:View)(hr:Right v.realm)(hf:FewS v.file)(q sign:Int):ah T 68 [dF v,.int q,.int sign] (.int (lR v q sign)):=by
 refine zyw 102 ax1 ?_;simp[Xk];refine⟨q8 (D2 v.realm v.forum q ⟨v.file,sign,sign,-1,v.due,v.day⟩),aaR v.realm hr v.forum q ⟨v.file,sign,sign,-1,v.due,v.day⟩ hf,aaT _⟩
def qH (f:File)(sign:Int)(n:Nat):Bool:=(f.alters.take n).any λa=>decide (sign<a.at_)
def y5 (f:File):Int:=(f.alters.getD (f.alters.length-1) default).sum
def tM (v:View)(sign:Int):Int×Int:=
 if qH v.file sign v.file.alters.length=false then(0,oT v.file sign v.file.alters.length)
 else if lR v 4 sign=1 then(1,y5 v.file)
 else if lR v 4 sign=2 then(2,min (oT v.file sign v.file.alters.length) (y5 v.file))
 else(lR v 4 sign,oT v.file sign v.file.alters.length)
def axH (v:View)(hr:Right v.realm)(hf:FewS v.file)(sign:Int):ah T 69 [dF v,.int sign] (.tup [.int (tM v sign).1,.int (tM v sign).2]):=by
 refine zyw 104 ax2 ?_;simp[Xl];have yp:=hf.alters;refine⟨_,ave v.file sign (by omega),?_⟩;refine aL.forRounds v.file.alters.length (λk=>[.bool (qH v.file sign k),.int k]) (λ_=>[]) ?_ (λk hk=>?_) ?_
 .simp[qH]
 .have hw:=br hk (by omega);have hs:qH v.file sign (k+1)=(qH v.file sign k||decide (sign<v.file.alters[k].at_)):=by
   unfold qH;rw[iP hk,List.any_append];simp
  rw[hs];cases qH v.file sign k<;>simp[VD,Ha,hk,hw]
 .unfold tM;cases ha:qH v.file sign v.file.alters.length
  .simp[VD,Ha,ha]
  simp[VD,Ha,ha];have F0:0<v.file.alters.length:=by
   rcases Am v.file.alters.length with e|e
   .simp[qH,vl.mp e] at ha
   .exact e
  have hw:i64.wrap ((v.file.alters.length:Int)-1)=(v.file.alters.length:Int)-1:=aO (by omega);have hn:((v.file.alters.length:Int)-1).toNat=v.file.alters.length-1:=by omega
  have af:v.file.alters.length-1<v.file.alters.length:=by omega
  have yB:y5 v.file=v.file.alters[v.file.alters.length-1].sum:=by simp[y5,af]
  simp[hw,hn,af];refine⟨by omega,_,WJ v hr hf 4 sign,?_⟩;rw[yB];by_cases h1:lR v 4 sign=1
  .simp[h1]
  by_cases h2:lR v 4 sign=2
  .simp[h1,h2];split
   .rw[Int.min_eq_right (by omega)]
   .rw[Int.min_eq_left (by omega)]
  .simp[h1,h2]
@[simp] def aHW (a0 a1 a2 a3 a4 a5 a6 x:D):dJ [a0,a1,a2,a3,a4,a5,a6] 3 [x]=[a0,a1,a2,x,a4,a5,a6]:=zyz
@[simp] def aHX (a0 a1 a2 a3 a4 a5 a6 x:D):dJ [a0,a1,a2,a3,a4,a5,a6] 4 [x]=[a0,a1,a2,a3,x,a5,a6]:=zyz
@[simp] def aHY (a0 a1 a2 a3 a4 a5 a6 x:D):dJ [a0,a1,a2,a3,a4,a5,a6] 5 [x]=[a0,a1,a2,a3,a4,x,a6]:=zyz
def qZ (v:View)(sign:Int):Effect:=
 let s:=v.file.signs.getD sign.toNat default
 ⟨sign,s.kind,s.who,if Oo v.file sign v.day=true then 0 else rD [v.form,lR v 1 sign,lR v 2 sign] 1,(tM v sign).1,
    if s.kind=1\/s.kind=4 then min (tM v sign).2 s.sum else(tM v sign).2,decide (s.kind≠1)&&decide (bW .and .i64 s.flags 1=0)⟩
def anl (v:View)(hr:Right v.realm)(hf:FewS v.file)(sign:Int)(h0:0<=sign)(h1:sign<v.file.signs.length):ah T 33 [dF v,.int sign] (gQ (qZ v sign)):=by
 refine zyw 99 ax0 ?_;obtain⟨k,rfl⟩:=qz h0;have hk:k<v.file.signs.length:=by omega
 have cI:=axK v.file k v.day (by have:=hf.acts;omega);have SV:=axH v hr hf k;have tc:v.file.signs.getD (k:Int).toNat default=v.file.signs[k]:=by simp[hk]
 have LO:=WJ v hr hf 1 k;have dT:=WJ v hr hf 2 k;have hj:ah T 67 [.list [.int v.form,.int (lR v 1 k),.int (lR v 2 k)]] (.int (rD [v.form,lR v 1 k,lR v 2 k] 1)):=ass [v.form,lR v 1 k,lR v 2 k] (by simp);have hif:(if v.file.signs[k].kind=1 then D.bool false else D.bool (decide (bW BinOp.and IntKind.i64 v.file.signs[k].flags 1=0)))=D.bool (decide (v.file.signs[k].kind≠1)&&decide (bW BinOp.and IntKind.i64 v.file.signs[k].flags 1=0)):=by
  by_cases h:v.file.signs[k].kind=1<;>simp[h]
 unfold qZ;rw[tc];generalize lR v 1 k=s1 at*;generalize lR v 2 k=s2 at*;generalize rD [v.form,s1,s2] 1=jj at*;generalize tM v k=tx at*;obtain⟨t1,t2⟩:=tx;simp only at SV;simp[Xj,hk,hif];refine⟨_,cI,?_⟩;have yF:∀a b:Int,(if b<a then D.int b else D.int a)=D.int (min a b):=by
  intro a b;split
  .rw[Int.min_eq_right (by omega)]
  .rw[Int.min_eq_left (by omega)]
 cases Cd:Oo v.file k v.day
 .simp[Cd];refine⟨_,LO,_,dT,_,hj,_,SV,?_⟩;by_cases h1:v.file.signs[k].kind=1\/v.file.signs[k].kind=4
  .simp[h1,yF];rfl
  .simp[h1,yF];rfl
 .simp[Cd];refine⟨_,SV,?_⟩;by_cases h1:v.file.signs[k].kind=1\/v.file.signs[k].kind=4
  .simp[h1,yF];rfl
  .simp[h1,yF];rfl
def uT (r:Realm)(forum:Int)(f:File)(day:Int):View:=⟨r,forum,day,ct f day,Iv (mI r forum 0 (ct f day) day),eM r forum (ct f day) day⟩
def auY (r:Realm)(hr:Right r)(hd:RightD r)(forum:Int)(f:File)(day:Int)(hf:FewS f):ah T 32 [aQ r,.int forum,cu f,.int day] (dF (uT r forum f day)):=by
 refine zyw 16 axZ ?_;simp[Xi];have hg:=hf.at_ day;refine⟨_,Ww f day (by have:=hf.signs;omega) (by have:=hf.acts;omega) (by have:=hf.alters;omega) (by have:=hf.facts;omega),?_⟩;simp;refine⟨_,aaS r hr forum 0 _ day hg,_,aaT _,_,Pj r hr hd forum _ day hg,?_⟩;simp;rfl
def nZ (r:Realm)(forum:Int)(f:File)(day:Int):List Effect:=(List.range (uT r forum f day).file.signs.length).map λ(k:Nat)=>qZ (uT r forum f day) k
def aag (r:Realm)(hr:Right r)(hd:RightD r)(forum:Int)(f:File)(day:Int)(hf:FewS f):ah T 11 [aQ r,.int forum,cu f,.int day] (nY (nZ r forum f day)):=by
 refine zyw 15 axX ?_;simp[Xg];refine⟨_,auY r hr hd forum f day hf,?_⟩;have hg:FewS (uT r forum f day).file:=hf.at_ day;have oD:(uT r forum f day).realm=r:=rfl;unfold nZ;generalize uT r forum f day=v at*;have hl:=hg.signs;refine aL.forRounds v.file.signs.length (λk=>[.none,.int k]) (λk=>[nY ((List.range k).map λ(k:Nat)=>qZ v k)]) ?_ (λk hk=>?_) ?_
 .simp[nY]
 .have hw:=br hk (by omega);have he:=anl v (oD▸hr) hg k (by omega) (by omega);rw[Pf,pf];have hln:((List.range k).map λ(k:Nat)=>qZ v k).length=k:=by simp
  generalize ((List.range k).map λ(k:Nat)=>qZ v k)=A at*;simp[aip,NB,hk,hw];exact⟨_,he,by omega,by simp[nY]⟩
 .simp[aip,NB]
def Ra {n:Nat}{f:Nat->Int}(h:fU n f=0)(k:Nat)(hk:k<n):f k=0:=Rc.1 h k hk
def alH {r:Realm}(h:il r=0)(k:Nat)(hk:k<r.orders.length):rJ r.orders[k]=true:=by
 unfold il at h;rw[Oc] at h;have h1:=h (eK (eV r) 20 (oM r)) (by simp);unfold eK at h1;split at h1
 .cases h1
 have h2:=Ra h1 k (by simpa [eV] using hk);have h3:=(BG h2).2;unfold oM at h3;simpa [hk] using h3
def ao3 {r:Realm}(hs:Small r)(h:il r=0):DF r:=by
 intro o ho;obtain⟨k,hk,rfl⟩:=fm ho;have h1:=alH h k hk;obtain⟨hc,_⟩:=hs.order _ ho;refine⟨by omega,λch kN=>?_⟩;unfold rJ at h1;simp only[ao] at h1;obtain⟨j,hj,rfl⟩:=fm kN;have h2:=xJ.1 h1.1 j hj;simpa [aD,hj] using h2
def ao4 {r:Realm}(hs:Small r)(h:il r=0):xr r:=by
 refine⟨by have:=hs.halts;omega,λx hx=>?_⟩;obtain⟨k,hk,rfl⟩:=fm hx;unfold il at h;rw[Oc] at h;have h1:=h (ql r) (by simp);unfold ql at h1;split at h1
 .cases h1
 split at h1
 .cases h1
 split at h1
 .cases h1
 split at h1
 .rename_i aK;have h2:=xJ.1 aK k hk;simp[vG,wi,aD,hk] at h2;omega
 .cases h1
structure Good (r:Realm) (f:File):Prop where
 right:Right r
 rightD:RightD r
 few:FewS f
def ao5 {r:Realm}{f:File}(hr:r.OK)(h:Fb r f=true):Good r f:=by
 unfold Fb uu at h;simp only[ao,decide_eq_true_eq] at h;obtain⟨⟨⟨h1,h2⟩,h3⟩,h4⟩:=h;have hs:=Q7 hr h1;refine⟨⟨ao3 hs h4,by have:=hs.orders;omega,λo ho=>?_⟩,⟨hs,ao4 hs h4⟩,?_⟩
 .have:=hs.order o ho;refine⟨?_,by omega⟩;exact hr.2.2.2.2.1.2 o ho
 .simp[E0] at h2;exact⟨by omega,by omega,by omega,by omega⟩
@[simp] def aHd:D.none.cells=[D.none]:=zyz
end Rm
namespace Rm
open Go Cx
end Rm
namespace Rm
open Go Go.Proofs Cx
structure SumsOK (f:File):Prop where
 bill:1<=f.bill.sum/\f.bill.sum<=1099511627776
 rate:0<=f.bill.rate/\f.bill.rate<=1000
 alters:∀a,a∈f.alters->1<=a.sum/\a.sum<=1099511627776
 signs:∀s,s∈f.signs->s.kind=1\/s.kind=4->1<=s.sum/\s.sum<=1099511627776
def SumsOK.at_ {f:File}(h:SumsOK f)(day:Int):SumsOK (ct f day):=
 ⟨h.bill,h.rate,λa ha=>h.alters a ((eH.1 ha).1),λs hs=>h.signs s ((Pg _).subset hs)⟩
def axu {f:File}(h:SumsOK f)(sign:Int)(n:Nat):1<=oT f sign n/\oT f sign n<=1099511627776:=by
 unfold oT
 have key:∀(l:List Alter) (s:Int),(∀a,a∈l->a∈f.alters)->1<=s/\s<=1099511627776->1<=l.foldl (λs a=>if a.at_<=sign then a.sum else s) s/\l.foldl (λs a=>if a.at_<=sign then a.sum else s) s<=1099511627776:=by
  intro l
  induction l with
  |nil=>exact λs _ hs=>hs
  |cons a l ih=>
   intro s hl hs;rw[xw];refine ih _ (λb hb=>hl b (by simp[hb])) ?_;split
   .exact h.alters a (hl a (by simp))
   .exact hs
 exact key _ _ (λa ha=>aat ha) h.bill
def asx {f:File}{sign:Int}(h:SumsOK f)(au:qH f sign f.alters.length=true):1<=y5 f/\y5 f<=1099511627776:=by
 unfold y5;have F0:0<f.alters.length:=by
  rcases Am f.alters.length with e|e
  .simp[qH,vl.mp e] at au
  .exact e
 have af:f.alters.length-1<f.alters.length:=by omega
 have e:f.alters.getD (f.alters.length-1) default=f.alters[f.alters.length-1]:=by simp[af]
 rw[e];exact h.alters _ (bS af)
def axG {v:View}(h:SumsOK v.file)(sign:Int):1<=(tM v sign).2/\(tM v sign).2<=1099511627776:=by
 have h1:=axu h sign v.file.alters.length;unfold tM;split
 .exact h1
 rename_i ha;have h2:=asx (sign:=sign) h (by simpa using ha);split
 .exact h2
 split
 .simp only;omega
 .exact h1
def ank {v:View}(h:SumsOK v.file)(sign:Int)(h0:0<=sign)(h1:sign<v.file.signs.length):1<=(qZ v sign).sum/\(qZ v sign).sum<=1099511627776:=by
 have ht:=axG h sign;have af:sign.toNat<v.file.signs.length:=by omega
 have e:v.file.signs.getD sign.toNat default=v.file.signs[sign.toNat]:=by simp[af]
 unfold qZ;simp only[e];split
 .rename_i hk;have:=h.signs _ (bS af) hk;omega
 .exact ht
def ZR (n m:Int):ah T 39 [.int n,.int m] (.bool (wi n 0 m)):=by
 refine zyw 111 ayt ?_;simp[XJ];by_cases h:0<=n<;>simp[wi,h]
end Rm
namespace Rm
open Go Cx
structure Ratio where
 num:Int
 den:Int
 deriving DecidableEq,Inhabited
structure Quote where
 perMille:Int
 fails:List Ratio
 deriving DecidableEq,Inhabited
def Ratio.right (p:Ratio):Prop:=1<=p.den/\p.den<=1073741824/\0<=p.num/\p.num<=p.den
def jF (n:Int)(p:Ratio):Int:=(n*p.num+p.den-1)/p.den
def On {n:Int}{p:Ratio}(hp:p.right)(h:0<=n):0<=jF n p:=by
 unfold jF;have h1:0<=n*p.num:=Ae h hp.2.2.1;exact aah (by have:=hp.1;omega) (by have:=hp.1;omega)
def WW {n:Int}{p:Ratio}(hp:p.right)(h:0<=n):jF n p<=n:=by
 unfold jF;have h1:n*p.num<=n*p.den:=Int.mul_le_mul_of_nonneg_left hp.2.2.2 h;have h2:n*p.num+p.den-1<(n+1)*p.den:=by rw[O2];omega
 have h3:=Int.ediv_lt_of_lt_mul (by have:=hp.1;omega:0<p.den) h2;omega
def lI (p:Ratio):Nat->Int->Int
 |0,n=>n
 |k+1,n=>lI p k (jF n p)
def aex {p:Ratio}(hp:p.right):∀(k:Nat) {n:Int},0<=n->0<=lI p k n
 |0,_,h=>h
 |k+1,_,h=>aex hp k (On hp h)
def aev {p:Ratio}(hp:p.right):∀(k:Nat) {n:Int},0<=n->lI p k n<=n
 |0,_,h=>vi _
 |k+1,_,h=>O3 (aev hp k (On hp h)) (WW hp h)
def lW (ps:List Ratio)(ke:Nat->Nat):Nat->Int
 |0=>1000000000
 |g+1=>lI (ps.getD g default) (ke g) (lW ps ke g)
def nG (ps:List Ratio):Prop:=ps.length=10/\∀p,p∈ps->p.right
def nG.at {ps:List Ratio}(h:nG ps){g:Nat}(hg:g<10):(ps.getD g default).right:=by
 have:g<ps.length:=by rw[h.1];exact hg
 rw[aE,aW this];exact h.2 _ (bS this)
def QC {ps:List Ratio}(h:nG ps)(ke:Nat->Nat):∀g,g<=10->0<=lW ps ke g
 |0,_=>by simp[lW]
 |g+1,hg=>aex (h.at (by omega)) _ (QC h ke g (by omega))
def abi {ps:List Ratio}(h:nG ps)(ke:Nat->Nat):∀g,g<=10->lW ps ke g<=1000000000
 |0,_=>vi _
 |g+1,hg=>O3 (aev (h.at (by omega)) _ (QC h ke g (by omega))) (abi h ke g (by omega))
def abj (ps:List Ratio){a:Nat->Nat}(h:∀g,a g=0):∀g,lW ps a g=1000000000
 |0=>rfl
 |g+1=>by rw[lW,h g,lI,abj ps h g]
def fR (gs:List Int)(g:Nat):Nat:=(gs.filter λx=>decide (x=(g:Int))).length
def ace (ps:List Ratio):∀(k a:Nat) (gs:List Int) (n:Int),a+k=10->gs.Pairwise (·<=·)->(∀x,x∈gs->(a:Int)<=x/\x<10)->
 gs.foldl (λn x=>jF n (ps.getD x.toNat default)) n=(List.range k).foldl (λn i=>lI (ps.getD (a+i) default) (fR gs (a+i)) n) n
 |0,a,gs,n,hk,hs,hx=>by
  cases gs with
  |nil=>rfl
  |cons x gs=>have:=hx x (by simp);omega
 |k+1,a,gs,n,hk,hs,hx=>by
  have key:∀(gs:List Int) (n:Int),gs.Pairwise (·<=·)->(∀x,x∈gs->(a:Int)<=x/\x<10)->gs.foldl (λn x=>jF n (ps.getD x.toNat default)) n=(gs.filter λx=>decide (x≠(a:Int))).foldl (λn x=>jF n (ps.getD x.toNat default)) (lI (ps.getD a default) (fR gs a) n):=by
   intro gs
   induction gs with
   |nil=>intro n _ _;rfl
   |cons x gs ih=>
    intro n hs hx;obtain⟨h1,h2⟩:=xC.1 hs;by_cases e:x=(a:Int)
    .subst e;rw[xw,ih _ h2 (λy hy=>hx y (by simp[hy]))];have e1:fR ((a:Int)::gs) a=fR gs a+1:=by simp[fR]
     rw[e1,lI];simp
    .have aK:∀y,y∈x::gs->y≠(a:Int):=λy hy e'=>by
       subst e';rcases cA.1 hy with h|h
       .exact e h.symm
       .have:=h1 _ h;have:=(hx x (by simp)).1;omega
     have e1:fR (x::gs) a=0:=by
       unfold fR;rw[vl,List.filter_eq_nil_iff];intro y hy;simpa using aK y hy
     have e2:(x::gs).filter (λx=>decide (x≠(a:Int)))=x::gs:=by
       rw[List.filter_eq_self];intro y hy;simpa using aK y hy
     rw[e1,e2];rfl
  rw[key gs n hs hx,ace ps k (a+1) _ _ (by omega) (hs.sublist List.filter_sublist) (λx cZ=>by
   obtain⟨h1,h2⟩:=eH.1 cZ;have h3:=hx x h1;have h4:x≠(a:Int):=by simpa using h2
   omega)]
  rw[List.range_succ_eq_map,xw,aao]
  have ec:∀i:Nat,fR (gs.filter λx=>decide (x≠(a:Int))) (a+1+i)=fR gs (a+1+i):=by
   intro i;unfold fR;rw[List.filter_filter]
   congr 1
   apply List.filter_congr;intro x _;by_cases e:x=((a+1+i:Nat):Int)
   .subst e;simp;omega
   .rw[decide_eq_false e,sm]
  simp only[ec,iQ]
  congr 1
  funext n i;rw[show a+1+i=a+i.succ by omega]
def aoU (ps:List Ratio){gs:List Int}(hs:gs.Pairwise (·<=·))(hx:∀x,x∈gs->0<=x/\x<10):
 gs.foldl (λn x=>jF n (ps.getD x.toNat default)) 1000000000=lW ps (fR gs) 10:=by
 rw[ace ps 10 0 gs _ rfl hs (λx h=>by have:=hx x h;omega)]
 have:∀k,(List.range k).foldl (λn i=>lI (ps.getD (0+i) default) (fR gs (0+i)) n) 1000000000=lW ps (fR gs) k:=by
  intro k
  induction k with
  |zero=>rfl
  |succ k ih=>rw[Pf,tV,ih];simp[lW]
 exact this 10
def gh (f:Nat->Int):Nat->Int
 |0=>0
 |n+1=>gh f n+f (n+1)
def Ot {f:Nat->Int}{p:Int}:∀(k a:Nat),(∀s,a<s->s<=a+k->f s=p)->gh f (a+k)=gh f a+(k:Int)*p
 |0,a,_=>by simp
 |k+1,a,h=>by
  show gh f (a+k)+f (a+k+1)=_;rw[Ot k a λs h1 h2=>h s h1 (by omega),h (a+k+1) (by omega) (by omega)];rw[Int.natCast_add,O2];simp;omega
def WY {f g:Nat->Int}:∀n,(∀s,0<s->s<=n->f s<=g s)->gh f n<=gh g n
 |0,_=>vi _
 |n+1,h=>by
  have h1:=WY n λs h1 h2=>h s h1 (by omega);have h2:=h (n+1) (by omega) (by omega);show gh f n+f (n+1)<=gh g n+g (n+1);omega
def Dq {f:Nat->Int}{m:Nat}(h:∀s,m<s->f s=0){n:Nat}(hn:m<=n):gh f n=gh f m:=by
 have:=Ot (f:=f) (p:=0) (n-m) m λs h1 h2=>h s h1;rw[show m+(n-m)=n by omega] at this;simpa using this
abbrev WS:Type:=Int×Int×Int
def wX (pay:Nat->Int)(w:WS)(s:Int):WS:=
 if s<=w.2.2 then w else
    (w.1+(s-w.2.2)/1000000000*pay s.toNat+((s-w.2.2)%1000000000*pay s.toNat+w.2.1)/1000000000,((s-w.2.2)%1000000000*pay s.toNat+w.2.1)%1000000000,s)
def ir (pay:Nat->Int)(L:List Int):WS:=L.foldl (wX pay) (0,0,0)
structure InvW (pay:Nat->Int) (w:WS):Prop where
 sum:1000000000*w.1+w.2.1=gh pay w.2.2.toNat
 r0:0<=w.2.1
 r1:w.2.1<1000000000
 b0:0<=w.2.2
def InvW.start (pay:Nat->Int):InvW pay (0,0,0):=⟨by simp[gh],by simp,by simp,by simp⟩
def InvW.step {pay:Nat->Int}(hp:∀s,0<=pay s){w:WS}(h:InvW pay w){x:Int}(hc:∀s:Nat,w.2.2<s->(s:Int)<=x->pay s=pay x.toNat):InvW pay (wX pay w x):=by
 unfold wX;by_cases hx:x<=w.2.2
 .rw[if_pos hx];exact h
 rw[if_neg hx];obtain⟨h1,h2,h3,h4⟩:=h;obtain⟨whole,rest,below⟩:=w;simp only at*;have hk:below.toNat+(x-below).toNat=x.toNat:=by omega
 have hs:=Ot (f:=pay) (p:=pay x.toNat) (x-below).toNat below.toNat λs k1 k2=>hc s (by omega) (by omega);rw[hk] at hs;have e1:(((x-below).toNat:Nat):Int)=x-below:=by omega
 rw[e1] at hs;have hm:=Int.mul_ediv_add_emod ((x-below)%1000000000*pay x.toNat+rest) 1000000000;have hw:=Int.mul_ediv_add_emod (x-below) 1000000000;have hmul:(x-below)*pay x.toNat=1000000000*((x-below)/1000000000*pay x.toNat)+(x-below)%1000000000*pay x.toNat:=by
  rw[<-Int.mul_assoc,<-O2,hw]
 have p0:=hp x.toNat;refine⟨?_,?_,?_,?_⟩
 .show 1000000000*(whole+(x-below)/1000000000*pay x.toNat+((x-below)%1000000000*pay x.toNat+rest)/1000000000)+((x-below)%1000000000*pay x.toNat+rest)%1000000000=gh pay x.toNat;rw[hs,<-h1,hmul];generalize (x-below)/1000000000*pay x.toNat=A at*;generalize (x-below)%1000000000*pay x.toNat=B at*;omega
 .exact Int.emod_nonneg _ (by omega)
 .exact Int.emod_lt_of_pos _ (by omega)
 .show 0<=x;omega
def O1 (pay:Nat->Int)(L:List Int):Prop:=∀s x:Nat,s<=x->(∀y,y∈L->y<(s:Int)\/(x:Int)<=y)->pay s=pay x
def Rj {pay:Nat->Int}(hp:∀s,0<=pay s){L:List Int}(hg:O1 pay L)(hs:L.Pairwise (·<=·))(h0:∀x,x∈L->0<=x):∀k,k<=L.length->
 InvW pay (ir pay (L.take k))/\(∀j (hj:j<L.length),j<k->L[j]<=(ir pay (L.take k)).2.2)/\((ir pay (L.take k)).2.2=0\/(ir pay (L.take k)).2.2∈L)
 |0,_=>⟨.start pay,λj _ h=>absurd h (Nat.not_lt_zero _),.inl rfl⟩
 |k+1,hk=>by
  obtain⟨h1,h2,h3⟩:=Rj hp hg hs h0 k (by omega);have af:k<L.length:=by omega
  have e:ir pay (L.take (k+1))=wX pay (ir pay (L.take k)) L[k]:=by
   unfold ir;rw[iP af,tV];rfl
  rw[e];generalize ir pay (L.take k)=w at*;have hx0:=h0 _ (bS af);refine⟨h1.step hp λs k1 k2=>?_,λj hj mP=>?_,?_⟩
  .refine hg s _ (by omega) λy hy=>?_;obtain⟨j,hj,rfl⟩:=fm hy;by_cases mP:j<k
   .have:=h2 j hj mP;omega
   .have:L[k]<=L[j]:=by
     by_cases e:j=k
     .subst e;exact vi _
     .exact Pc.1 hs k j af hj (by omega)
    omega
  .unfold wX;by_cases hx:L[k]<=w.2.2
   .rw[if_pos hx];by_cases e:j=k
    .subst e;exact hx
    .exact h2 j hj (by omega)
   .rw[if_neg hx];show L[j]<=L[k];by_cases e:j=k
    .subst e;exact vi _
    .exact Pc.1 hs j k hj af (by omega)
  .unfold wX;by_cases hx:L[k]<=w.2.2
   .rw[if_pos hx];exact h3
   .rw[if_neg hx];exact .inr (bS af)
def aoT {pay:Nat->Int}(hp:∀s,0<=pay s){L:List Int}(hg:O1 pay L)(hs:L.Pairwise (·<=·))(h0:∀x,x∈L->0<=x){m:Nat}(hm:∀x,x∈L->x<=(m:Int))(hz:∀s:Nat,(∀y,y∈L->y<(s:Int))->pay s=0):
 (ir pay L).1=gh pay m/1000000000:=by
 obtain⟨h1,h2,h3⟩:=Rj hp hg hs h0 L.length (aX _);rw[DP] at h1 h2 h3;generalize ir pay L=w at*;have hb:w.2.2.toNat<=m:=by
  rcases h3 with e|e
  .rw[e];exact jI _
  .have:=hm _ e;omega
 have LR:gh pay m=gh pay w.2.2.toNat:=Dq (λs ef=>hz s λy hy=>by
  obtain⟨j,hj,rfl⟩:=fm hy;have:=h2 j hj hj;have:=h1.b0;omega) hb
 rw[LR,<-h1.sum];have:=h1.r0;have:=h1.r1;omega
def ma (e:Effect):Bool:=decide (e.binds=1)&&(decide (e.kind=1)||e.recourse)
def oh (r:Realm)(e:Effect):Int:=(r.firms.getD e.firm.toNat default).group
def dZ (r:Realm)(g:Int):Int:=(r.groups.getD g.toNat default).grade
def iu (r:Realm)(l:List Effect)(s:Int):List Int:=kf (lG ((l.filter λe=>decide (s<=e.sum)).map (oh r)))
def yi {r:Realm}{l:List Effect}{s g:Int}:g∈iu r l s↔∃e,e∈l/\s<=e.sum/\oh r e=g:=by
 unfold iu;rw[aml (L2 _),asi];simp only[cr,eH,decide_eq_true_eq,and_assoc]
def KW (r:Realm)(l:List Effect)(s:Int):(iu r l s).Pairwise (·<·):=amm (L2 _)
def qK (r:Realm)(gs:List Int)(ps:List Ratio):Int:=lW ps (fR (gs.map (dZ r))) 10
def dp (r:Realm)(l:List Effect)(ps:List Ratio)(s:Nat):Int:=1000000000-qK r (iu r l s) ps
def Gk:∀{a b:List Int},a.Pairwise (·<·)->b.Pairwise (·<·)->(∀x,x∈a->x∈b)->a.Sublist b
 |[],b,_,_,_=>List.nil_sublist b
 |x::a,[],_,_,h=>by have:=h x (by simp);cases this
 |x::a,y::b,ha,hb,h=>by
  obtain⟨a1,a2⟩:=xC.1 ha;obtain⟨b1,b2⟩:=xC.1 hb;by_cases e:x=y
  .subst e;refine List.Sublist.cons_cons _ (Gk a2 b2 λz hz=>?_);rcases cA.1 (h z (by simp[hz])) with e|e
   .have:=a1 z hz;omega
   .exact e
  .refine .cons _ (Gk ha b2 λz hz=>?_);rcases cA.1 (h z hz) with e'|e'
   .subst e';rcases cA.1 hz with e2|e2
    .exact absurd e2.symm e
    .have h1:=a1 _ e2;rcases cA.1 (h x (by simp)) with e3|e3
     .exact absurd e3 e
     .have:=b1 _ e3;omega
   .exact e'
def aej {a b:List Int}(ha:a.Pairwise (·<·))(hb:b.Pairwise (·<·))(h:∀x,x∈a↔x∈b):a=b:=
 (Gk ha hb λx hx=>(h x).1 hx).eq_of_length (Nat.le_antisymm (Gk ha hb λx hx=>(h x).1 hx).length_le (Gk hb ha λx hx=>(h x).2 hx).length_le)
def aEe {a b:List Int}(h:a.Sublist b)(f:Int->Int)(g:Nat):fR (a.map f) g<=fR (b.map f) g:=((h.map f).filter _).length_le
def wB {r:Realm}{ps:List Ratio}(hq:nG ps)(l:List Effect)(s:Nat):0<=dp r l ps s/\dp r l ps s<=1000000000:=by
 unfold dp qK;have h1:=QC hq (fR ((iu r l s).map (dZ r))) 10 (aX _);have h2:=abi hq (fR ((iu r l s).map (dZ r))) 10 (aX _);omega
def UY {r:Realm}{ps:List Ratio}{l:List Effect}{s:Nat}(h:∀e,e∈l->e.sum<(s:Int)):dp r l ps s=0:=by
 have e1:iu r l s=[]:=by
  rw[aam];intro g hg;obtain⟨e,he,h1,_⟩:=yi.1 hg;have:=h e he;omega
 unfold dp qK;rw[e1,abj ps (a:=fR (([]:List Int).map (dZ r))) (λg=>rfl)];rfl
def ahw (r:Realm)(l:List Effect)(ps:List Ratio):O1 (dp r l ps) (l.map (·.sum)):=by
 intro s x vS h;have e1:iu r l s=iu r l x:=by
  refine aej (KW _ _ _) (KW _ _ _) λg=>?_;rw[yi,yi];refine exists_congr λe=>and_congr_right λhe=>and_congr_left λ_=>?_;have:=h e.sum (xA he);omega
 unfold dp;rw[e1]
def ao8 {r:Realm}{l l':List Effect}(h:∀e,e∈l↔e∈l')(s:Int):iu r l s=iu r l' s:=
 aej (KW _ _ _) (KW _ _ _) λg=>by
  rw[yi,yi];exact exists_congr λe=>and_congr_left λ_=>h e
def gL (r:Realm)(l:List Effect)(ps:List Ratio):Int:=gh (dp r l ps) 1099511627776/1000000000
def ajK {r:Realm}{l l':List Effect}{ps:List Ratio}(hq:nG ps)(hp:∀e,e∈l'↔e∈l)(hs:l'.Pairwise (λa b=>a.sum<=b.sum))(h0:∀e,e∈l->0<=e.sum/\e.sum<=1099511627776):
 (ir (dp r l ps) (l'.map (·.sum))).1=gL r l ps:=by
 have hm:∀y,y∈l'.map (·.sum)->∃e,e∈l/\e.sum=y:=λy hy=>by
  obtain⟨e,he,rfl⟩:=cr.1 hy;exact⟨e,(hp e).1 he,rfl⟩
 refine aoT (λs=>(wB hq l s).1) (λs x vS h=>?_) (IS.2 hs) (λx hx=>?_) (λx hx=>?_) (λs h=>?_)
 .refine ahw r l ps s x vS λy hy=>?_;obtain⟨e,he,rfl⟩:=cr.1 hy;exact h _ (xA ((hp e).2 he))
 .obtain⟨e,he,rfl⟩:=hm x hx;exact(h0 e he).1
 .obtain⟨e,he,rfl⟩:=hm x hx;exact(h0 e he).2
 .exact UY λe he=>h _ (xA ((hp e).2 he))
def Ou {f:Nat->Int}{c:Int}:∀n,(∀s,0<s->s<=n->f s<=c)->gh f n<=(n:Int)*c
 |0,_=>by simp[gh]
 |n+1,h=>by
  have h1:=Ou n λs h1 h2=>h s h1 (by omega);have h2:=h (n+1) (by omega) (by omega);show gh f n+f (n+1)<=_;rw[Int.natCast_add,O2];simp;omega
def ajM {r:Realm}{l:List Effect}{ps:List Ratio}(hq:nG ps):0<=gL r l ps:=by
 unfold gL;refine aah ?_ (by omega);have h1:=WY (f:=λ_=>0) (g:=dp r l ps) 1099511627776 λs _ _=>(wB hq l s).1;have h2:=Dq (f:=λ_=>(0:Int)) (m:=0) (λ_ _=>rfl) (jI 1099511627776);have h3:gh (λ_=>(0:Int)) 0=0:=rfl;rw[h2,h3] at h1;exact h1
def aAC {r:Realm}{l:List Effect}{ps:List Ratio}(hq:nG ps){m:Nat}(hm:∀e,e∈l->e.sum<=(m:Int))(h1:m<=1099511627776):gL r l ps<=m:=by
 unfold gL;rw[Dq (f:=dp r l ps) (m:=m) (λs hs=>UY λe he=>by have:=hm e he;omega) h1];have:=Ou (f:=dp r l ps) (c:=1000000000) m λs _ _=>(wB hq l s).2;omega
def p5 (w x:Int):Int:=(w*x+359999)/360000
def nJ (w pm d:Int):Int×Int:=
 if wi w 0 1099511627776=true/\wi pm 0 1000=true/\wi d 0 20000=true then(if p5 w (pm*d)<=w then(p5 w (pm*d),0) else(0,3)) else(0,1)
def Cy (w x:Int):Int:=if p5 w x<=w then w-p5 w x else 0
def auB {w x:Int}(hw:0<=w)(hx:0<=x):0<=p5 w x:=by
 unfold p5;have:=Ae hw hx;omega
def afw {w x:Int}(hw:0<=w)(hx:0<=x):0<=Cy w x/\Cy w x<=w:=by
 have:=auB hw hx;unfold Cy;split<;>omega
def abH {w pm d:Int}(hw:0<=w/\w<=1099511627776)(hp:0<=pm/\pm<=1000)(hd:0<=d/\d<=20000):(if(nJ w pm d).2≠0 then 0 else w-(nJ w pm d).1)=Cy w (pm*d):=by
 have e:nJ w pm d=if p5 w (pm*d)<=w then(p5 w (pm*d),0) else(0,3):=by
  unfold nJ;rw[if_pos ⟨by simp[wi];omega,by simp[wi];omega,by simp[wi];omega⟩]
 rw[e];unfold Cy;split<;>simp
def zq (w pm due day:Int):Int×Int:=
 if due=-1 then(0,4) else if day<due/\20000<due-day then(0,3) else(Cy w (pm*max (due-day) 0),0)
def alT {a b:List Int}(h:a.Perm b)(g:Nat):fR a g=fR b g:=(h.filter _).length_eq
def WX (n:Int):jF n ⟨0,1⟩=0:=by simp[jF]
def axn (n:Int):jF n ⟨1,1⟩=n:=by simp[jF]
def aew:∀(k:Nat),0<k->∀n:Int,lI ⟨0,1⟩ k n=0
 |1,_,n=>by simp[lI,WX]
 |k+2,_,n=>by rw[lI,WX];exact aew (k+1) (by omega) 0
def aey:∀(k:Nat),lI ⟨0,1⟩ k 0=0
 |0=>rfl
 |k+1=>by rw[lI,WX];exact aey k
def aeu:∀(k:Nat) (n:Int),lI ⟨1,1⟩ k n=n
 |0,_=>rfl
 |k+1,n=>by rw[lI,axn];exact aeu k n
def nf:List Ratio:=List.replicate 10 ⟨0,1⟩
def qI:List Ratio:=List.replicate 10 ⟨1,1⟩
def aiR {p:Ratio}{g:Nat}(hg:g<10):(List.replicate 10 p).getD g default=p:=by
 rw[aE,Pa,if_pos hg];rfl
def abk (ke:Nat->Nat):∀g,g<=10->lW qI ke g=1000000000
 |0,_=>rfl
 |g+1,hg=>by rw[lW,qI,aiR (by omega),aeu];exact abk ke g (by omega)
def abl (ke:Nat->Nat):∀g,g<=10->(∃i,i<g/\0<ke i)->lW nf ke g=0
 |0,_,h=>by obtain⟨i,hi,_⟩:=h;omega
 |g+1,hg,h=>by
  rw[lW,nf,aiR (by omega)];by_cases h0:0<ke g
  .exact aew _ h0 _
  .have:∃i,i<g/\0<ke i:=by
    obtain⟨i,hi,hc⟩:=h;by_cases e:i=g
    .subst e;exact absurd hc h0
    .exact⟨i,by omega,hc⟩
   have:=abl ke g (by omega) this;rw[nf] at this;rw[this,aey]
def aAB (r:Realm)(l:List Effect):gL r l qI=0:=by
 have h1:dp r l qI=λ_=>0:=by
  funext s;unfold dp qK;rw[abk _ 10 (aX _)];rfl
 unfold gL;rw[h1];have h2:=Dq (f:=λ_=>(0:Int)) (m:=0) (λ_ _=>rfl) (jI 1099511627776);rw[h2];rfl
def eT:List Effect->Nat
 |[]=>0
 |e::l=>max e.sum.toNat (eT l)
def afs {l:List Effect}:∀e,e∈l->e.sum<=(eT l:Int):=by
 induction l with
 |nil=>intro e he;cases he
 |cons x l ih=>
  intro e he;rcases cA.1 he with rfl|he
  .simp[eT];omega
  .have:=ih e he;simp[eT];omega
def TJ:∀(l:List Effect),0<eT l->∃e,e∈l/\e.sum=(eT l:Int)
 |[],h=>by simp[eT] at h
 |x::l,h=>by
  by_cases hx:eT l<=x.sum.toNat
  .refine⟨x,by simp,?_⟩;simp[eT] at h ⊢;omega
  .obtain⟨e,he,hs⟩:=TJ l (by omega);exact⟨e,by simp[he],by simp[eT];omega⟩
def afr {l:List Effect}{m:Nat}(h:∀e,e∈l->e.sum<=(m:Int)):eT l<=m:=by
 rcases Am (eT l) with e|e
 .omega
 .obtain⟨x,hx,hs⟩:=TJ l e;have:=h x hx;omega
def aAD {r:Realm}{l:List Effect}(hb:∀e,e∈l->e.sum<=1099511627776)(hg:∀e,e∈l->0<=dZ r (oh r e)/\dZ r (oh r e)<10):gL r l nf=eT l:=by
 have hm:eT l<=1099511627776:=afr hb;have hp:∀s:Nat,0<s->s<=eT l->dp r l nf s=1000000000:=by
  intro s h0 hs;obtain⟨e,he,ju⟩:=TJ l (by omega);have jv:=hg e he;have cQ:oh r e∈iu r l s:=yi.2 ⟨e,he,by omega,rfl⟩;unfold dp qK;rw[abl _ 10 (aX _) ⟨(dZ r (oh r e)).toNat,by omega,?_⟩]
  .rfl
  .unfold fR;rw[Ai];intro hn;have:=List.filter_eq_nil_iff.1 hn _ (xA cQ);simp at this;omega
 unfold gL;rw[Dq (f:=dp r l nf) (m:=eT l) (λs hs=>UY λe he=>by have:=afs e he;omega) hm];have:=Ot (f:=dp r l nf) (p:=1000000000) (eT l) 0 λs h1 h2=>hp s h1 (by omega);rw[fQ] at this;rw[this];simp[gh]
end Rm
namespace Rm
open Go Go.Proofs Cx
def abI {r:Realm}{b:Bill}(hr:RightD r)(hc:il r=0)(RO:aD b.city r.cities.length=true)(eB:aD b.pay r.cities.length=true)(hd:eu b.day=true)(hk:b.tenor.kind=3)(hu:b.tenor.unit=0)
 (hn:eu b.tenor.n=true) {g:Int} (hg:0<=g/\g<=20000) (hs:b.tenor.n+g<=100000):qU r b (-1) g=lS r b.pay (b.tenor.n+g):=by
 have ki:=N2 r hr.small;rw[hc] at ki;have lD:0<=b.tenor.n/\b.tenor.n<=100000:=by simpa [eu] using hn
 have yP:=WM r hr.halts b.pay (b.tenor.n+g) (by simpa [aD] using eB) hr.cities (by omega) (by omega);have hb:ah T 76 [aQ r,dE b,.int (-1)] (.tup [.int b.tenor.n,.int 0]):=by
  refine .of_tree rfl xM zS ?_;simp[oV,hk]
 have h:ah T 37 [aQ r,dE b,.int (-1),.int g] (.tup [.int (lS r b.pay (b.tenor.n+g)).1,.int (lS r b.pay (b.tenor.n+g)).2]):=by
  have uI:=Cl r b.city;have adf:=Cl r b.pay;have yy:=we b.day;have hi3:=we b.tenor.n;have hi4:=DT b.tenor;rw[RO] at uI;rw[eB] at adf;rw[hd] at yy;rw[hn] at hi3;rw[show Dl b.tenor=false from by simp[Dl,hk]] at hi4;have hw:i64.wrap (b.tenor.n+g)=b.tenor.n+g:=aO (by omega);have jv:¬g<0:=by omega
  have iv:¬20000<g:=by omega
  have dT:¬100000<b.tenor.n+g:=by omega
  refine .of_tree rfl Pz Zb ?_;simp[It];refine⟨_,ki,?_⟩;simp;refine⟨_,uI,?_⟩;simp;refine⟨_,adf,?_⟩;simp;refine⟨_,yy,?_⟩;simp[hk,hu,jv,iv];refine⟨_,hi4,?_⟩;simp;refine⟨_,hb,?_⟩;simp;refine⟨_,hi3,?_⟩;simp[hw,dT];refine⟨_,yP,?_⟩;simp
 have h2:=h.det (OZ r hr b (-1) g);simp at h2;exact Prod.ext h2.1.symm h2.2.symm
def av2 (l:List Int)(hl:l.length<=4000000):ah T 20 [ints l,ints l] (.bool true):=by
 refine zyw 117 azc ?_;simp[Yn];refine aL.forRounds l.length (λk=>[.bool false,.int k]) (λ_=>[]) ?_ (λk hk=>?_) ?_
 .simp
 .have hw:=br hk (by omega);simp[aiB,NQ,hk,hw]
 .simp[aiB,NQ]
def LY {n:Int}(h:-100000<=n/\n<=100000):aZ n:=by unfold aZ;omega
def kK (x:Ratio):D:=.agg [.int x.num,.int x.den]
@[simp] def aCu (x:Ratio):(kK x).cells=[.int x.num,.int x.den]:=zyz
@[simp] def aG0 (x:Ratio):D.agg [.int x.num,.int x.den]=kK x:=zyz
@[simp] def aCs (x:Ratio):(kK x).c 0=.int x.num:=zyz
@[simp] def aCt (x:Ratio):(kK x).c 1=.int x.den:=zyz
def va (l:List Ratio):D:=.list (l.map kK)
@[simp] def aHB (l:List Ratio):(va l).l=l.map kK:=zyz
@[simp] def aHA (l:List Ratio):(va l).cells=[va l]:=zyz
def lq (x:Quote):D:=.agg [.int x.perMille,va x.fails]
@[simp] def aCl (x:Quote):(lq x).cells=[.int x.perMille,va x.fails]:=zyz
@[simp] def aGY (x:Quote):D.agg [.int x.perMille,va x.fails]=lq x:=zyz
@[simp] def aCj (x:Quote):(lq x).c 0=.int x.perMille:=zyz
@[simp] def aCk (x:Quote):(lq x).c 1=va x.fails:=zyz
abbrev ajE:Ty:=.agg [.int .i64,.int .i64]
abbrev aAf:Ty:=.agg [.int .i64,.slice ajE]
def Ratio.OK (x:Ratio):Prop:=aZ x.num/\aZ x.den
def Quote.OK (x:Quote):Prop:=aZ x.perMille/\x.fails.length<=maxLen/\∀p,p∈x.fails->p.OK
def awi {d:D}(h:DTy ajE d):∃x:Ratio,d=kK x/\x.OK:=by
 obtain⟨ds,rfl,hs⟩:=h.agg_inv;obtain⟨d0,ds,rfl,h0,hs⟩:=hs.cons_inv;obtain⟨d1,ds,rfl,h1,hs⟩:=hs.cons_inv;obtain rfl:=hs.nil_inv;obtain⟨n0,rfl,b0⟩:=h0.i64_inv;obtain⟨n1,rfl,b1⟩:=h1.i64_inv;exact⟨⟨n0,n1⟩,rfl,⟨b0,b1⟩⟩
def avK {d:D}(h:DTy aAf d):∃x:Quote,d=lq x/\x.OK:=by
 obtain⟨ds,rfl,hs⟩:=h.agg_inv;obtain⟨d0,ds,rfl,h0,hs⟩:=hs.cons_inv;obtain⟨d1,ds,rfl,h1,hs⟩:=hs.cons_inv;obtain rfl:=hs.nil_inv;obtain⟨n0,rfl,b0⟩:=h0.i64_inv;obtain⟨xs,rfl,hm,hx⟩:=h1.slice_inv;obtain⟨l,rfl,hl⟩:=ky (enc:=kK) (P:=Ratio.OK) λx hh=>awi (hx x hh);exact⟨⟨n0,l⟩,rfl,⟨b0,by simpa using hm,hl⟩⟩
def mH (p:Ratio):Bool:=decide (p.den<1)||decide (1073741824<p.den)||decide (p.num<0)||decide (p.den<p.num)
def jf (q:Quote):Int:=if q.perMille<0\/1000<q.perMille\/q.fails.length≠10\/q.fails.any mH=true then 1 else 0
def G1 {q:Quote}(h:jf q=0):0<=q.perMille/\q.perMille<=1000/\nG q.fails:=by
 unfold jf at h;split at h
 .cases h
 rename_i h1;have h2:q.fails.any mH=false:=by
  cases e:q.fails.any mH with
  |false=>rfl
  |true=>exact absurd (.inr (.inr (.inr e))) h1
 refine⟨by omega,by omega,?_,λp hp=>?_⟩
 .exact DG λe=>h1 (.inr (.inr (.inl e)))
 .have:=List.any_eq_false.1 h2 p hp;simp[mH] at this;unfold Ratio.right;omega
def aj9 (l:List Ratio)(f:Nat)(caps:List D)(g:Nat->Bool)(hg:∀k (hk:k<l.length),ah T f (kK l[k]::caps) (.bool (g k)))(hl:l.length<=4294967296):
 ah T 81 [va l,.clo f caps] (.int (mY l.length g)):=by
 refine zyw 8 azK ?_;simp[YV];refine .scan l.length (λk=>g k=false) (λk=>[.int 0,.int k]) (λ_=>[]) ?_ (λk hk hj ho=>?_) (λk hk hj ho=>?_) (λhj=>?_)
 .simp
 .have hw:=br hk hl;simp[Wl,HW,hk,hw];refine⟨_,_,⟨rfl,rfl⟩,_,hg k hk,?_⟩;simp[ho,hw]
 .have he:=L5 hk (by simpa using ho) hj;simp[Wl,HW,hk,he];refine⟨_,_,⟨rfl,rfl⟩,_,hg k hk,?_⟩;simp[ho]
 .have he:=L4 hj;simp[Wl,HW,he]
def aj3 (l:List Ratio)(f:Nat)(caps:List D)(g:Nat->Bool)(hg:∀k (hk:k<l.length),ah T f (kK l[k]::caps) (.bool (g k)))(hl:l.length<=4294967296):
 ah T 42 [va l,.clo f caps] (.bool ((List.range l.length).any g)):=by
 refine zyw 7 azF ?_;simp[YQ];refine⟨_,aj9 l f caps g hg hl,?_⟩;have:=Tn l.length g;simp[<-this]
def aj0 (p:Ratio):ah T 41 [kK p] (.bool (mH p)):=by
 refine zyw 6 ayJ ?_;simp[XY,mH];by_cases h1:p.den<1<;>by_cases h2:1073741824<p.den<;>by_cases h3:p.num<0<;>by_cases h4:p.den<p.num<;>simp[h1,h2,h3,h4]
def OY (q:Quote)(hl:q.fails.length<=4294967296):ah T 19 [lq q] (.int (jf q)):=by
 refine zyw 5 ayK ?_
 have h:=aj3 q.fails 41 [] (λk=>mH (q.fails.getD k default)) (λk hk=>by
  have e:q.fails.getD k default=q.fails[k]:=by simp[hk]
  rw[e];exact aj0 _) hl
 have e:(List.range q.fails.length).any (λk=>mH (q.fails.getD k default))=q.fails.any mH:=by
  rw[tR,xu,xu];constructor
  .rintro⟨k,hk,hb⟩;have bf:=fP.1 hk;exact⟨q.fails[k],bS bf,by simpa [bf] using hb⟩
  .rintro⟨p,hp,hb⟩;obtain⟨k,hk,rfl⟩:=fm hp;exact⟨k,fP.2 hk,by simpa [hk] using hb⟩
 rw[e] at h;by_cases p1:0<=q.perMille
 case neg=>
  have n1:q.perMille<0:=by omega
  have e1:jf q=1:=by unfold jf;rw[if_pos (.inl n1)]
  rw[e1];simp[Dv,p1,n1]
 have n1:¬q.perMille<0:=by omega
 by_cases p2:q.perMille<=1000
 case neg=>
  have n2:1000<q.perMille:=by omega
  have e1:jf q=1:=by unfold jf;rw[if_pos (.inr (.inl n2))]
  rw[e1];simp[Dv,p1,n1,p2,n2]
 have n2:¬1000<q.perMille:=by omega
 by_cases p3:q.fails.length=10
 case neg=>
  have n3:¬(q.fails.length:Int)=10:=by omega
  have e1:jf q=1:=by unfold jf;rw[if_pos (.inr (.inr (.inl p3)))]
  rw[e1];simp[Dv,p1,n1,p2,n2,p3,n3]
 have n3:(q.fails.length:Int)=10:=by omega
 have e1:jf q=if q.fails.any mH=true then 1 else 0:=by
  unfold jf;by_cases hb:q.fails.any mH=true
  .rw[if_pos hb,if_pos (.inr (.inr (.inr hb)))]
  .rw[if_neg hb,if_neg (by rintro(h|h|h|h);exact n1 h;exact n2 h;exact h p3;exact hb h)]
 rw[e1];clear e e1;generalize q.fails.any mH=b at h ⊢;simp[Dv,p1,n1,p2,n2,p3,n3];refine⟨_,h,?_⟩;cases b<;>simp
def avk (a b c:Nat)(ha:a<9223372036854775808)(hb:b<9223372036854775808)(hc:0<c)(hc2:c<9223372036854775808):
 ah T 40 [.int a,.int b,.int c] (if 1099511627776<a*b/c then .tup [.int 0,.int 0,.bool false] else .tup [.int ((a*b/c:Nat):Int),.int ((a*b%c:Nat):Int),.bool true]):=by
 refine zyw 112 ays ?_;have wa:IntKind.u64.wrap (a:Int)=a:=j3 (by omega);have wb:IntKind.u64.wrap (b:Int)=b:=j3 (by omega);have wc:IntKind.u64.wrap (c:Int)=c:=j3 (by omega);simp[XI,wa,wb,wc,-Int.natCast_ediv,-Int.natCast_emod,-Int.natCast_mul];refine⟨_,aft a b (by omega) (by omega),?_⟩;have uD:=Al (a*b) 18446744073709551616;have pG:a*b%18446744073709551616<18446744073709551616:=qB _ (by decide);generalize B0:a*b/18446744073709551616=hi at*;generalize aF1:a*b%18446744073709551616=lo at*;by_cases h1:c<=hi
 .have cB:(c:Int)<=(hi:Int):=by omega
  have acQ:18446744073709551616<=a*b/c:=by
   rw[Pk hc];have:=Nat.mul_le_mul_left 18446744073709551616 h1;omega
  have db:1099511627776<a*b/c:=by omega
  simp[h1,db]
 .have cB:¬(c:Int)<=(hi:Int):=by omega
  have hd:=amv hi lo c hc (by omega) pG (by omega);have e:hi*18446744073709551616+lo=a*b:=by omega
  rw[e] at hd;have gy:a*b%c<c:=qB _ hc;simp[h1,-Int.natCast_ediv,-Int.natCast_emod,-Int.natCast_mul];refine⟨_,hd,?_⟩;generalize a*b/c=q at*;generalize a*b%c=r at*;by_cases h2:1099511627776<q
  .have fa:(1099511627776:Int)<(q:Int):=by omega
   simp[h2,fa]
  .have fa:¬(1099511627776:Int)<(q:Int):=by omega
   have hw:i64.wrap (q:Int)=q:=aO (by omega);have cT:i64.wrap (r:Int)=r:=aO (by omega);simp[h2,fa,hw,cT]
def alq (n:Nat):((n:Int)+359999)/360000=((n/360000:Nat):Int)+if 0<n%360000 then 1 else 0:=by
 split<;>omega
def aaf (w pm d:Int):ah T 14 [.int w,.int pm,.int d] (.tup [.int (nJ w pm d).1,.int (nJ w pm d).2]):=by
 refine zyw 110 ayr ?_;simp[XH];refine⟨_,ZR _ _,?_⟩;cases h1:wi w 0 1099511627776
 .simp[nJ,h1]
 simp;refine⟨_,ZR _ _,?_⟩;cases h2:wi pm 0 1000
 .simp[nJ,h1,h2]
 simp;refine⟨_,ZR _ _,?_⟩;cases h3:wi d 0 20000
 .simp[nJ,h1,h2,h3]
 simp[wi] at h1 h2 h3;obtain⟨a,rfl⟩:=qz h1.1;obtain⟨b,rfl⟩:=qz h2.1;obtain⟨c,rfl⟩:=qz h3.1;have RI:b*c<=20000000:=gl (DS (show b<=1000 by omega) (show c<=20000 by omega)) (by decide);have hw:i64.wrap ((b:Int)*(c:Int))=((b*c:Nat):Int):=by rw[<-Int.natCast_mul];exact aO (by omega)
 have hp:=avk a (b*c) 360000 (by omega) (by omega) (by decide) (by decide);have hdF:nJ a b c=if p5 a ((b*c:Nat):Int)<=(a:Int) then(p5 a ((b*c:Nat):Int),0) else(0,3):=by
  unfold nJ;rw[if_pos ⟨by simp[wi];omega,by simp[wi];omega,by simp[wi];omega⟩,Int.natCast_mul]
 have iY:p5 a ((b*c:Nat):Int)=((a*(b*c)/360000:Nat):Int)+if 0<a*(b*c)%360000 then 1 else 0:=by
  unfold p5;rw[<-Int.natCast_mul,alq]
 rw[hdF,iY];generalize a*(b*c)/360000=q at*;generalize a*(b*c)%360000=r at*;simp[hw];refine⟨_,hp,?_⟩;by_cases hq:1099511627776<q
 .have:¬((q:Int)+(if 0<r then 1 else 0)<=(a:Int)):=by split<;>omega
  rw[if_pos hq];simp[this]
 .rw[if_neg hq];by_cases hr:0<r
  .have oD:(0:Int)<(r:Int):=by omega
   have cT:i64.wrap ((q:Int)+1)=(q:Int)+1:=aO (by omega);by_cases hle:(q:Int)+1<=(a:Int)
   .have oz:¬((a:Int)<(q:Int)+1):=by omega
    simp[hr,oD,cT,hle,oz]
   .have oz:(a:Int)<(q:Int)+1:=by omega
    simp[hr,oD,cT,hle,oz]
  .have oD:¬(0:Int)<(r:Int):=by omega
   by_cases hle:(q:Int)<=(a:Int)
   .have oz:¬((a:Int)<(q:Int)):=by omega
    have iw:¬(a<q):=by omega
    simp[hr,oD,hle,oz,iw]
    try omega
   .have oz:(a:Int)<(q:Int):=by omega
    have iw:a<q:=by omega
    simp[hr,oD,hle,oz,iw]
    try omega
def dB (r:Realm)(forum:Int)(f:File)(day:Int):List Effect:=(nZ r forum f day).filter ma
def amp (l:List Effect)(h:l.length<=4294967296):ah T 56 [nY l,.clo 57 []] (nY (l.filter ma)):=by
 refine .of_ext (g:=λ_ ds=>KK ds) rfl ⟨0,λ_ _=>?_⟩;show(if 57=57/\(l.map gQ).length<=4294967296 then some (D.list ((l.map gQ).filter gW)) else none)=_;rw[if_pos ⟨rfl,by simpa using h⟩,List.filter_map];rfl
def QY (r:Realm)(forum:Int)(f:File)(day:Int):(nZ r forum f day).length<=f.signs.length:=by
 unfold nZ;rw[dY,aar];exact(Pg _).length_le
def aeQ (r:Realm)(hr:Right r)(hd:RightD r)(forum:Int)(f:File)(day:Int)(hf:FewS f):ah T 27 [aQ r,.int forum,cu f,.int day] (nY (dB r forum f day)):=by
 refine zyw 14 ayU ?_;simp[X5];have hl:=QY r forum f day;have:=hf.signs;refine⟨_,aag r hr hd forum f day hf,?_⟩;exact amp _ (by omega)
def Tk (r:Realm)(forum:Int):ah T 26 [aQ r,.int forum] (.bool (decide (0<=forum/\forum<r.orders.length))):=by
 refine zyw 13 ayS ?_;simp[X4];by_cases h:0<=forum<;>simp[h]
def Ti (l:List Int):(l.map D.int).map D.i=l:=by rw[nF];exact xy _
def axj (l:List Int)(h:l.length<=4294967296):ah T 63 [.none,ints l] (.tup [.tup [],ints (lG l)]):=by
 refine .of_ext (g:=λ_ ds=>Ip ds) rfl ⟨0,λ_ _=>?_⟩;show(if(l.map D.int).length<=4294967296 then some (D.tup [.tup [],ints (lG ((l.map D.int).map D.i))]) else none)=_;rw[Ti,if_pos (by simpa using h)]
def al5 (l:List Int)(h:l.length<=4294967296):ah T 64 [ints l] (ints (kf l)):=by
 refine .of_ext (g:=λ_ ds=>KI ds) rfl ⟨0,λ_ _=>?_⟩;show(if(l.map D.int).length<=4294967296 then some (ints (kf ((l.map D.int).map D.i))) else none)=_;rw[Ti,if_pos (by simpa using h)]
def alP (l:List Int)(h:l.length<=4294967296):ah T 60 [ints l] (ints l):=by
 refine .of_ext (g:=λ_ ds=>KE ds) rfl ⟨0,λ_ _=>?_⟩;show(if(l.map D.int).length<=4294967296 then some (D.list (l.map D.int)) else none)=_;rw[if_pos (by simpa using h)];rfl
def IK (r:Realm)(l:List Effect):Prop:=∀e,e∈l->0<=e.firm/\e.firm<r.firms.length
def sN (r:Realm)(l:List Effect)(s:Int):List Int:=(l.filter λe=>decide (s<=e.sum)).map (oh r)
def apf (r:Realm)(l:List Effect)(e:Effect)(s:Int):sN r (l++[e]) s=sN r l s++if s<=e.sum then[oh r e] else[]:=by
 unfold sN;rw[IN,pf]
 congr 1
 by_cases h:s<=e.sum<;>simp[List.filter,h]
def aco (r:Realm)(l:List Effect)(s:Int):(sN r l s).length<=l.length:=by
 unfold sN;rw[dY];exact oZ _ _
def acm (r:Realm)(l:List Effect)(s:Int)(hf:IK r l)(hl:l.length<=1000):ah T 31 [aQ r,nY l,.int s] (ints (iu r l s)):=by
 refine zyw 108 ayR ?_;simp[X3];refine aL.forRounds l.length (λk=>[.none,.int k]) (λk=>[ints (sN r (l.take k) s)]) ?_ (λk hk=>?_) ?_
 .simp[sN,ints]
 .have hw:=br hk (by omega);obtain⟨f1,f2⟩:=hf _ (bS hk);rw[iP hk,apf];have FA:=aco r (l.take k) s;rw[dL] at FA;generalize sN r (l.take k) s=G at*;simp[aiA,NN,hk,hw];generalize l[k]=e at*;have af:e.firm.toNat<r.firms.length:=by omega
  have hg:oh r e=r.firms[e.firm.toNat].group:=by unfold oh;simp[af]
  by_cases h:s<=e.sum
  .simp[h,hg,f1,f2,af];exact⟨by omega,by simp[ints]⟩
  .simp[h]
 .rw[DP];have FA:=aco r l s;have hG:iu r l s=kf (lG (sN r l s)):=rfl;rw[hG];generalize sN r l s=G at*;have hs:=axj G (by omega);have hc:=al5 (lG G) (by rw[L1];omega);simp[aiA,NN];refine⟨_,hs,?_⟩;simp;exact hc
def DI (r:Realm)(gs:List Int):Prop:=∀g,g∈gs->0<=g/\g<r.groups.length
def xq (r:Realm):Prop:=∀g,g∈r.groups->0<=g.grade/\g.grade<10
def xq.at {r:Realm}(h:xq r){g:Int}(h0:0<=g)(h1:g<r.groups.length):0<=dZ r g/\dZ r g<10:=by
 have af:g.toNat<r.groups.length:=by omega
 unfold dZ;rw[aE,aW af];exact h _ (bS af)
def Rq (r:Realm)(g:Int)(h0:0<=g)(h1:g<r.groups.length):dO (aQ r) (.int g)=dZ r g:=by
 have af:g.toNat<r.groups.length:=by omega
 unfold dO dZ;show((((groups r.groups).l.getD g.toNat .none).c 0).i:Int)=_;rw[show(groups r.groups).l=r.groups.map sJ from rfl,aE,cj,aW af,aE,aW af];rfl
def qJ (r:Realm)(gs:List Int):List Int:=(gJ (dO (aQ r)) (gs.map D.int)).map D.i
def Qr (r:Realm)(gs:List Int):(qJ r gs).Perm gs:=by
 have:=(se (dO (aQ r)) (gs.map D.int)).map D.i
 rwa [Ti] at this
def alc (r:Realm)(gs:List Int):D.list (gJ (dO (aQ r)) (gs.map D.int))=ints (qJ r gs):=by
 unfold qJ ints;rw[nF]
 congr 1
 conv=>lhs;rw[<-xy (gJ (dO (aQ r)) (gs.map D.int))]
 refine tW λx hx=>?_;obtain⟨g,_,rfl⟩:=cr.1 ((se _ _).mem_iff.1 hx);rfl
def ald (r:Realm){gs:List Int}(h:DI r gs):((qJ r gs).map (dZ r)).Pairwise (·<=·):=by
 unfold qJ;rw[nF,IS];refine(ajj (dO (aQ r)) (gs.map D.int)).imp_of_mem λ{a b} ha hb rf=>?_;obtain⟨x,hx,rfl⟩:=cr.1 ((se _ _).mem_iff.1 ha);obtain⟨y,hy,rfl⟩:=cr.1 ((se _ _).mem_iff.1 hb);rw[Rq r x (h x hx).1 (h x hx).2,Rq r y (h y hy).1 (h y hy).2] at rf;exact rf
def axi (r:Realm)(gs:List Int)(hg:DI r gs)(hr:xq r)(hl:gs.length<=4294967296):ah T 61 [.none,.clo 62 [.ref (aQ r)],ints gs] (.tup [.tup [],ints (qJ r gs)]):=by
 have aK:(gs.map D.int).all (zh (aQ r))=true:=by
  rw[cN];intro x hx;obtain⟨g,uH,rfl⟩:=cr.1 hx;obtain⟨h0,h1⟩:=hg g uH;have h2:=hr.at h0 h1;have e:((aQ r).c 2).l.length=r.groups.length:=by show(r.groups.map sJ).length=_;simp
  simp only[zh,ao,decide_eq_true_eq,Rq r g h0 h1,e];have e2:(D.int g).i=g:=rfl;rw[e2];exact⟨⟨h0,by omega⟩,by omega⟩
 refine .of_ext (g:=λ_ ds=>Oj ds) rfl ⟨0,λ_ _=>?_⟩;show(if 62=62/\(gs.map D.int).length<=4294967296/\(gs.map D.int).all (zh (aQ r))=true then some (D.tup [.tup [],.list (gJ (dO (aQ r)) (gs.map D.int))]) else none)=_;rw[if_pos ⟨rfl,by simpa using hl,aK⟩,alc]
def alA (r:Realm)(gs:List Int)(ps:List Ratio):lW ps (fR ((qJ r gs).map (dZ r))) 10=qK r gs ps:=by
 unfold qK;have e:fR ((qJ r gs).map (dZ r))=fR (gs.map (dZ r)):=by
  funext g;exact alT ((Qr r gs).map _) g
 rw[e]
def acf {ps:List Ratio}(hq:nG ps):∀(l:List Int),(∀x,x∈l->0<=x/\x<10)->∀n:Int,0<=n/\n<=1000000000->0<=l.foldl (λn x=>jF n (ps.getD x.toNat default)) n/\l.foldl (λn x=>jF n (ps.getD x.toNat default)) n<=1000000000
 |[],_,n,h=>h
 |x::l,hx,n,h=>by
  have hp:=hq.at (g:=x.toNat) (by have:=hx x (by simp);omega);exact acf hq l (λy hy=>hx y (by simp[hy])) _ ⟨On hp h.1,O3 (WW hp h.1) h.2⟩
def abm (r:Realm)(gs:List Int)(q:Quote)(hg:DI r gs)(hr:xq r)(hq:nG q.fails)(hl:gs.length<=1000000):ah T 30 [aQ r,ints gs,lq q] (.int (qK r gs q.fails)):=by
 refine zyw 9 ayQ ?_;simp[X2];refine⟨_,alP gs (by omega),?_⟩;refine⟨_,axi r gs hg hr (by omega),?_⟩;have Fm:(qJ r gs).length=gs.length:=(Qr r gs).length_eq;have BS:DI r (qJ r gs):=λg h=>hg g ((Qr r gs).mem_iff.1 h)
 have kl:=aoU q.fails (ald r hg) (λx hx=>by
  obtain⟨g,uH,rfl⟩:=cr.1 hx;exact hr.at (BS g uH).1 (BS g uH).2)
 rw[alA,aao] at kl;rw[<-kl];generalize qJ r gs=L at*
 have yM:∀k,0<=(L.take k).foldl (λn g=>jF n (q.fails.getD (dZ r g).toNat default)) 1000000000/\(L.take k).foldl (λn g=>jF n (q.fails.getD (dZ r g).toNat default)) 1000000000<=1000000000:=λk=>by
  have:=acf hq ((L.take k).map (dZ r)) (λx hx=>by
   obtain⟨g,uH,rfl⟩:=cr.1 hx;exact hr.at (BS g (aat uH)).1 (BS g (aat uH)).2) 1000000000 (by omega)
  rw[aao] at this;exact this
 simp;refine aL.forRounds L.length (λk=>[.int ((L.take k).foldl (λn g=>jF n (q.fails.getD (dZ r g).toNat default)) 1000000000),.int k]) (λ_=>[]) ?_ (λk hk=>?_) ?_
 .simp
 .have hw:=br hk (by omega);obtain⟨g0,g1⟩:=BS _ (bS hk);have rn:=hr.at g0 g1;have hn:=yM k;rw[iP hk,tV];simp only[xw,List.foldl_nil];generalize (L.take k).foldl (λn g=>jF n (q.fails.getD (dZ r g).toNat default)) 1000000000=n at*;simp[aiz,NM,hk,hw];generalize L[k]=g at*;have af:g.toNat<r.groups.length:=by omega
  have hga:dZ r g=r.groups[g.toNat].grade:=by unfold dZ;simp[af]
  have aFV:q.fails.length=10:=hq.1;have ads:(dZ r g).toNat<q.fails.length:=by omega
  have hp:=hq.at (g:=(dZ r g).toNat) (by omega);have oB:q.fails.getD (dZ r g).toNat default=q.fails[(dZ r g).toNat]:=by simp[ads]
  rw[oB] at hp;have gR:(((Option.map sJ r.groups[g.toNat]?).getD D.none).c 0).i=dZ r g:=by rw[hga];simp[af]
  rw[gR];simp only[aW ads,kG,kF];generalize q.fails[(dZ r g).toNat]=p at*;obtain⟨p1,p2,p3,p4⟩:=hp;have m1:n*p.num<=1000000000*1073741824:=aai (by omega) (by omega) (by omega) (by omega);have m0:0<=n*p.num:=Ae hn.1 p3;have hs:=On ⟨p1,p2,p3,p4⟩ hn.1;have dT:=WW ⟨p1,p2,p3,p4⟩ hn.1;refine⟨⟨g0,g1⟩,⟨rn.1,by omega⟩,?_,?_⟩
  .simp;omega
  .simp;rw[aO (n:=n*p.num) (by omega),aO (n:=n*p.num+p.den) (by omega),aO (n:=n*p.num+p.den-1) (by omega),DJ (by omega)];exact aO (by unfold jF at hs dT;omega)
 .simp[aiz,NM]
def QX (d:D):Effect:=⟨(d.c 0).i,(d.c 1).i,(d.c 2).i,(d.c 3).i,(d.c 4).i,(d.c 5).i,(d.c 6).b⟩
def pq (l:List Effect):List Effect:=(gJ gK (l.map gQ)).map QX
def ale (l:List Effect):D.list (gJ gK (l.map gQ))=nY (pq l):=by
 unfold pq nY;rw[nF]
 congr 1
 conv=>lhs;rw[<-xy (gJ gK (l.map gQ))]
 refine tW λx hx=>?_;obtain⟨g,_,rfl⟩:=cr.1 ((se _ _).mem_iff.1 hx);rfl
def alf (l:List Effect):(pq l).Perm l:=by
 have:=(se gK (l.map gQ)).map QX;rw[nF] at this;have e:l.map (QX∘gQ)=l:=xy _
 rwa [e] at this
def aa8 (l:List Effect):(pq l).Pairwise λa b=>a.sum<=b.sum:=by
 unfold pq;rw[IS];refine(ajj gK (l.map gQ)).imp_of_mem λ{a b} ha hb rf=>?_;exact rf
def aaF (l:List Effect):Prop:=∀e,e∈l->0<=e.sum/\e.sum<=1099511627776
def axg (l:List Effect)(hs:aaF l)(hl:l.length<=4294967296):ah T 28 [.none,.clo 29 [],nY l] (.tup [.tup [],nY (pq l)]):=by
 have aK:(l.map gQ).all CB=true:=by
  rw[cN];intro x hx;obtain⟨e,he,rfl⟩:=cr.1 hx;have:=hs e he;simp only[CB,ao,decide_eq_true_eq];exact this
 refine .of_ext (g:=λ_ ds=>Oi ds) rfl ⟨0,λ_ _=>?_⟩;show(if 29=29/\(l.map gQ).length<=4294967296/\(l.map gQ).all CB=true then some (D.tup [.tup [],.list (gJ gK (l.map gQ))]) else none)=_;rw[if_pos ⟨rfl,by simpa using hl,aK⟩,ale]
def IJ (r:Realm):Prop:=∀f,f∈r.firms->0<=f.group/\f.group<r.groups.length
def apa {r:Realm}(RV:IJ r){l:List Effect}(hf:IK r l)(s:Int):DI r (iu r l s):=by
 intro g hg;obtain⟨e,he,_,rfl⟩:=yi.1 hg;obtain⟨h0,h1⟩:=hf e he;have af:e.firm.toNat<r.firms.length:=by omega
 unfold oh;rw[aE,aW af];exact RV _ (bS af)
def ao7 (r:Realm)(l:List Effect)(s:Int):(iu r l s).length<=l.length:=by
 unfold iu;refine gl (abB _ _) ?_;rw[L1,dY];exact oZ _ _
structure PayOK (r:Realm) (l:List Effect):Prop where
 firms:IK r l
 sums:aaF l
 fg:IJ r
 gr:xq r
 len:l.length<=1000
def ajL {r:Realm}{l:List Effect}{ps:List Ratio}(hq:nG ps):gL r l ps<=1099511627776:=by
 unfold gL;have:=Ou (f:=dp r l ps) (c:=1000000000) 1099511627776 λs _ _=>(wB hq l s).2;generalize gh (dp r l ps) 1099511627776=S at*;omega
def y3 (r:Realm)(forum:Int):Prop:=0<=forum/\forum<r.orders.length
instance (r:Realm) (forum:Int):Decidable (y3 r forum):=by unfold y3;exact inferInstance
def j1 (r:Realm)(forum:Int)(f:File)(day:Int)(q:Quote):Int×Int:=
 if jf q≠0\/¬y3 r forum then(0,1) else(gL r (dB r forum f day) q.fails,0)
def DU (r:Realm)(hr:Right r)(hd:RightD r)(forum:Int)(f:File)(day:Int)(hf:FewS f)(q:Quote)(uL:q.fails.length<=4294967296)(hp:PayOK r (dB r forum f day)):
 ah T 10 [aQ r,.int forum,cu f,.int day,lq q] (.tup [.int (j1 r forum f day q).1,.int (j1 r forum f day q).2]):=by
 refine zyw 12 ayO ?_;simp[X1];refine⟨_,OY q uL,?_⟩;by_cases hq:jf q=0
 case neg=>
  simp[hq,j1]
  try exact⟨_,Tk r forum⟩
 simp[hq];refine⟨_,Tk r forum,?_⟩;by_cases ho:0<=forum/\forum<r.orders.length
 case neg=>
  have:¬y3 r forum:=ho;simp[hq,ho,j1,this]
 have iX:y3 r forum:=ho;obtain⟨_,_,hQ⟩:=G1 hq;simp[ho];refine⟨_,aeQ r hr hd forum f day hf,?_⟩;have hwE:j1 r forum f day q=(gL r (dB r forum f day) q.fails,0):=by
  unfold j1;rw[if_neg (by simp[hq,iX])]
 rw[hwE];generalize dB r forum f day=l at*;simp;refine⟨_,axg l hp.sums (by have:=hp.len;omega),?_⟩;have yJ:=alf l;have kl:=ajK (r:=r) (l:=l) (l':=pq l) hQ (λe=>yJ.mem_iff) (aa8 l) hp.sums
 have hinv:=λk hk=>Rj (pay:=dp r l q.fails) (λs=>(wB hQ l s).1) (L:=(pq l).map (·.sum)) (λs x vS h=>ahw r l q.fails s x vS λy hy=>by
  obtain⟨e,he,rfl⟩:=cr.1 hy
  exact h _ (xA (yJ.mem_iff.2 he))) (IS.2 (aa8 l)) (λx hx=>by
   obtain⟨e,he,rfl⟩:=cr.1 hx;exact(hp.sums e (yJ.mem_iff.1 he)).1) k hk
 have hlen:(pq l).length=l.length:=yJ.length_eq;have cQ:∀e,e∈pq l↔e∈l:=λe=>yJ.mem_iff;have hfo:IK r (pq l):=λe he=>hp.firms e ((cQ e).1 he);rw[<-kl];generalize pq l=L at*;have apr:L.length<=1000:=by have:=hp.len;omega
 refine aL.forRounds L.length (λk=>[.int (ir (dp r l q.fails) ((L.take k).map (·.sum))).1,.int (ir (dp r l q.fails) ((L.take k).map (·.sum))).2.1,.int (ir (dp r l q.fails) ((L.take k).map (·.sum))).2.2,.int k]) (λ_=>[]) ?_ (λk hk=>?_) ?_
 .simp[ir]
 .have hw:=br hk (by omega);obtain⟨i1,i2,i3⟩:=hinv k (by simp;omega);rw[<-List.map_take] at i1 i2 i3;have LR:=hp.sums _ ((cQ _).1 (bS hk));rw[iP hk,pf];have yR:ir (dp r l q.fails) ((L.take k).map (·.sum)++[L[k]].map (·.sum))=wX (dp r l q.fails) (ir (dp r l q.fails) ((L.take k).map (·.sum))) L[k].sum:=by
   unfold ir;rw[tV];rfl
  rw[yR];have yI:=wB (r:=r) hQ l L[k].sum.toNat;have uB:(ir (dp r l q.fails) ((L.take k).map (·.sum))).2.2<=1099511627776:=by
   rcases i3 with e|e
   .rw[e];omega
   .obtain⟨x,hx,e2⟩:=cr.1 e;have:=(hp.sums x ((cQ x).1 hx)).2;omega
  have LS:=Ou (f:=dp r l q.fails) (c:=1000000000) (ir (dp r l q.fails) ((L.take k).map (·.sum))).2.2.toNat λs _ _=>(wB hQ l s).2;rw[<-i1.sum] at LS;have r0:=i1.r0;have r1:=i1.r1;have b0:=i1.b0;generalize ir (dp r l q.fails) ((L.take k).map (·.sum))=w at*;obtain⟨whole,rest,below⟩:=w;simp only at*;have rn:=acm r L L[k].sum hfo apr;have FA:=ao7 r L L[k].sum;have kN:=abm r (iu r L L[k].sum) q (apa hp.fg hfo _) hp.gr hQ (by omega);rw[ao8 cQ] at rn kN;simp[aiy,NL,hk,hw];generalize L[k]=e at*;have hsn:((e.sum.toNat:Nat):Int)=e.sum:=by omega
  have oB:dp r l q.fails e.sum.toNat=1000000000-qK r (iu r l e.sum) q.fails:=by unfold dp;rw[hsn]
  rw[oB] at yI;unfold wX;by_cases hle:e.sum<=below
  .simp[hle]
  .rw[if_neg hle,oB];simp[hle];refine⟨_,rn,?_⟩;refine⟨_,kN,?_⟩;generalize qK r (iu r l e.sum) q.fails=ch at*;have wch:(D.int ch).i=ch:=rfl;rw[wch];generalize hpp:1000000000-ch=p at*;have wp:i64.wrap p=p:=aO (by omega);have ww:i64.wrap (e.sum-below)=e.sum-below:=aO (by omega);generalize hW:e.sum-below=W at*;have hW0:0<W/\W<=1099511627776:=by omega
   rw[wp,ww,DJ (by omega),O5 (by omega)];have q1:0<=W/1000000000/\W/1000000000<=1100:=by omega
   have m1:0<=W%1000000000/\W%1000000000<1000000000:=by omega
   generalize W/1000000000=A at*;generalize W%1000000000=B at*;have a1:0<=A*p:=Ae q1.1 yI.1;have a2:A*p<=1100*1000000000:=aai q1.2 yI.2 yI.1 (by omega);have b1:0<=B*p:=Ae m1.1 yI.1;have b2:B*p<=1000000000*1000000000:=aai (by omega) yI.2 yI.1 (by omega);have hwb:whole<=1099511627776:=by omega
   have jx:0<=whole:=by
        have h1:=WY (f:=λ_=>0) (g:=dp r l q.fails) below.toNat λs _ _=>(wB hQ l s).1;have h2:=Dq (f:=λ_=>(0:Int)) (m:=0) (λ_ _=>rfl) (jI below.toNat);have h3:gh (λ_=>(0:Int)) 0=0:=rfl;rw[h2,h3] at h1;have h4:=i1.sum;have h1:0<=gh (dp r l q.fails) below.toNat:=h1;simp only at h4;omega
   rw[aO (n:=A) (by omega)];generalize A*p=X at*;generalize B*p=Y at*;rw[aO (n:=X) (by omega),aO (n:=Y) (by omega),aO (n:=Y+rest) (by omega),DJ (by omega),O5 (by omega),aO (n:=whole+X) (by omega),aO (n:=(Y+rest)/1000000000) (by omega),aO (by omega)];exact⟨rfl,rfl⟩
 .simp[aiy,NL]
def mc (r:Realm)(forum:Int)(f:File)(day:Int)(q:Quote):Int×Int:=
 if(j1 r forum f day q).2≠0 then(0,(j1 r forum f day q).2) else zq (j1 r forum f day q).1 q.perMille (eM r forum f day) day
def ajJ (r:Realm)(forum:Int)(f:File)(day:Int)(q:Quote):j1 r forum f day q=(0,1)\/(jf q=0/\y3 r forum/\j1 r forum f day q=(gL r (dB r forum f day) q.fails,0)):=by
 unfold j1;by_cases h:jf q≠0\/¬y3 r forum
 .exact .inl (if_pos h)
 .refine .inr ⟨DG λe=>h (.inl e),DG λe=>h (.inr e),if_neg h⟩
def aaD (r:Realm)(hr:Right r)(hd:RightD r)(forum:Int)(f:File)(day:Int)(hf:FewS f)(q:Quote)(uL:q.fails.length<=4294967296)(hp:PayOK r (dB r forum f day))(uC:aZ day)(hm:eM r forum f day=-1\/(0<=eM r forum f day/\eM r forum f day<=100000/\0<=day)):
 ah T 9 [aQ r,.int forum,cu f,.int day,lq q] (.tup [.int (mc r forum f day q).1,.int (mc r forum f day q).2]):=by
 refine zyw 109 ayM ?_;simp[X0];refine⟨_,DU r hr hd forum f day hf q uL hp,?_⟩;rcases ajJ r forum f day q with e|⟨hq,ho,e⟩
 .unfold mc;rw[e];simp
 obtain⟨p0,p1,hQ⟩:=G1 hq;unfold mc;rw[e];have jx:=ajM (r:=r) (l:=dB r forum f day) hQ;have jb:=ajL (r:=r) (l:=dB r forum f day) hQ;generalize gL r (dB r forum f day) q.fails=w at*;simp;refine⟨_,Pj r hr hd forum f day hf,?_⟩;generalize eM r forum f day=due at*;unfold zq;by_cases h1:due=-1
 .simp[h1]
 obtain⟨m0,m1,m2⟩:=hm.resolve_left h1;have ws:i64.wrap (due-day)=due-day:=aO (by unfold aZ at uC;omega);rw[if_neg h1];by_cases h2:day<due/\20000<due-day
 .rw[if_pos h2];simp[h1,h2,ws]
 rw[if_neg h2];have fa:¬(day<due/\20000<due-day):=h2;simp[h1,fa,ws];have LD:(if due-day<0 then D.int 0 else D.int (due-day))=D.int (max (due-day) 0):=by
  split
  .rw[show max (due-day) 0=0 by omega]
  .rw[show max (due-day) 0=due-day by omega]
 have hD:=aaf w q.perMille (max (due-day) 0);have hn:=abH (w:=w) (pm:=q.perMille) (d:=max (due-day) 0) ⟨jx,jb⟩ ⟨p0,p1⟩ (by omega);have yH:=afw (w:=w) (x:=q.perMille*max (due-day) 0) jx (Ae p0 (by omega));rw[<-hn] at yH ⊢;generalize nJ w q.perMille (max (due-day) 0)=dd at*;rw[LD];refine⟨_,hD,?_⟩;obtain⟨d1,d2⟩:=dd;by_cases dQ:d2=0
 .simp[dQ] at yH ⊢;exact aO (by omega)
 .simp[dQ]
def ajl (a b:Int):Prop:=a=2\/a=b
end Rm
