/-
  Shared texts of this claim.
-/
import Derived.Test.YtibbcfbmjlehcaaGreatDoorGAP
import Derived.Test.YtibbcfbmjlehcaaGreatDoorGAK
import Derived.Test.YtibbcfbmjlehcaaGreatDoorGAJ
import Derived.Test.YtibbcfbmjlehcaaGreatDoorGAO
set_option linter.defProp false
set_option linter.unusedSimpArgs false
set_option linter.unusedVariables false
noncomputable section
open Go.IntKind (i64)
namespace Rm
open Go Go.Proofs Cx
def abY (R Y:Int)(hR:0<=R/\R<146097)(h1:365*Y<=R-R/1460+R/36524-R/146096)(h2:R-R/1460+R/36524-R/146096<365*Y+365):0<=R-(365*Y+Y/4-Y/100)/\R-(365*Y+Y/4-Y/100)<=500:=by
 have k0:R/36524<=R/1460:=by omega
 have k1:Y/4<=R/1460:=by omega
 have hY:0<=Y:=by omega
 have hc:R/36524=0\/R/36524=1\/R/36524=2\/R/36524=3\/R/36524=4:=by omega
 have k2:25*(R/36524)<=R/1460:=by omega
 refine⟨?_,?_⟩
 .rcases Int.lt_or_le Y (100*(R/36524)) with hy|hy
  .have k3:Y/4<=25*(R/36524)-1:=by omega
   have k4:R/36524-1<=Y/100:=by omega
   omega
  .have k3:R/36524<=Y/100:=by omega
   omega
 .omega
def abZ (n:Int)(h:0<=n/\n<=100400):ah T 185 [.int n] (.tup [.int (fB n).1,.int (fB n).2.1,.int (fB n).2.2]):=by
 refine zyw 89 azb ?_;have w:∀x:Int,-1000000000<=x->x<=1000000000->i64.wrap x=x:=λx a b=>aR (by omega);have t:∀x y:Int,0<=x->x.tdiv y=x/y:=λx y hx=>Ec hx;have u:∀x y:Int,0<=x->x.tmod y=x%y:=λx y hx=>Pu hx;simp[XR];unfold fB;simp only[];rw[w (n+730425) (by omega) (by omega),u (n+730425) 146097 (by omega),t (n+730425) 146097 (by omega)];have hR:0<=(n+730425)%146097/\(n+730425)%146097<146097:=by omega
 have hE:0<=(n+730425)/146097/\(n+730425)/146097<100:=by omega
 generalize (n+730425)%146097=R at*;generalize (n+730425)/146097=e at*;rw[t R 1460 (by omega),t R 36524 (by omega),t R 146096 (by omega),w (R/1460) (by omega) (by omega),w (R-R/1460) (by omega) (by omega),w (R/36524) (by omega) (by omega),w (R-R/1460+R/36524) (by omega) (by omega),w (R/146096) (by omega) (by omega),w (R-R/1460+R/36524-R/146096) (by omega) (by omega),t (R-R/1460+R/36524-R/146096) 365 (by omega)];have hY:0<=(R-R/1460+R/36524-R/146096)/365/\(R-R/1460+R/36524-R/146096)/365<400:=by omega
 have hD:0<=R-(365*((R-R/1460+R/36524-R/146096)/365)+(R-R/1460+R/36524-R/146096)/365/4-(R-R/1460+R/36524-R/146096)/365/100)/\R-(365*((R-R/1460+R/36524-R/146096)/365)+(R-R/1460+R/36524-R/146096)/365/4-(R-R/1460+R/36524-R/146096)/365/100)<=500:=by
  exact abY R _ hR (by omega) (by omega)
 generalize (R-R/1460+R/36524-R/146096)/365=Y at*;rw[w Y (by omega) (by omega),w (365*Y) (by omega) (by omega),t Y 4 (by omega),t Y 100 (by omega),w (Y/4) (by omega) (by omega),w (Y/100) (by omega) (by omega),w (365*Y+Y/4) (by omega) (by omega),w (365*Y+Y/4-Y/100) (by omega) (by omega),w (R-(365*Y+Y/4-Y/100)) (by omega) (by omega)];generalize R-(365*Y+Y/4-Y/100)=D at*;rw[w (5*D) (by omega) (by omega),w (5*D+2) (by omega) (by omega),t (5*D+2) 153 (by omega)];have hM:0<=(5*D+2)/153/\(5*D+2)/153<=20:=by omega
 generalize (5*D+2)/153=M at*;rw[w M (by omega) (by omega),w (M+3) (by omega) (by omega),w (M+3-12) (by omega) (by omega),w e (by omega) (by omega),w (400*e) (by omega) (by omega),w (Y+400*e) (by omega) (by omega),w (Y+400*e+1) (by omega) (by omega)];rw[w (153*M) (by omega) (by omega),w (153*M+2) (by omega) (by omega),t (153*M+2) 5 (by omega),w ((153*M+2)/5) (by omega) (by omega),w (D-(153*M+2)/5) (by omega) (by omega),w (D-(153*M+2)/5+1) (by omega) (by omega)];refine⟨?_,?_,rfl⟩
 .generalize (if 12<M+3 then M+3-12 else M+3)=m;split<;>rfl
 .split<;>rfl
def akD (d n:Int):∃x e:Int,ah T 164 [.int d,.int n] (.tup [.int x,.int e])/\(e=0->0<=x/\x<=100000):=by
 by_cases h0:eC d=true/\-5000<=n/\n<=5000
 .have hd:0<=d/\d<=100400:=by have:=h0.1;simp[eC] at this;omega
  obtain⟨A,hA⟩:∃A,A=i64.wrap (i64.wrap (i64.wrap (i64.wrap (12*(fB d).1)+(fB d).2.1)-1)+n):=⟨_,rfl⟩
  obtain⟨Y,hY⟩:∃Y,Y=i64.wrap (A.tdiv 12):=⟨_,rfl⟩
  obtain⟨M,hM⟩:∃M,M=i64.wrap (A.tmod 12+1):=⟨_,rfl⟩
  obtain⟨x,e,hD,hb⟩:=akK Y M (if CR Y M<(fB d).2.2 then CR Y M else(fB d).2.2);refine⟨x,e,.of_tree rfl abq aka ?_,hb⟩;have n1:¬n< -5000:=by omega
  have n2:¬5000<n:=by omega
  simp[O8,n1,n2];refine⟨_,I5 d,?_⟩;simp[h0.1];refine⟨_,abZ d hd,?_⟩;simp[<-hA,<-hY,<-hM];refine⟨_,MH Y M,?_⟩;by_cases hl:CR Y M<(fB d).2.2
  .simp only[if_pos hl] at hD;simp[hl];refine⟨_,hD,?_⟩;simp
  .simp only[if_neg hl] at hD;simp[hl];refine⟨_,hD,?_⟩;simp
 .refine⟨0,3,.of_tree rfl abq aka ?_,by simp⟩;simp[O8];refine⟨_,I5 d,?_⟩;simp;intro a b c;exact absurd ⟨a,b,c⟩ h0
def R5 (l:List Int)(x:Int):hasB l x=l.contains x:=by
 rw[uD];simp[hasB]
def IS (c:City):Prop:=c.rest.length<=100000/\c.feasts.length<=100000/\c.shut.length<=100000
def amz (n:Int)(h:0<=n/\n<=100400):(0<=(fB n).2.1/\(fB n).2.1<=30)/\-1000<=(fB n).2.2/\(fB n).2.2<=1000:=by
 unfold fB;simp only[];have hR:0<=(n+730425)%146097/\(n+730425)%146097<146097:=by omega
 generalize (n+730425)%146097=R at*;have hD:=abY R ((R-R/1460+R/36524-R/146096)/365) hR (by omega) (by omega);generalize (R-R/1460+R/36524-R/146096)/365=Y at*;generalize R-(365*Y+Y/4-Y/100)=D at*;have hM:0<=(5*D+2)/153/\(5*D+2)/153<=20:=by omega
 generalize (5*D+2)/153=M at*;refine⟨?_,by omega,by omega⟩;split<;>omega
def avO (c:City)(hc:IS c)(n:Int)(h:0<=n/\n<=100400):ah T 189 [gX c,.int n] (.bool (zJ c.rest c.feasts c.shut n)):=by
 refine zyw 98 azf ?_;simp[XU];refine⟨_,abZ n h,?_⟩;have w5:i64.wrap (n+5)=n+5:=aR (by omega);have m7:(n+5).tmod 7=(n+5)%7:=Pu (by omega);obtain⟨h1,h2,h3⟩:=hc;simp[w5,m7];refine⟨_,xR c.rest ((n+5)%7) (by omega),?_⟩;unfold zJ;rw[<-R5];cases hr:hasB c.rest ((n+5)%7)
 .obtain⟨gz,df⟩:=amz n h;have wm:i64.wrap (100*(fB n).2.1)=100*(fB n).2.1:=aR (by omega);have wd:i64.wrap (100*(fB n).2.1+(fB n).2.2)=100*(fB n).2.1+(fB n).2.2:=aR (by omega);simp[hr,wm,wd];refine⟨_,xR c.feasts _ (by omega),?_⟩;have e1:=R5 c.feasts (100*(fB n).2.1+(fB n).2.2);have e2:=R5 c.shut n;simp at e1 e2;cases hf:hasB c.feasts (100*(fB n).2.1+(fB n).2.2)
  .simp[hf,<-e1,<-e2];exact⟨_,xR c.shut n (by omega),rfl⟩
  .simp[hf,<-e1]
 .simp[hr]
def fh (c:City)(a:Int)(k:Nat):List Int:=((List.range k).map λ(i:Nat)=>a+i).filter (zJ c.rest c.feasts c.shut)
def ab7 (c:City)(a:Int)(k:Nat):fh c a (k+1)=fh c a k++if zJ c.rest c.feasts c.shut (a+k) then[a+k] else[]:=by
 unfold fh;rw[PH,pR,Px]
 congr 1
 cases h:zJ c.rest c.feasts c.shut (a+k)<;>simp[h]
def am0 (c:City)(a:Int){k n:Nat}(h:k<=n):∃r,fh c a n=fh c a k++r:=by
 induction n with
 |zero=>obtain rfl:k=0:=by omega
        exact⟨[],by simp⟩
 |succ n ih=>
  by_cases e:k=n+1
  .subst e;exact⟨[],by simp⟩
  .obtain⟨r,hr⟩:=ih (by omega);exact⟨r++_,by rw[ab7,hr,rh]⟩
def tz (d:Int):D:=.tup [.int d]
def am1 (c:City)(a b:Int):ab9 [.ref (.int a),.ref (.int b),.ref (gX c)]=(fh c a (b-a+1).toNat).map tz:=by
 have hi:∀l:List Int,zp (ints l)=l:=λl=>by
  show(l.map D.int).map D.i=l;rw[oe];exact xZ l
 show(ab8 (zp (ints c.rest)) (zp (ints c.feasts)) (zp (ints c.shut)) a b).map _=_;rw[hi,hi,hi];rfl
def amY (c:City)(hc:IS c)(a b:Int)(ha:0<=a)(hb:b<=100400)(my:a<=100400):ah T 188 [.ref (.int a),.ref (.int b),.ref (gX c)] (.list ((fh c a (b-a+1).toNat).map tz)):=by
 have wH:=am1 c a b;rw[<-wH];obtain⟨N,hN⟩:∃N,N=(b-a+1).toNat:=⟨_,rfl⟩
 refine ah.of_it (pc:=(ab uO)) (J:=1000) (k:=1) rfl (λx hx=>?_) (λm hm=>?_)
 .rw[wH] at hx;obtain⟨i,_,rfl⟩:=bY.1 hx;exact⟨_,rfl,rfl⟩
 .rw[wH] at hm ⊢;rw[<-hN] at hm ⊢;refine Ph ?_;rw[azc];simp[XT];refine aL.forLoop (α:=Nat) (λk vr vo=>k<=N/\vr=[.int (a+k)]/\vo=[.list ((fh c a k).map tz)]/\(fh c a k).length<=m) (λk=>N-k) 0 ?_ ?_
  .simp[aog,fh]
  .rintro k vr vo ⟨hk,rfl,rfl,oR⟩;by_cases af:k<N
   .have hle:a+(k:Int)<=b:=by omega
    have jo:i64.wrap (a+(k:Int)+1)=a+((k+1:Nat):Int):=by rw[aR (by omega)];omega
    have eE:=(avO c hc (a+k) (by omega))
    have CG:=ab7 c a k;obtain⟨r,hr⟩:=am0 c a (k:=k+1) (n:=N) af;simp[ai6,N7,hle];refine⟨_,eE.yld (by decide),?_⟩;cases hi:zJ c.rest c.feasts c.shut (a+k)
    .simp[hi] at CG ⊢;exact⟨k+1,by omega,by omega,jo,by rw[CG],by rw[CG];exact oR⟩
    .simp[hi] at CG ⊢;have hlen:(fh c a (k+1)).length=(fh c a k).length+1:=by rw[CG];simp
     have vh:(fh c a k).map tz++[D.tup [D.int (a+k)]]=(fh c a (k+1)).map tz:=by rw[CG,pR];rfl
     have GC:(fh c a (k+1)).map tz=((fh c a N).map tz).take ((fh c a k).length+1):=by
      rw[hr,pR,List.take_append_of_le_length (by simp[hlen]),yc (by simp[hlen])]
     have aY:(fh c a k).length<((fh c a N).map tz).length:=by rw[hr];simp[hlen];omega
     rw[vh];refine⟨_,ah.answer GC aY oR,?_⟩;by_cases y6:(fh c a k).length<m
     .simp[y6];exact⟨k+1,by omega,by omega,jo,rfl,by omega⟩
     .obtain rfl:(fh c a k).length=m:=by omega
      simp;rw[GC]
   .obtain rfl:k=N:=by omega
    have hle:¬a+(k:Int)<=b:=by omega
    simp[ai6,N7,hle];rw[yc (by simp;omega)]
def am2 (c:City)(a b:Int):ah T 166 [gX c,.int a,.int b] (.clo 188 [.ref (.int a),.ref (.int b),.ref (gX c)]):=by
 refine zyw 97 azd ?_;simp[XS]
def oL (d:Int):Int:=if 100000<d+400 then 100000 else d+400
def jH (c:City)(d:Int):Int×Int:=
 if eC d=false then(0,3) else match fh c d (oL d-d+1).toNat with|[]=>(0,3)|x::_=>(x,0)
def amZ {c:City}{a:Int}{k:Nat}{x:Int}(h:x∈fh c a k):a<=x/\x<a+k:=by
 unfold fh at h;obtain⟨h1,_⟩:=dH.mp h;obtain⟨i,hi,rfl⟩:=bY.mp h1;have:=fy.mp hi;omega
def af8 {c:City}{d:Int}(h:(jH c d).2=0):eC d=true/\d<=(jH c d).1/\(jH c d).1<=100000:=by
 unfold jH at h ⊢;cases hd:eC d
 .simp[hd] at h
 .simp only[hd] at h ⊢;cases hk:fh c d (oL d-d+1).toNat with
  |nil=>rw[hk] at h;simp at h
  |cons x l=>
   have hm:x∈fh c d (oL d-d+1).toNat:=by rw[hk];simp
   have:=amZ hm;have he:oL d<=100000:=by unfold oL;split<;>omega
   simp[eC] at hd;simp;unfold oL at*;omega
def ak2 (c:City)(hc:IS c)(d:Int):ah T 125 [gX c,.int d] (.tup [.int (jH c d).1,.int (jH c d).2]):=by
 refine zyw 96 aza ?_;simp[XQ];refine⟨_,I5 d,?_⟩;cases hd:eC d
 .simp[jH,hd]
 have gA:0<=d/\d<=100000:=by simpa [eC] using hd
 have hw:i64.wrap (d+400)=d+400:=aR (by omega);have he:oL d<=100000:=by unfold oL;split<;>omega
 simp[hd,hw];have hE:(if 100000<d+400 then D.int 100000 else D.int (d+400))=D.int (oL d):=by unfold oL;split<;>rfl
 rw[hE];refine⟨_,am2 c d (oL d),_,_,rfl,_,amY c hc d (oL d) gA.1 (by omega) (by omega),?_⟩;cases hk:fh c d (oL d-d+1).toNat with
 |nil=>
  have hn:jH c d=(0,3):=by unfold jH;simp[hd,hk]
  rw[hn];refine aL.eachR [] (by simp) (λ_ vo=>vo=[.agg [.int 0],.agg [.int 0]]) ?_ (λk x vo hx hi=>by simp at hx) (λvo hi=>?_)
  .simp
  .subst hi;simp
 |cons x l=>
  have hn:jH c d=(x,0):=by unfold jH;simp[hd,hk]
  rw[hn];refine aL.eachR ((x::l).map tz) (by simp) (λk vo=>k=0/\vo=[.agg [.int 0],.agg [.int 0]]) ?_ (λk y vo hx hi=>?_) (λvo hi=>?_)
  .simp
  .obtain⟨rfl,rfl⟩:=hi;simp at hx;subst hx;simp[axi,V5,tz];rfl
  .exact absurd hi.1 (by simp)
def OR (o:Int)(d:Int)(h:Halt):Int:=if(h.order=o/\h.fr<=d)/\d<=h.to then h.to+1 else d
def nS (r:Realm)(o d:Int)(k:Nat):Int:=(r.halts.take k).foldl (OR o) d
def ajV (r:Realm)(o d:Int){k:Nat}(hk:k<r.halts.length):nS r o d (k+1)=OR o (nS r o d k) r.halts[k]:=by
 unfold nS;rw[iX hk,s9];rfl
def xU (r:Realm):Prop:=r.halts.length<=100000/\∀h,h∈r.halts->0<=h.fr/\h.to<=100000
def Xl {r:Realm}(hh:xU r)(o d:Int)(hd:d<=100001):∀k,k<=r.halts.length->d<=nS r o d k/\nS r o d k<=100001
 |0,_=>⟨by simp[nS],by simpa [nS] using hd⟩
 |k+1,hk=>by
  obtain⟨h1,h2⟩:=Xl hh o d hd k (by omega);rw[ajV r o d (by omega)];have:=hh.2 _ (bR (show k<r.halts.length by omega));unfold OR;split<;>omega
def Ak (r:Realm)(o:Int):Nat->Int->Int
 |0,d=>d
 |n+1,d=>if nS r o d r.halts.length=d then d else Ak r o n (nS r o d r.halts.length)
def ke (r:Realm)(o d:Int):Int:=Ak r o (100002-d).toNat d
def Xm {r:Realm}(hh:xU r)(o:Int):∀(n:Nat) (d:Int),d<=100001->d<=Ak r o n d/\Ak r o n d<=100001
 |0,d,hd=>⟨pP _,hd⟩
 |n+1,d,hd=>by
  obtain⟨h1,h2⟩:=Xl hh o d hd r.halts.length (aZ _);unfold Ak;split
  .omega
  .have:=Xm hh o n _ h2;omega
def ayf (r:Realm)(hh:xU r)(o d:Int)(h0:0<=d)(hd:d<=100001):ah T 124 [aQ r,.int o,.int d] (.int (ke r o d)):=by
 refine zyw 95 aAY ?_;simp[ZI];refine aL.forLoop (α:=Int×Bool×Nat) (λs vr vo=>vr=[.int s.1,.bool s.2.1]/\vo=[]/\d<=s.1/\s.1<=100001/\(s.2.1=true->(100002-s.1).toNat<=s.2.2)/\(s.2.1=true->Ak r o s.2.2 s.1=ke r o d)/\(s.2.1=false->s.1=ke r o d)) (λs=>2*(100001-s.1).toNat+(if s.2.1 then 1 else 0)) (d,true,(100002-d).toNat) ?_ ?_
 .simp;exact⟨by omega,rfl⟩
 .rintro⟨e,ch,n⟩ vr vo ⟨rfl,rfl,h1,h2,h3,h4,h5⟩;simp only at*;cases ch
  .simp[ajo,OB];exact h5 rfl
  .have h3:=h3 rfl;have h4:=h4 rfl;obtain⟨n,rfl⟩:∃m,n=m+1:=⟨n-1,by omega⟩
   have bO:=Xl hh o e h2;simp[ajo,OB];refine aL.forRounds r.halts.length (λk=>[.int (nS r o e k),.bool (decide (e<nS r o e k)),.int k]) (λ_=>[]) ?_ (λk hk=>?_) ?_
   .simp[nS]
   .have hw:=bq hk (by have:=hh.1;omega);have cu:=bO k (by omega);have zh:=hh.2 _ (bR hk);rw[ajV r o e hk];unfold OR;generalize nS r o e k=x at*;by_cases hc:(r.halts[k].order=o/\r.halts[k].fr<=x)/\x<=r.halts[k].to
    .have db:i64.wrap (r.halts[k].to+1)=r.halts[k].to+1:=aR (by omega);simp[OA,DH,hk,hw,hc,db];omega
    .simp[OA,DH,hk,hw,hc]
   .have hE:=bO r.halts.length (aZ _);unfold Ak at h4;generalize nS r o e r.halts.length=x at*;by_cases hx:x=e
    .rw[if_pos hx] at h4;subst hx;simp[OA,DH];exact⟨x,by omega,rfl,h1,h2,h4⟩
    .rw[if_neg hx] at h4;have af:e<x:=by omega
     simp[OA,DH,af];exact⟨x,by omega,rfl,by omega,by omega,n,by omega,h4⟩
def uv (r:Realm)(c:City)(o:Int):Nat->Int->Int×Int
 |0,d=>(d,0)
 |n+1,d=>
  if(jH c (ke r o d)).2≠0 then(0,3)
  else if(jH c (ke r o d)).1=ke r o d then(ke r o d,0)
  else uv r c o n (jH c (ke r o d)).1
def ajS (r:Realm)(c:City)(o:Int)(n:Nat)(d:Int):uv r c o (n+1) d=
 if(jH c (ke r o d)).2≠0 then(0,3)
 else if(jH c (ke r o d)).1=ke r o d then(ke r o d,0)
 else uv r c o n (jH c (ke r o d)).1:=rfl
def mj (r:Realm)(city d:Int):Int×Int:=uv r (r.cities.getD city.toNat default) (gI r city) (100002-d).toNat d
def Xg (r:Realm)(hh:xU r)(city d:Int)(hc:0<=city/\city<r.cities.length)(hs:∀c,c∈r.cities->IS c)(h0:0<=d)(hd:d<=100001):ah T 77 [aQ r,.int city,.int d] (.tup [.int (mj r city d).1,.int (mj r city d).2]):=by
 refine zyw 94 aAX ?_;simp[ZH];refine⟨_,sO r city,?_⟩;have aY:city.toNat<r.cities.length:=by omega
 have hcg:r.cities.getD city.toNat default=r.cities[city.toNat]:=by simp[aY]
 have hsc:=hs _ (bR aY);have hF:mj r city d=uv r r.cities[city.toNat] (gI r city) (100002-d).toNat d:=by unfold mj;rw[hcg]
 rw[hF];refine aL.forLoop (α:=Int×Nat) (λs vr vo=>(∃a b,vr=[.int s.1,a,b])/\vo=[]/\0<=s.1/\s.1<=100001/\(100002-s.1).toNat<=s.2/\uv r r.cities[city.toNat] (gI r city) s.2 s.1=uv r r.cities[city.toNat] (gI r city) (100002-d).toNat d) (λs=>s.2) (d,(100002-d).toNat) ?_ ?_
 .simp;omega
 .rintro⟨e,n⟩ vr vo ⟨⟨a,b,rfl⟩,rfl,h1,h2,h3,h4⟩;simp only at*;obtain⟨n,rfl⟩:∃m,n=m+1:=⟨n-1,by omega⟩
  rw[<-h4];have CF:=Xm hh (gI r city) (100002-e).toNat e h2;have hsr:=ayf r hh (gI r city) e h1 h2;rw[ajS];change e<=ke r (gI r city) e/\ke r (gI r city) e<=100001 at CF;generalize ke r (gI r city) e=x at*;have SO:=ak2 r.cities[city.toNat] hsc x;have qn:=af8 (c:=r.cities[city.toNat]) (d:=x);generalize jH r.cities[city.toNat] x=N at*;obtain⟨y,er⟩:=N;simp only at SO qn;simp[axn,WR];refine⟨_,hsr,?_⟩;simp[aY,hc];refine⟨_,SO,?_⟩;by_cases he:er=0
  .obtain⟨g1,g2,g3⟩:=qn he;by_cases hy:y=x
   .simp[he,hy]
   .simp[he,hy];exact⟨y,n,by omega,rfl,by omega,by omega,by omega,rfl⟩
  .simp[he]
structure RightD (r:Realm):Prop where
 small:Small r
 halts:xU r
def RightD.cities {r:Realm}(h:RightD r)(c:City)(hc:c∈r.cities):IS c:=by
 obtain⟨h1,h2,h3,_⟩:=h.small.city c hc;exact⟨by omega,by omega,by omega⟩
def Er (d:Int)(t:Tenor):∃n e:Int,ah T 122 [.int d,qa t] (.tup [.int n,.int e]):=by
 by_cases h0:t.n<0
 .refine⟨0,3,.of_tree rfl JF Pf ?_⟩;simp[D0,h0]
 by_cases h1:20000<t.n
 .refine⟨0,3,.of_tree rfl JF Pf ?_⟩;simp[D0,h0,h1]
 by_cases h2:t.unit=1
 .obtain⟨n,e,h,_⟩:=akD d t.n;refine⟨n,e,.of_tree rfl JF Pf ?_⟩;simp[D0,h0,h1,h2];refine⟨_,h,?_⟩;simp
 .refine⟨i64.wrap (d+t.n),0,.of_tree rfl JF Pf ?_⟩;simp[D0,h0,h1,h2]
def alR (r:Realm)(hr:RightD r)(b:Bill)(seen:Int):∃n e:Int,ah T 76 [aQ r,dI b,.int seen] (.tup [.int n,.int e]):=by
 have Tk:D.agg [D.int b.tenor.kind,D.int b.tenor.n,D.int b.tenor.unit]=qa b.tenor:=rfl;by_cases h0:b.tenor.kind=0
 .refine⟨seen,0,.of_tree rfl yk Ao ?_⟩;simp[pI,h0]
 by_cases h1:b.tenor.kind=1
 .obtain⟨n,e,h⟩:=Er seen b.tenor;refine⟨n,e,.of_tree rfl yk Ao ?_⟩;have cC:(b.tenor.kind=1)=True:=eq_true h1;simp[pI,h0,cC];refine⟨_,h,?_⟩;simp
 by_cases h2:b.tenor.kind=2
 .obtain⟨n,e,h⟩:=Er b.day b.tenor;refine⟨n,e,.of_tree rfl yk Ao ?_⟩;have gY:(b.tenor.kind=2)=True:=eq_true h2;simp[pI,h0,h1,gY];refine⟨_,h,?_⟩;simp
 by_cases h4:b.tenor.kind=4
 .obtain⟨n,e,h,_⟩:=ak9 r b.city b.pay (by have:=hr.small.us;omega);refine⟨i64.wrap (b.day+n),e,.of_tree rfl yk Ao ?_⟩;have oQ:(b.tenor.kind=4)=True:=eq_true h4;simp[pI,h0,h1,h2,oQ];refine⟨_,h,?_⟩;simp
 .refine⟨b.tenor.n,0,.of_tree rfl yk Ao ?_⟩;simp[pI,h0,h1,h2,h4]
def ah.ex_of_tree {tab:Nat->Option PC}{ext:Nat->Option (aT->List D->Option D)}{f:Nat}{pc:PC}{t:PT}{ds:List D}{P:D->Prop}(hx:ext f=none)(ht:tab f=some pc)(he:tree pc=t)
 (h:aH (eN tab ext) t (mu ds) (λx=>∃d,x=.ret d/\P d)):∃d,ah (eN tab ext) f ds d/\P d:=by
 subst he;obtain⟨x,⟨d,rfl,hd⟩,n0,hn⟩:=akg (Ny ⟨λ_ _ _ h=>(by obtain⟨_,h,_⟩:=h;cases h),λ_ _ _ _ _ _ h=>(by obtain⟨_,h,_⟩:=h;cases h),λ_ h=>h⟩ h);exact⟨d,.of_pc hx ht ⟨.ret d,rfl,n0,hn⟩,hd⟩
def Jt (d:D):Prop:=∃n e:Int,d=.tup [.int n,.int e]
@[simp] def aEa (n e:Int):Jt (.tup [.int n,.int e])=True:=eq_true ⟨n,e,rfl⟩
def AB (r:Realm)(hr:RightD r)(b:Bill)(seen cf:Int):∃d,ah T 37 [aQ r,dI b,.int seen,.int cf] d/\Jt d:=by
 have Tk:D.agg [D.int b.tenor.kind,D.int b.tenor.n,D.int b.tenor.unit]=qa b.tenor:=rfl;have jV:=OD r hr.small;refine ah.ex_of_tree rfl P4 ZD ?_;simp[IY];refine⟨_,jV,?_⟩;by_cases h0:gW r=0
 case neg=>simp[h0]
 simp[h0];refine⟨_,CO r b.city,?_⟩;cases h1:aC b.city r.cities.length
 .simp[h1]
 simp[h1];refine⟨_,CO r b.pay,?_⟩;cases h2:aC b.pay r.cities.length
 .simp[h2]
 simp[h2];refine⟨_,wS b.day,?_⟩;cases h3:eC b.day
 .simp[h3]
 simp[h3];intro _ _ _ _;have hp:0<=b.pay/\b.pay<r.cities.length:=by simpa [aC] using h2
 have fin:0<=cf->cf<=20000->∃d,ah T 76 [aQ r,dI b,D.int seen] d/\
  if(d.tget 1).i=0 then ∃d1,ah T 74 [d.tget 0] d1/\(d1.b=true->i64.wrap ((d.tget 0).i+cf)<=100000->
        ∃d2,ah T 77 [aQ r,D.int b.pay,D.int (i64.wrap ((d.tget 0).i+cf))] d2/\Jt (D.tup [d2.tget 0,d2.tget 1]))
  else Jt (D.tup [D.int 0,d.tget 1]):=by
  intro yV jY;obtain⟨n,e,h⟩:=alR r hr b seen;refine⟨_,h,?_⟩;by_cases he:e=0
  .simp[he];refine⟨_,wS n,?_⟩;cases hd:eC n
   .simp[hd]
   have gA:0<=n/\n<=100000:=by simpa [eC] using hd
   have hw:i64.wrap (n+cf)=n+cf:=aR (by omega);simp[hd,hw];intro hle;refine⟨_,Xg r hr.halts b.pay (n+cf) hp hr.cities (by omega) (by omega),?_⟩;simp
  .simp[he]
 by_cases hs:seen=-1
 .simp[hs] at fin ⊢;intro yV jY;refine⟨_,En b.tenor,?_⟩;simp;intro _;exact fin yV jY
 .simp[hs] at fin ⊢;refine⟨_,wS seen,?_⟩;cases hk:eC seen
  .simp[hk]
  simp[hk];intro yV jY;exact⟨⟨_,En b.tenor⟩,fin yV jY⟩
def rE (r:Realm)(b:Bill)(seen cf:Int):Int×Int:=
 open Classical in if h:RightD r then((AB r h b seen cf).choose_spec.2.choose,(AB r h b seen cf).choose_spec.2.choose_spec.choose) else(0,0)
def Pr (r:Realm)(hr:RightD r)(b:Bill)(seen cf:Int):ah T 37 [aQ r,dI b,.int seen,.int cf] (.tup [.int (rE r b seen cf).1,.int (rE r b seen cf).2]):=by
 have h:=(AB r hr b seen cf).choose_spec.2.choose_spec.choose_spec;have h1:=(AB r hr b seen cf).choose_spec.1;rw[h] at h1;have e:rE r b seen cf=((AB r hr b seen cf).choose_spec.2.choose,(AB r hr b seen cf).choose_spec.2.choose_spec.choose):=by unfold rE;rw[dif_pos hr]
 rw[e];exact h1
def eI (r:Realm)(forum:Int)(f:File)(day:Int):Int:=
 if(bx f day).signs=[] then-1
 else if(rE r f.bill (nN (bx f day)) (max (qE (kX r forum 6 (bx f day) day)) 0)).2≠0 then-1
 else(rE r f.bill (nN (bx f day)) (max (qE (kX r forum 6 (bx f day) day)) 0)).1
@[simp] def aIr (x:File)(a0 a1 a2 a3 a4 a5 a6 a7 a8 a9 mY mZ a12 na nf pX pY a17 rk:D):(dF [a0,a1,a2,a3,a4,a5,a6,a7,a8,a9,mY,mZ,a12,na,nf,pX,pY,a17,rk] 0 [.int x.bill.drawer,.int x.bill.drawee,.int x.bill.payee,.int x.bill.sum,.int x.bill.currency,.int x.bill.tenor.kind,.int x.bill.tenor.n,.int x.bill.tenor.unit,.int x.bill.day,.int x.bill.city,.int x.bill.pay,.int x.bill.need,.int x.bill.rate,.int x.bill.flags,.int x.bill.parts,signs x.signs,alters x.alters,acts x.acts,facts x.facts])[15]?.getD D.none=signs x.signs:=zyz
def aa1 (r:Realm)(hr:Right r)(hd:RightD r)(forum:Int)(f:File)(day:Int)(hf:FewS f):ah T 13 [aQ r,.int forum,bW f,.int day] (.int (eI r forum f day)):=by
 refine zyw 61 ayT ?_;simp[XB];refine⟨_,WY f day (by have:=hf.signs;omega) (by have:=hf.acts;omega) (by have:=hf.alters;omega) (by have:=hf.facts;omega),?_⟩;have hg:=hf.at_ day;have hb:(bx f day).bill=f.bill:=rfl;unfold eI;generalize bx f day=g at*;simp;by_cases h0:g.signs=[]
 .simp[h0]
 simp[h0];refine⟨_,abn r hr forum 6 g day hg,_,alx _,_,axw g (by have:=hg.signs;omega) (by have:=hg.acts;omega),?_⟩;have hm:(if(D.int (qE (kX r forum 6 g day))).i<0 then D.int 0 else D.int (qE (kX r forum 6 g day)))=D.int (max (qE (kX r forum 6 g day)) 0):=by
  simp only[ane];split
  .rw[Int.max_eq_right (by omega)]
  .rw[Int.max_eq_left (by omega)]
 rw[hm,hb];refine⟨_,Pr r hd f.bill _ _,?_⟩;by_cases he:(rE r f.bill (nN g) (max (qE (kX r forum 6 g day)) 0)).2=0<;>simp[he]
def au1 (y:Nat)(h:y<18446744073709551616):ah T 126 [u y] (.int ((64-wV y:Nat):Int)):=by
 refine zyw 114 ay7 ?_;have hb:=(afj h).2.2.2;have hw:i64.wrap (64-(wV y:Nat))=((64-wV y:Nat):Int):=by rw[aR (by omega)];omega
 simp[XN];refine⟨_,atq y h,?_⟩;simp[hw]
set_option maxHeartbeats 4000000 in
def anh (hi lo y:Nat)(hy:0<y)(Cr:hi<y)(qm:lo<18446744073709551616)(wN:y<18446744073709551616):
 ah T 80 [u hi,u lo,u y] (.tup [u ((hi*18446744073709551616+lo)/y),u ((hi*18446744073709551616+lo)%y)]):=by
 refine zyw 113 ay6 ?_;have c1:¬y=0:=by omega
 have c2:¬y<=hi:=by omega
 by_cases c3:hi=0
 .subst c3;have hq:IntKind.u64.wrap ((lo:Int)/(y:Int))=((lo/y:Nat):Int):=by
   rw[<-Int.natCast_ediv];exact kh (aa3 (aa2 ..) qm)
  have hr:((lo:Int).tmod (y:Int))=((lo%y:Nat):Int):=(Int.ofNat_tmod lo y).symm;simp[O7,c1,c2,hq,hr,-Int.natCast_emod]
 .have hb:=afj wN;obtain⟨L,hL⟩:∃L,L=wV y:=⟨_,rfl⟩
  have wB:=au1 y wN;rw[<-hL] at hb wB;have LI:0<L:=by
   rcases El L with h|h
   .have:=hb.1 h;omega
   .exact h
  have hLs:=hb.2.2.2;obtain⟨s,hs⟩:∃s,s=64-L:=⟨_,rfl⟩
  obtain⟨s',ei⟩:∃s',s'=L:=⟨_,rfl⟩
  rw[<-hs] at wB;have Gu:2^s'*2^s=18446744073709551616:=by rw[<-PM,show s'+s=64 by omega]
  have aeu:2^(L-1)*2^s=9223372036854775808:=by rw[<-PM,show L-1+s=63 by omega]
  have aO:y*2^s<18446744073709551616:=by rw[<-Gu];exact Nat.mul_lt_mul_of_pos_right (by rw[ei];exact hb.2.2.1) (yf s)
  have iO:9223372036854775808<=y*2^s:=by rw[<-aeu];exact ky _ (hb.2.1 LI)
  have ws:IntKind.u64.wrap (s:Int)=s:=kh (by omega);have ot:bV .shl .u64 (y:Int) (s:Int)=((y*2^s:Nat):Int):=by rw[Xh y s (by omega),PL aO]
  have ad6:lo/2^s'<2^s:=by rw[yd (yf s'),ye,Gu];exact qm
  have tT:0<2^s:=yf s;have arb:hi*2^s+2^s<=y*2^s:=by rw[<-Nat.succ_mul];exact ky _ Cr
  have oy:bV .shl .u64 (hi:Int) (s:Int)=((hi*2^s:Nat):Int):=by rw[Xh hi s (by omega),PL (by omega)]
  have oz:IntKind.u64.wrap (64-(s:Int))=s':=by rw[kS (by omega)];omega
  have oA:bV .shr .u64 (lo:Int) (s':Int)=((lo/2^s':Nat):Int):=IQ lo s' (by omega);have oB:bV .or .u64 ((hi*2^s:Nat):Int) ((lo/2^s':Nat):Int)=((hi*2^s+lo/2^s':Nat):Int):=avS _ _ s (by omega) ad6 (Nat.mul_mod_left ..) (by omega);have oC:bV .shl .u64 (lo:Int) (s:Int)=((lo*2^s%18446744073709551616:Nat):Int):=Xh lo s (by omega);have law:((hi*2^s+lo/2^s')*18446744073709551616+lo*2^s%18446744073709551616)/(y*2^s)=(hi*18446744073709551616+lo)/y:=by
   have h1:lo*2^s/18446744073709551616=lo/2^s':=by rw[<-Gu];exact aa6 _ _ (yf s)
   have h2:=AN (lo*2^s) 18446744073709551616;rw[h1] at h2;have h3:(hi*2^s+lo/2^s')*18446744073709551616+lo*2^s%18446744073709551616=(hi*18446744073709551616+lo)*2^s:=by
        rw[kq,kq,Nat.mul_right_comm hi];omega
   rw[h3];exact aa6 _ _ (yf s)
  have afn:((hi*2^s+lo/2^s')*18446744073709551616+lo*2^s%18446744073709551616)%(y*2^s)/2^s=(hi*18446744073709551616+lo)%y:=by
   have h1:lo*2^s/18446744073709551616=lo/2^s':=by rw[<-Gu];exact aa6 _ _ (yf s)
   have h2:=AN (lo*2^s) 18446744073709551616;rw[h1] at h2;have h3:(hi*2^s+lo/2^s')*18446744073709551616+lo*2^s%18446744073709551616=(hi*18446744073709551616+lo)*2^s:=by
        rw[kq,kq,Nat.mul_right_comm hi];omega
   rw[h3,Nat.mul_mod_mul_right];exact Nat.mul_div_cancel _ (yf s)
  have hu:hi*2^s+lo/2^s'<y*2^s:=by omega
  have mE:lo*2^s%18446744073709551616<18446744073709551616:=rj _ (by decide);clear hb Gu aeu ad6 arb hL;rw[<-law,<-afn];clear law afn;generalize y*2^s=v at*;generalize hi*2^s+lo/2^s'=u32 at*;generalize lo*2^s%18446744073709551616=un at*;have ou:bV .shr .u64 (v:Int) 32=((v/4294967296:Nat):Int):=dE v;have ox:bV .and .u64 (v:Int) 4294967295=((v%4294967296:Nat):Int):=Eu v aO;have oD:bV .shr .u64 (un:Int) 32=((un/4294967296:Nat):Int):=dE un;have oE:bV .and .u64 (un:Int) 4294967295=((un%4294967296:Nat):Int):=Eu un mE;have hv:v=v/4294967296*4294967296+v%4294967296:=by omega
  have hn:un=un/4294967296*4294967296+un%4294967296:=by omega
  have aeG:2147483648<=v/4294967296:=by omega
  have aeH:v/4294967296<4294967296:=by omega
  have eG:v%4294967296<4294967296:=by omega
  have lf:un/4294967296<4294967296:=by omega
  have SH:un%4294967296<4294967296:=by omega
  generalize v/4294967296=v1 at*;generalize v%4294967296=v0 at*;generalize un/4294967296=n1 at*;generalize un%4294967296=n0 at*;have gx:¬v1=0:=by omega
  have oF:IntKind.u64.wrap ((u32:Int)/(v1:Int))=((u32/v1:Nat):Int):=by
   rw[<-Int.natCast_ediv];exact kh (aa3 (aa2 ..) (by omega))
  have Ml:u32/v1*v1+u32%v1=u32:=Ek u32 v1;have oG:IntKind.u64.wrap (((u32/v1:Nat):Int)*(v1:Int))=((u32/v1*v1:Nat):Int):=by
   rw[<-Int.natCast_mul];exact kh (by omega)
  have oH:IntKind.u64.wrap ((u32:Int)-((u32/v1*v1:Nat):Int))=((u32%v1:Nat):Int):=by
   rw[kS (by omega)];omega
  simp[O7,c1,c2,c3,-dE,-Int.natCast_add,-Int.natCast_mul,-Int.natCast_ediv,-Int.natCast_emod];refine⟨_,wB,?_⟩;simp[-dE,-Int.natCast_add,-Int.natCast_mul,-Int.natCast_ediv,-Int.natCast_emod,ws,ot,ou,ox,oy,oz,oA,oB,oC,oD,oE,gx,oF,oG,oH];refine atx _ (u32/v1) (u32%v1) v1 v0 u32 n1 eG aeG aeH lf (by omega) rfl rfl (by simp[-dE,-Int.natCast_add,-Int.natCast_mul,-Int.natCast_ediv,-Int.natCast_emod,ws,ot,ou,ox,oy,oz,oA,oB,oC,oD,oE,gx,oF,oG,oH]) (by simp[-dE,-Int.natCast_add,-Int.natCast_mul,-Int.natCast_ediv,-Int.natCast_emod,ws,ot,ou,ox,oy,oz,oA,oB,oC,oD,oE,gx,oF,oG,oH]) (by simp[-dE,-Int.natCast_add,-Int.natCast_mul,-Int.natCast_ediv,-Int.natCast_emod,ws,ot,ou,ox,oy,oz,oA,oB,oC,oD,oE,gx,oF,oG,oH]) (by simp[-dE,-Int.natCast_add,-Int.natCast_mul,-Int.natCast_ediv,-Int.natCast_emod,ws,ot,ou,ox,oy,oz,oA,oB,oC,oD,oE,gx,oF,oG,oH]) (by simp[-dE,-Int.natCast_add,-Int.natCast_mul,-Int.natCast_ediv,-Int.natCast_emod,ws,ot,ou,ox,oy,oz,oA,oB,oC,oD,oE,gx,oF,oG,oH]) _ _ λO hq hk=>?_;have k2:O.r 2=u v:=by rw[hk 2 (by simp)];simp[-dE,-Int.natCast_add,-Int.natCast_mul,-Int.natCast_ediv,-Int.natCast_emod,ws,ot,ou,ox,oy,oz,oA,oB,oC,oD,oE,gx,oF,oG,oH]
  have k8:O.r 8=u s:=by rw[hk 8 (by simp)];simp[-dE,-Int.natCast_add,-Int.natCast_mul,-Int.natCast_ediv,-Int.natCast_emod,ws,ot,ou,ox,oy,oz,oA,oB,oC,oD,oE,gx,oF,oG,oH]
  have k9:O.r 9=u v1:=by rw[hk 9 (by simp)];simp[-dE,-Int.natCast_add,-Int.natCast_mul,-Int.natCast_ediv,-Int.natCast_emod,ws,ot,ou,ox,oy,oz,oA,oB,oC,oD,oE,gx,oF,oG,oH]
  have tY:O.r 10=u v0:=by rw[hk 10 (by simp)];simp[-dE,-Int.natCast_add,-Int.natCast_mul,-Int.natCast_ediv,-Int.natCast_emod,ws,ot,ou,ox,oy,oz,oA,oB,oC,oD,oE,gx,oF,oG,oH]
  have sq:O.r 11=u u32:=by rw[hk 11 (by simp)];simp[-dE,-Int.natCast_add,-Int.natCast_mul,-Int.natCast_ediv,-Int.natCast_emod,ws,ot,ou,ox,oy,oz,oA,oB,oC,oD,oE,gx,oF,oG,oH]
  have sr:O.r 13=u n1:=by rw[hk 13 (by simp)];simp[-dE,-Int.natCast_add,-Int.natCast_mul,-Int.natCast_ediv,-Int.natCast_emod,ws,ot,ou,ox,oy,oz,oA,oB,oC,oD,oE,gx,oF,oG,oH]
  have tZ:O.r 14=u n0:=by rw[hk 14 (by simp)];simp[-dE,-Int.natCast_add,-Int.natCast_mul,-Int.natCast_ediv,-Int.natCast_emod,ws,ot,ou,ox,oy,oz,oA,oB,oC,oD,oE,gx,oF,oG,oH]
  clear hk;rw[<-hv] at hq;obtain⟨q1,Gv⟩:∃q1,q1=(u32*4294967296+n1)/v:=⟨_,rfl⟩
  obtain⟨R,hR⟩:∃R,R=(u32*4294967296+n1)%v:=⟨_,rfl⟩
  rw[<-Gv] at hq;have GG:0<v:=by omega
  have aGJ:R<v:=by rw[hR];exact rj _ GG
  have hqR:q1*v+R=u32*4294967296+n1:=by rw[Gv,hR];exact Ek _ v
  have aHl:q1<4294967296:=by rw[Gv,yd GG];omega
  have rH:IntKind.u64.wrap (IntKind.u64.wrap (IntKind.u64.wrap ((u32:Int)*4294967296)+(n1:Int))-IntKind.u64.wrap ((q1:Int)*(v:Int)))=(R:Int):=by
   have h1:(q1:Int)*(v:Int)+(R:Int)=(u32:Int)*4294967296+n1:=by rw[<-Int.natCast_mul];omega
   simp only[I6];generalize (q1:Int)*(v:Int)=M at*;omega
  have rI:IntKind.u64.wrap ((R:Int)/(v1:Int))=((R/v1:Nat):Int):=by
   rw[<-Int.natCast_ediv];exact kh (aa3 (aa2 ..) (by omega))
  have aHp:R/v1*v1+R%v1=R:=Ek R v1;have rF:IntKind.u64.wrap (((R/v1:Nat):Int)*(v1:Int))=((R/v1*v1:Nat):Int):=by
   rw[<-Int.natCast_mul];exact kh (by omega)
  have rG:IntKind.u64.wrap ((R:Int)-((R/v1*v1:Nat):Int))=((R%v1:Nat):Int):=by
   rw[kS (by omega)];omega
  simp[-dE,-Int.natCast_add,-Int.natCast_mul,-Int.natCast_ediv,-Int.natCast_emod,k2,k9,sq,sr,hq,gx,rH,rI,rF,rG];refine aty _ (R/v1) (R%v1) v1 v0 R n0 eG aeG aeH SH (by omega) rfl rfl (by simp[-dE,-Int.natCast_add,-Int.natCast_mul,-Int.natCast_ediv,-Int.natCast_emod,k2,k8,k9,tY,sq,sr,tZ,hq,gx,rH,rI,rF,rG]) (by simp[-dE,-Int.natCast_add,-Int.natCast_mul,-Int.natCast_ediv,-Int.natCast_emod,k2,k8,k9,tY,sq,sr,tZ,hq,gx,rH,rI,rF,rG]) (by simp[-dE,-Int.natCast_add,-Int.natCast_mul,-Int.natCast_ediv,-Int.natCast_emod,k2,k8,k9,tY,sq,sr,tZ,hq,gx,rH,rI,rF,rG]) (by simp[-dE,-Int.natCast_add,-Int.natCast_mul,-Int.natCast_ediv,-Int.natCast_emod,k2,k8,k9,tY,sq,sr,tZ,hq,gx,rH,rI,rF,rG]) (by simp[-dE,-Int.natCast_add,-Int.natCast_mul,-Int.natCast_ediv,-Int.natCast_emod,k2,k8,k9,tY,sq,sr,tZ,hq,gx,rH,rI,rF,rG]) _ _ λV ic hk=>?_;have j15:V.r 15=u q1:=by rw[hk 15 (by simp)];simp[-dE,-Int.natCast_add,-Int.natCast_mul,-Int.natCast_ediv,-Int.natCast_emod,k2,k8,k9,tY,sq,sr,tZ,hq,gx,rH,rI,rF,rG]
  have j8:V.r 8=u s:=by rw[hk 8 (by simp)];simp[-dE,-Int.natCast_add,-Int.natCast_mul,-Int.natCast_ediv,-Int.natCast_emod,k2,k8,k9,tY,sq,sr,tZ,hq,gx,rH,rI,rF,rG]
  have j17:V.r 17=u R:=by rw[hk 17 (by simp)];simp[-dE,-Int.natCast_add,-Int.natCast_mul,-Int.natCast_ediv,-Int.natCast_emod,k2,k8,k9,tY,sq,sr,tZ,hq,gx,rH,rI,rF,rG]
  have j14:V.r 14=u n0:=by rw[hk 14 (by simp)];simp[-dE,-Int.natCast_add,-Int.natCast_mul,-Int.natCast_ediv,-Int.natCast_emod,k2,k8,k9,tY,sq,sr,tZ,hq,gx,rH,rI,rF,rG]
  have j2:V.r 2=u v:=by rw[hk 2 (by simp)];simp[-dE,-Int.natCast_add,-Int.natCast_mul,-Int.natCast_ediv,-Int.natCast_emod,k2,k8,k9,tY,sq,sr,tZ,hq,gx,rH,rI,rF,rG]
  rw[<-hv] at ic;clear hk;obtain⟨q0,tU⟩:∃q0,q0=(R*4294967296+n0)/v:=⟨_,rfl⟩
  rw[<-tU] at ic;have aHk:q0<4294967296:=by rw[tU,yd GG];omega
  have w1:IntKind.u64.wrap (IntKind.u64.wrap ((q1:Int)*4294967296)+(q0:Int))=((q1*4294967296+q0:Nat):Int):=by
   rw[kS (n:=(q1:Int)*4294967296) (by omega),kS (by omega)];omega
  have fin:(u32*18446744073709551616+un)/v=q1*4294967296+q0:=by
   have h1:u32*18446744073709551616+un=R*4294967296+n0+v*(q1*4294967296):=by
        have:v*(q1*4294967296)=(q1*v)*4294967296:=by rw[<-aa5,ye v q1]
        omega
   rw[h1,Nat.add_mul_div_left _ _ GG,<-tU];omega
  obtain⟨R2,RZ⟩:∃R2,R2=(R*4294967296+n0)%v:=⟨_,rfl⟩
  have aHn:q0*v+R2=R*4294967296+n0:=by rw[tU,RZ];exact Ek _ v
  have aGI:R2<v:=by rw[RZ];exact rj _ GG
  have aor:(u32*18446744073709551616+un)%v=R2:=by
   have h1:u32*18446744073709551616+un=R*4294967296+n0+v*(q1*4294967296):=by
        have:v*(q1*4294967296)=(q1*v)*4294967296:=by rw[<-aa5,ye v q1]
        omega
   rw[h1,Nat.add_mul_mod_self_left,<-RZ]
  have w2:IntKind.u64.wrap (IntKind.u64.wrap (IntKind.u64.wrap ((R:Int)*4294967296)+(n0:Int))-IntKind.u64.wrap ((q0:Int)*(v:Int)))=(R2:Int):=by
   have h1:(q0:Int)*(v:Int)+(R2:Int)=(R:Int)*4294967296+n0:=by rw[<-Int.natCast_mul];omega
   simp only[I6];generalize (q0:Int)*(v:Int)=M at*;omega
  have w3:bV .shr .u64 (R2:Int) (s:Int)=((R2/2^s:Nat):Int):=IQ R2 s (by omega);rw[fin,aor];simp[j8,j15,j17,j14,j2,ic,w1,w2,w3,-Int.natCast_add,-Int.natCast_mul,-Int.natCast_ediv,-dE]
structure View where
 realm:Realm
 forum:Int
 day:Int
 file:File
 form:Int
 due:Int
 deriving Inhabited
def dJ (x:View):D:=.agg [strs x.realm.currencies,p8 x.realm.cities,groups x.realm.groups,firms x.realm.firms,orders x.realm.orders,usances x.realm.usances,rates x.realm.rates,halts x.realm.halts,.int x.forum,.int x.day,.int x.file.bill.drawer,.int x.file.bill.drawee,.int x.file.bill.payee,.int x.file.bill.sum,.int x.file.bill.currency,.int x.file.bill.tenor.kind,.int x.file.bill.tenor.n,.int x.file.bill.tenor.unit,.int x.file.bill.day,.int x.file.bill.city,.int x.file.bill.pay,.int x.file.bill.need,.int x.file.bill.rate,.int x.file.bill.flags,.int x.file.bill.parts,signs x.file.signs,alters x.file.alters,acts x.file.acts,facts x.file.facts,.int x.form,.int x.due]
@[simp] def aEC (x:View):(dJ x).cells=[strs x.realm.currencies,p8 x.realm.cities,groups x.realm.groups,firms x.realm.firms,orders x.realm.orders,usances x.realm.usances,rates x.realm.rates,halts x.realm.halts,.int x.forum,.int x.day,.int x.file.bill.drawer,.int x.file.bill.drawee,.int x.file.bill.payee,.int x.file.bill.sum,.int x.file.bill.currency,.int x.file.bill.tenor.kind,.int x.file.bill.tenor.n,.int x.file.bill.tenor.unit,.int x.file.bill.day,.int x.file.bill.city,.int x.file.bill.pay,.int x.file.bill.need,.int x.file.bill.rate,.int x.file.bill.flags,.int x.file.bill.parts,signs x.file.signs,alters x.file.alters,acts x.file.acts,facts x.file.facts,.int x.form,.int x.due]:=zyz
@[simp] def aIe (x:View):D.agg [strs x.realm.currencies,p8 x.realm.cities,groups x.realm.groups,firms x.realm.firms,orders x.realm.orders,usances x.realm.usances,rates x.realm.rates,halts x.realm.halts,.int x.forum,.int x.day,.int x.file.bill.drawer,.int x.file.bill.drawee,.int x.file.bill.payee,.int x.file.bill.sum,.int x.file.bill.currency,.int x.file.bill.tenor.kind,.int x.file.bill.tenor.n,.int x.file.bill.tenor.unit,.int x.file.bill.day,.int x.file.bill.city,.int x.file.bill.pay,.int x.file.bill.need,.int x.file.bill.rate,.int x.file.bill.flags,.int x.file.bill.parts,signs x.file.signs,alters x.file.alters,acts x.file.acts,facts x.file.facts,.int x.form,.int x.due]=dJ x:=zyz
@[simp] def aES (x:View):kA 31 (dJ x)=dJ x:=zyz
@[simp] def aIt (x:View)(a0 a1 a2 a3 a4 a5 a6 a7 a8 a9 mY mZ a12 na nf pX pY a17 rk PW a20 a21 a22 a23 a24 a25 a26 a27 a28 a29 a30:D):D.agg (dF [a0,a1,a2,a3,a4,a5,a6,a7,a8,a9,mY,mZ,a12,na,nf,pX,pY,a17,rk,PW,a20,a21,a22,a23,a24,a25,a26,a27,a28,a29,a30] 0 [strs x.realm.currencies,p8 x.realm.cities,groups x.realm.groups,firms x.realm.firms,orders x.realm.orders,usances x.realm.usances,rates x.realm.rates,halts x.realm.halts,.int x.forum,.int x.day,.int x.file.bill.drawer,.int x.file.bill.drawee,.int x.file.bill.payee,.int x.file.bill.sum,.int x.file.bill.currency,.int x.file.bill.tenor.kind,.int x.file.bill.tenor.n,.int x.file.bill.tenor.unit,.int x.file.bill.day,.int x.file.bill.city,.int x.file.bill.pay,.int x.file.bill.need,.int x.file.bill.rate,.int x.file.bill.flags,.int x.file.bill.parts,signs x.file.signs,alters x.file.alters,acts x.file.acts,facts x.file.facts,.int x.form,.int x.due])=dJ x:=zyz
@[simp] def aEA (x:View):(dJ x).c 8=.int x.forum:=zyz
@[simp] def aEB (x:View):(dJ x).c 9=.int x.day:=zyz
@[simp] def aEf (x:View):(dJ x).c 10=.int x.file.bill.drawer:=zyz
@[simp] def aEg (x:View):(dJ x).c 11=.int x.file.bill.drawee:=zyz
@[simp] def aEh (x:View):(dJ x).c 12=.int x.file.bill.payee:=zyz
@[simp] def aEi (x:View):(dJ x).c 13=.int x.file.bill.sum:=zyz
@[simp] def aEj (x:View):(dJ x).c 14=.int x.file.bill.currency:=zyz
@[simp] def aEk (x:View):(dJ x).c 15=.int x.file.bill.tenor.kind:=zyz
@[simp] def aEl (x:View):(dJ x).c 16=.int x.file.bill.tenor.n:=zyz
@[simp] def aEm (x:View):(dJ x).c 17=.int x.file.bill.tenor.unit:=zyz
@[simp] def aEn (x:View):(dJ x).c 18=.int x.file.bill.day:=zyz
@[simp] def aEo (x:View):(dJ x).c 19=.int x.file.bill.city:=zyz
@[simp] def aEp (x:View):(dJ x).c 20=.int x.file.bill.pay:=zyz
@[simp] def aEq (x:View):(dJ x).c 21=.int x.file.bill.need:=zyz
@[simp] def aEr (x:View):(dJ x).c 22=.int x.file.bill.rate:=zyz
@[simp] def aEs (x:View):(dJ x).c 23=.int x.file.bill.flags:=zyz
@[simp] def aEt (x:View):(dJ x).c 24=.int x.file.bill.parts:=zyz
@[simp] def aEu (x:View):(dJ x).c 25=signs x.file.signs:=zyz
@[simp] def aEv (x:View):(dJ x).c 26=alters x.file.alters:=zyz
@[simp] def aEw (x:View):(dJ x).c 27=acts x.file.acts:=zyz
@[simp] def aEx (x:View):(dJ x).c 28=facts x.file.facts:=zyz
@[simp] def aEy (x:View):(dJ x).c 29=.int x.form:=zyz
@[simp] def aEz (x:View):(dJ x).c 30=.int x.due:=zyz
@[simp] def aEJ (x:View):kA 8 (dJ x)=aQ x.realm:=zyz
def lu:List Int->Int->Int
 |[],o=>o
 |x::l,o=>if x=0 then 0 else lu l (if x=2 then 2 else o)
def ath {l:List Int}{o:Int}(hn:∀x,x∈l->¬x=0)(h2:o=1\/o=2):lu l o=if o=2\/2∈l then 2 else 1:=by
 induction l generalizing o with
 |nil=>rcases h2 with h|h<;>simp[lu,h]
 |cons x l ih=>
  have hx:=hn x (by simp);unfold lu;rw[if_neg hx];by_cases e:x=2
  .rw[if_pos e,ih (λy hy=>hn y (by simp[hy])) (.inr rfl)];simp[e]
  .rw[if_neg e,ih (λy hy=>hn y (by simp[hy])) h2];simp[vR e]
def afd:∀{l:List Int} {o:Int} {k:Nat} (hk:k<l.length),(∀j (hj:j<k),¬l[j]'(by omega)=0)->l[k]=0->lu l o=0
 |[],o,k,hk,_,_=>by simp at hk
 |x::l,o,0,hk,hj,h=>by
  unfold lu;rw[if_pos (by simpa using h)]
 |x::l,o,k+1,hk,hj,h=>by
  unfold lu;rw[if_neg (by have:=hj 0 (by omega);simpa using this)];exact afd (k:=k) (by simpa using hk) (λj nu=>by have:=hj (j+1) (by omega);simpa using this) (by simpa using h)
def CW (l:List Int)(k:Nat):Int:=if 2∈l.take k then 2 else 1
def ati (l:List Int)(hl:l.length<=100000):ah T 67 [ints l] (.int (lu l 1)):=by
 refine zyw 103 ay1 ?_;simp[XI];refine aL.scan l.length (λk=>l.getD k 0≠0) (λk=>[.int 0,.int (CW l k),.int k]) (λ_=>[]) ?_ (λk hk hj ar=>?_) (λk hk hj ar=>?_) (λhj=>?_)
 .simp[CW]
 .have hw:=bq hk (by omega);have hx:¬l[k]=0:=by simpa [hk] using ar
  have hm:CW l (k+1)=if l[k]=2 then 2 else CW l k:=by
   unfold CW;rw[iX hk];simp only[dO,AM];by_cases e:l[k]=2
   .simp[e]
   .simp[e,vR e]
  rw[hm];simp[V1,HC,hk,hw,hx];by_cases e:l[k]=2<;>simp[e]
 .have hx:l[k]=0:=by simpa [hk] using ar
  simp[V1,HC,hk,hx];rw[afd hk (λj nu=>by simpa [show j<l.length by omega] using hj j nu) hx]
 .simp[V1,HC];rw[ath (λx hx=>by obtain⟨j,hZ,rfl⟩:=fe hx;simpa [hZ] using hj j hZ) (.inl rfl)];simp[CW]
def cq (v:View)(q sign:Int):Int:=pJ (tl v.realm v.forum q ⟨v.file,sign,sign,-1,v.due,v.day⟩)
def Xd (v:View)(hr:Right v.realm)(hf:FewS v.file)(q sign:Int):ah T 68 [dJ v,.int q,.int sign] (.int (cq v q sign)):=by
 refine zyw 102 ay4 ?_;simp[XL];refine⟨rM (tl v.realm v.forum q ⟨v.file,sign,sign,-1,v.due,v.day⟩),abm v.realm hr v.forum q ⟨v.file,sign,sign,-1,v.due,v.day⟩ hf,abo _⟩
def ni (f:File)(sign:Int)(n:Nat):Bool:=(f.alters.take n).any λa=>decide (sign<a.at_)
def su (f:File):Int:=(f.alters.getD (f.alters.length-1) default).sum
def kQ (v:View)(sign:Int):Int×Int:=
 if ni v.file sign v.file.alters.length=false then(0,lG v.file sign v.file.alters.length)
 else if cq v 4 sign=1 then(1,su v.file)
 else if cq v 4 sign=2 then(2,min (lG v.file sign v.file.alters.length) (su v.file))
 else(cq v 4 sign,lG v.file sign v.file.alters.length)
def ayK (v:View)(hr:Right v.realm)(hf:FewS v.file)(sign:Int):ah T 69 [dJ v,.int sign] (.tup [.int (kQ v sign).1,.int (kQ v sign).2]):=by
 refine zyw 104 ay5 ?_;simp[XM];have yQ:=hf.alters;refine⟨_,av6 v.file sign (by omega),?_⟩;refine aL.forRounds v.file.alters.length (λk=>[.bool (ni v.file sign k),.int k]) (λ_=>[]) ?_ (λk hk=>?_) ?_
 .simp[ni]
 .have hw:=bq hk (by omega);have hs:ni v.file sign (k+1)=(ni v.file sign k||decide (sign<v.file.alters[k].at_)):=by
   unfold ni;rw[iX hk,List.any_append];simp
  rw[hs];cases ni v.file sign k<;>simp[V2,HE,hk,hw]
 .unfold kQ;cases ha:ni v.file sign v.file.alters.length
  .simp[V2,HE,ha]
  simp[V2,HE,ha];have Gs:0<v.file.alters.length:=by
   rcases El v.file.alters.length with e|e
   .simp[ni,vQ.mp e] at ha
   .exact e
  have hw:i64.wrap ((v.file.alters.length:Int)-1)=(v.file.alters.length:Int)-1:=aR (by omega);have hn:((v.file.alters.length:Int)-1).toNat=v.file.alters.length-1:=by omega
  have af:v.file.alters.length-1<v.file.alters.length:=by omega
  have y1:su v.file=v.file.alters[v.file.alters.length-1].sum:=by simp[su,af]
  simp[hw,hn,af];refine⟨by omega,_,Xd v hr hf 4 sign,?_⟩;rw[y1];by_cases h1:cq v 4 sign=1
  .simp[h1]
  by_cases h2:cq v 4 sign=2
  .simp[h1,h2];split
   .rw[Int.min_eq_right (by omega)]
   .rw[Int.min_eq_left (by omega)]
  .simp[h1,h2]
@[simp] def aI2 (a0 a1 a2 a3 a4 a5 a6 x:D):dF [a0,a1,a2,a3,a4,a5,a6] 3 [x]=[a0,a1,a2,x,a4,a5,a6]:=zyz
@[simp] def aI3 (a0 a1 a2 a3 a4 a5 a6 x:D):dF [a0,a1,a2,a3,a4,a5,a6] 4 [x]=[a0,a1,a2,a3,x,a5,a6]:=zyz
@[simp] def aI4 (a0 a1 a2 a3 a4 a5 a6 x:D):dF [a0,a1,a2,a3,a4,a5,a6] 5 [x]=[a0,a1,a2,a3,a4,x,a6]:=zyz
def jz (v:View)(sign:Int):Effect:=
 let s:=v.file.signs.getD sign.toNat default
 ⟨sign,s.kind,s.who,if Al v.file sign v.day=true then 0 else lu [v.form,cq v 1 sign,cq v 2 sign] 1,(kQ v sign).1,
    if s.kind=1\/s.kind=4 then min (kQ v sign).2 s.sum else(kQ v sign).2,decide (s.kind≠1)&&decide (bV .and .i64 s.flags 1=0)⟩
def an7 (v:View)(hr:Right v.realm)(hf:FewS v.file)(sign:Int)(h0:0<=sign)(h1:sign<v.file.signs.length):ah T 33 [dJ v,.int sign] (jT (jz v sign)):=by
 refine zyw 99 ay3 ?_;obtain⟨k,rfl⟩:=rf h0;have hk:k<v.file.signs.length:=by omega
 have cJ:=ayN v.file k v.day (by have:=hf.acts;omega);have Tn:=ayK v hr hf k;have lX:v.file.signs.getD (k:Int).toNat default=v.file.signs[k]:=by simp[hk]
 have Mn:=Xd v hr hf 1 k;have dU:=Xd v hr hf 2 k;have hj:ah T 67 [.list [.int v.form,.int (cq v 1 k),.int (cq v 2 k)]] (.int (lu [v.form,cq v 1 k,cq v 2 k] 1)):=ati [v.form,cq v 1 k,cq v 2 k] (by simp);have hif:(if v.file.signs[k].kind=1 then D.bool false else D.bool (decide (bV BinOp.and IntKind.i64 v.file.signs[k].flags 1=0)))=D.bool (decide (v.file.signs[k].kind≠1)&&decide (bV BinOp.and IntKind.i64 v.file.signs[k].flags 1=0)):=by
  by_cases h:v.file.signs[k].kind=1<;>simp[h]
 unfold jz;rw[lX];generalize cq v 1 k=s1 at*;generalize cq v 2 k=s2 at*;generalize lu [v.form,s1,s2] 1=jj at*;generalize kQ v k=tx at*;obtain⟨t1,t2⟩:=tx;simp only at Tn;simp[XK,hk,hif];refine⟨_,cJ,?_⟩;have y5:∀a b:Int,(if b<a then D.int b else D.int a)=D.int (min a b):=by
  intro a b;split
  .rw[Int.min_eq_right (by omega)]
  .rw[Int.min_eq_left (by omega)]
 cases CF:Al v.file k v.day
 .simp[CF];refine⟨_,Mn,_,dU,_,hj,_,Tn,?_⟩;by_cases h1:v.file.signs[k].kind=1\/v.file.signs[k].kind=4
  .simp[h1,y5];rfl
  .simp[h1,y5];rfl
 .simp[CF];refine⟨_,Tn,?_⟩;by_cases h1:v.file.signs[k].kind=1\/v.file.signs[k].kind=4
  .simp[h1,y5];rfl
  .simp[h1,y5];rfl
def gh (r:Realm)(forum:Int)(f:File)(day:Int):View:=⟨r,forum,day,bx f day,pJ (kX r forum 0 (bx f day) day),eI r forum (bx f day) day⟩
def avP (r:Realm)(hr:Right r)(hd:RightD r)(forum:Int)(f:File)(day:Int)(hf:FewS f):ah T 32 [aQ r,.int forum,bW f,.int day] (dJ (gh r forum f day)):=by
 refine zyw 16 ay2 ?_;simp[XJ];have hg:=hf.at_ day;refine⟨_,WY f day (by have:=hf.signs;omega) (by have:=hf.acts;omega) (by have:=hf.alters;omega) (by have:=hf.facts;omega),?_⟩;simp;refine⟨_,abn r hr forum 0 _ day hg,_,abo _,_,aa1 r hr hd forum _ day hg,?_⟩;simp;rfl
def rJ (r:Realm)(forum:Int)(f:File)(day:Int):List Effect:=(List.range (gh r forum f day).file.signs.length).map λ(k:Nat)=>jz (gh r forum f day) k
def akN (r:Realm)(hr:Right r)(hd:RightD r)(forum:Int)(f:File)(day:Int)(hf:FewS f):ah T 11 [aQ r,.int forum,bW f,.int day] (oJ (rJ r forum f day)):=by
 refine zyw 15 ay0 ?_;simp[XH];refine⟨_,avP r hr hd forum f day hf,?_⟩;have hg:FewS (gh r forum f day).file:=hf.at_ day;have pf:(gh r forum f day).realm=r:=rfl;unfold rJ;generalize gh r forum f day=v at*;have hl:=hg.signs;refine aL.forRounds v.file.signs.length (λk=>[.none,.int k]) (λk=>[oJ ((List.range k).map λ(k:Nat)=>jz v k)]) ?_ (λk hk=>?_) ?_
 .simp[oJ]
 .have hw:=bq hk (by omega);have he:=an7 v (pf▸hr) hg k (by omega) (by omega);rw[PH,pR];have hln:((List.range k).map λ(k:Nat)=>jz v k).length=k:=by simp
  generalize ((List.range k).map λ(k:Nat)=>jz v k)=A at*;simp[ai5,N6,hk,hw];exact⟨_,he,by omega,by simp[oJ]⟩
 .simp[ai5,N6]
def RA {n:Nat}{f:Nat->Int}(h:fX n f=0)(k:Nat)(hk:k<n):f k=0:=RD.1 h k hk
def ams {r:Realm}(h:gW r=0)(k:Nat)(hk:k<r.orders.length):sB r.orders[k]=true:=by
 unfold gW at h;rw[ON] at h;have h1:=h (eO (fa r) 20 (px r)) (by simp);unfold eO at h1;split at h1
 .cases h1
 have h2:=RA h1 k (by simpa [fa] using hk);have h3:=(B6 h2).2;unfold px at h3;simpa [hk] using h3
def apS {r:Realm}(hs:Small r)(h:gW r=0):D9 r:=by
 intro o ho;obtain⟨k,hk,rfl⟩:=fe ho;have h1:=ams h k hk;obtain⟨hc,_⟩:=hs.order _ ho;refine⟨by omega,λch lb=>?_⟩;unfold sB at h1;simp only[ao] at h1;obtain⟨j,hj,rfl⟩:=fe lb;have h2:=yh.1 h1.1 j hj;simpa [aC,hj] using h2
def apT {r:Realm}(hs:Small r)(h:gW r=0):xU r:=by
 refine⟨by have:=hs.halts;omega,λx hx=>?_⟩;obtain⟨k,hk,rfl⟩:=fe hx;unfold gW at h;rw[ON] at h;have h1:=h (qQ r) (by simp);unfold qQ at h1;split at h1
 .cases h1
 split at h1
 .cases h1
 split at h1
 .cases h1
 split at h1
 .rename_i aK;have h2:=yh.1 aK k hk;simp[wx,wi,aC,hk] at h2;omega
 .cases h1
structure Good (r:Realm) (f:File):Prop where
 right:Right r
 rightD:RightD r
 few:FewS f
def apV {r:Realm}{f:File}(hr:r.OK)(h:wj r f=true):Good r f:=by
 unfold wj tD at h;simp only[ao,decide_eq_true_eq] at h;obtain⟨⟨⟨h1,h2⟩,h3⟩,h4⟩:=h;have hs:=Rx hr h1;refine⟨⟨apS hs h4,by have:=hs.orders;omega,λo ho=>?_⟩,⟨hs,apT hs h4⟩,?_⟩
 .have:=hs.order o ho;refine⟨?_,by omega⟩;exact hr.2.2.2.2.1.2 o ho
 .simp[B3] at h2;exact⟨by omega,by omega,by omega,by omega⟩
def kl (a b:Cell):Prop:=a.known=true->b=a
def kl.rfl' (a:Cell):kl a a:=λ_=>rfl
def kl.no (b:Cell):kl dX b:=λh=>by cases h
def sY (l l':List Cell):Prop:=l.length=l'.length/\∀i,kl (aP l i) (aP l' i)
def abP {α:Type}(f:α->Cell)(l:List α)(i:Nat)(hi:i<l.length):aP (l.map f) i=f l[i]:=by
 simp[aP,hi]
def abQ (l:List Cell)(i:Nat)(hi:l.length<=i):aP l i=default:=by
 simp[aP,hi]
def sY.map {α:Type}{f g:α->Cell}{l:List α}(h:∀a,a∈l->kl (f a) (g a)):sY (l.map f) (l.map g):=by
 refine⟨by simp,λi=>?_⟩;by_cases hi:i<l.length
 .rw[abP f l i hi,abP g l i hi];exact h _ (bR hi)
 .rw[abQ _ i (by simpa using hi),abQ _ i (by simpa using hi)];exact .rfl' _
def aBw {cs fU:List Cell}(h:sY cs fU)(v:Int):kl (kR cs v) (kR fU v):=by
 intro hk;have hv:=h.2 v.toNat;unfold kR at hk ⊢;unfold cellAt at hk ⊢;unfold aP at hv;by_cases h1:cs.length<=v.toNat\/(cs.getD v.toNat default).known=false
 .rw[if_pos h1] at hk;cases hk
 .have h2:(cs.getD v.toNat default).known=true:=by
   cases e:(cs.getD v.toNat default).known
   .exact absurd (.inr e) h1
   .rfl
  rw[hv h2,<-h.1]
def ab0 {l l':List Cell}(h:sY l l')(op:Int):kl (fT op l) (fT op l'):=by
 intro hk;have h0:=h.2 0;have h1:=h.2 1;have h2:=h.2 2;unfold fT at hk ⊢;by_cases o3:op=3
 .rw[if_pos o3] at hk ⊢;rw[if_pos o3];cases e:(aP l 0).known
  .rw[e] at hk;cases hk
  .rw[h0 e,e]
 rw[if_neg o3] at hk ⊢;rw[if_neg o3];by_cases o4:(op=4\/op=5)/\(aP l 0=ew (decide (op=5))\/aP l 1=ew (decide (op=5)))
 .have o4':(op=4\/op=5)/\(aP l' 0=ew (decide (op=5))\/aP l' 1=ew (decide (op=5))):=by
   refine⟨o4.1,?_⟩;have hy:∀b,(ew b).known=true:=λb=>by cases b<;>rfl
   rcases o4.2 with e|e
   .exact .inl ((h0 (by rw[e];exact hy _)).trans e)
   .exact .inr ((h1 (by rw[e];exact hy _)).trans e)
  rw[if_pos o4,if_pos o4']
 rw[if_neg o4] at hk ⊢;by_cases o6:op=6
 .have o5:¬((op=4\/op=5)/\(aP l' 0=ew (decide (op=5))\/aP l' 1=ew (decide (op=5)))):=by omega
  rw[if_pos o6] at hk ⊢;rw[if_neg o5,if_pos o6];by_cases e:(aP l 1).known=true/\aP l 1=aP l 2
  .have e1:=h1 e.1;have e2:=h2 (by rw[<-e.2];exact e.1);rw[if_pos e,e1,e2,if_pos e]
  .rw[if_neg e] at hk;cases hk
 rw[if_neg o6] at hk ⊢;by_cases ok:(aP l 0).known=false\/(aP l 1).known=false
 .rw[if_pos ok] at hk;cases hk
 have k0:(aP l 0).known=true:=by cases e:(aP l 0).known<;>simp[e] at ok ⊢
 have k1:(aP l 1).known=true:=by cases e:(aP l 1).known<;>simp[e] at ok ⊢
 rw[h0 k0,h1 k1,if_neg o4,if_neg o6]
def acB:∀{L:Nat} {t:Tm} {k:Int} {cs fU:List Cell},sY cs fU->cd L t=(k,0)->kl (bD L cs t) (bD L fU t)
 |0,t,k,cs,fU,hc,h=>.no _
 |L+1,t,k,cs,fU,hc,h=>by
  obtain⟨hn,hk⟩:=Ld h;obtain⟨ha,_⟩:=Lc h;have ih:∀a,a∈t.args->kl (bD L cs a) (bD L fU a):=λa hm=>acB hc (show cd L a=((cd L a).1,0) by rw[<-ha a hm]);have ir:∀(c:List Cell) a,a∈t.args->vT (cd L a).1 (bD L c a):=λc a hm=>Rw c (show cd L a=((cd L a).1,0) by rw[<-ha a hm]);have im:=sY.map ih;rw[B2,B2];by_cases o0:t.op=0\/t.op=1
  .rw[if_pos o0,if_pos o0];exact .rfl' _
  rw[if_neg o0,if_neg o0];by_cases o2:t.op=2
  .rw[if_pos o2,if_pos o2];exact aBw hc _
  rw[if_neg o2,if_neg o2];by_cases o6:t.op=6
  .cases hn with
   |ite k h0 cu=>
    obtain⟨a,b,c,hl,e1,e2,e3⟩:=MO cu;rw[hl] at ih ir im ⊢;have r1:=ir fU a (by simp);rw[e1] at r1;have m1:=ih a (by simp);have m2:=ih b (by simp);have m3:=ih c (by simp);by_cases g:t.op=6/\(aP ([a,b,c].map (bD L cs)) 0).known=true
    .have e:aP ([a,b,c].map (bD L fU)) 0=aP ([a,b,c].map (bD L cs)) 0:=im.2 0 g.2;have g':t.op=6/\(aP ([a,b,c].map (bD L fU)) 0).known=true:=⟨g.1,by rw[e];exact g.2⟩
     rw[if_pos g,if_pos g',e];exact im.2 _
    rw[if_neg g];by_cases g':t.op=6/\(aP ([a,b,c].map (bD L fU)) 0).known=true
    .rw[if_pos g'];intro rX;unfold fT at rX ⊢;rw[if_neg (by omega),if_neg (by omega),if_pos o6] at rX ⊢;simp only[iz,List.map_nil,aP,ri,AH] at rX g' ⊢;by_cases e:(bD L cs b).known=true/\bD L cs b=bD L cs c
     .rw[if_pos e];have q1:=m2 e.1;have q2:=m3 (by rw[<-e.2];exact e.1);rcases(r1.2 g'.2).1 rfl with h1|h1<;>rw[h1]
      .show bD L fU c=_;rw[q2,e.2]
      .show bD L fU b=_;exact q1
     .rw[if_neg e] at rX;cases rX
    .rw[if_neg g'];exact ab0 im _
   |_=>omega
  .rw[if_neg (by omega),if_neg (by omega)];exact ab0 im _
def aok {cs fU:List Cell}(h:sY cs fU)(t:Tm):kl (tC cs t) (tC fU t):=by
 unfold tC;by_cases e:(oq t).2=0
 .rw[if_pos e,if_pos e];exact acB h (abV e).2
 .rw[if_neg e];exact .no _
def als {cs fU:List Cell}(h:sY cs fU)(o:Order)(ask:Int):kl (rn o ask cs).1 (rn o ask fU).1/\(rn o ask fU).2=(rn o ask cs).2:=by
 unfold rn;by_cases e:(findF o ask).2≠0
 .rw[if_pos e,if_pos e];exact⟨.rfl' _,rfl⟩
 rw[if_neg e,if_neg e];refine⟨?_,rfl⟩;intro hk;have hm:=aok h (findF o ask).1;simp only at hk ⊢;cases e2:(tC cs (findF o ask).1).known
 .rw[e2] at hk;simp[e2] at hk
 .rw[hm e2,e2]
structure SameF (f g:File):Prop where
 bill:g.bill=f.bill
 signs:g.signs=f.signs
 alters:g.alters=f.alters
 acts:g.acts=f.acts
def SameF.at_ {f g:File}(h:SameF f g)(day:Int):SameF (bx f day) (bx g day):=by
 obtain⟨h1,h2,h3,h4⟩:=h;constructor<;>simp[bx,h1,h2,h3,h4]
def jM (c:Case)(g:File):Case:={c with file:=g}
def axV {c:Case}{g:File}(h:SameF c.file g)(r:Realm)(s:Sign)(i:Nat):aP (tH r (jM c g) s) i=
 if i=15 then cH g 0 c.sign else if i=16 then cH g 1 c.sign else if i=17 then cH g 2 c.sign else if i=18 then cH g 3 (jE c) else if i=19 then cH g 4 (jE c) else aP (tH r c s) i:=by
 obtain⟨h1,h2,h3,h4⟩:=h
 have e:(tH r (jM c g) s)=(pE c s).map (λp=>⟨true,p.2⟩)++(qU r c s).map (λp=>ew p.2)++
  [cH g 0 c.sign,cH g 1 c.sign,cH g 2 c.sign,cH g 3 (jE c),cH g 4 (jE c)]:=by
  simp[tH,jM,pE,qU,jE,P1,h1,h3,zr];exact⟨rfl,rfl,rfl,rfl⟩
 rw[e];unfold tH pE qU;rcases i with _|_|_|_|_|_|_|_|_|_|_|_|_|_|_|_|_|_|_|_|i<;>simp[aP]
def axX {c:Case}{g:File}(h:SameF c.file g)(r:Realm):(gp r (jM c g)=[]↔gp r c=[]):=by
 obtain⟨h1,h2,h3,h4⟩:=h;have e1:nk (jM c g)=nk c:=by simp[nk,jM,h2,jE];rfl
 unfold gp;rw[e1];simp only[jM,h2];split
 .simp[tH,pE]
 .simp
def FLe (f g:File)(s h:Int):Prop:=(∀k,kl (cH f k s) (cH g k s))/\(∀k,kl (cH f k h) (cH g k h))
def aBy {c:Case}{g:File}(h:SameF c.file g)(hf:FLe c.file g c.sign (jE c))(r:Realm):sY (gp r c) (gp r (jM c g)):=by
 have e1:nk (jM c g)=nk c:=by simp[nk,jM,h.signs,jE];rfl
 unfold gp;rw[e1];simp only[show(jM c g).file.signs=c.file.signs from h.signs,show(jM c g).sign=c.sign from rfl];split
 .generalize c.file.signs.getD c.sign.toNat default=s;refine⟨by simp[tH,pE,qU],λi=>?_⟩;rw[axV h r s i];have hs:∀j,j=15\/j=16\/j=17\/j=18\/j=19\/(j≠15/\j≠16/\j≠17/\j≠18/\j≠19):=by omega
  rcases hs i with e|e|e|e|e|⟨a,b,c',d,e⟩
  .subst e;exact hf.1 0
  .subst e;exact hf.1 1
  .subst e;exact hf.1 2
  .subst e;exact hf.2 3
  .subst e;exact hf.2 4
  .rw[if_neg a,if_neg b,if_neg c',if_neg d,if_neg e];exact .rfl' _
 .exact⟨rfl,λi=>.rfl' _⟩
def axW {c:Case}{g:File}(h:SameF c.file g)(r:Realm)(forum:Int):jJ r forum (jM c g)=jJ r forum c:=by
 obtain⟨h1,h2,h3,h4⟩:=h;simp[jJ,rp,mG,jM,eT,h1,h2]
def agl (c:Case)(g:File):fj (jM c g)=jM (fj c) (bx g c.day):=rfl
def alz (r:Realm)(forum q:Int){c:Case}{g:File}(h:SameF c.file g)(hf:FLe (bx c.file c.day) (bx g c.day) c.sign (jE c)):
 kl (tl r forum q c).cell (tl r forum q (jM c g)).cell/\(tl r forum q (jM c g)).err=(tl r forum q c).err:=by
 have hs:=h.at_ c.day;have hv:=aBy (c:=fj c) hs hf r;have he:=axX (c:=fj c) hs r;have hp:=axW (c:=fj c) hs r forum;have e1:(gT r forum q (jM c g)).1=(gT r forum q c).1:=by
  unfold gT;rw[agl];rw[hp];by_cases e:gp r (fj c)=[]
  .rw[if_pos e,if_pos (he.2 e)]
  .rw[if_neg e,if_neg (λx=>e (he.1 x))];split
   .rfl
   split
   .rfl
   rfl
 have e2:sY (gT r forum q c).2 (gT r forum q (jM c g)).2:=by
  unfold gT;rw[agl];rw[hp];by_cases e:gp r (fj c)=[]
  .rw[if_pos e,if_pos (he.2 e)];exact⟨rfl,λi=>.rfl' _⟩
  .rw[if_neg e,if_neg (λx=>e (he.1 x))];split
   .exact⟨rfl,λi=>.rfl' _⟩
   split
   .exact⟨rfl,λi=>.rfl' _⟩
   exact hv
 unfold tl;rw[e1];split
 .exact⟨.rfl' _,rfl⟩
 .exact als e2 _ _
def aBh {a b:Said}(h:kl a.cell b.cell)(he:b.err=a.err)(hn:pJ a≠2):pJ b=pJ a:=by
 unfold pJ at*;rw[he];split
 .rfl
 .rename_i e;rw[if_neg e] at hn;cases hk:a.cell.known
  .rw[hk] at hn;simp at hn
  .rw[h hk,hk]
def acF (f:File)(day k s:Int):cH (bx f day) k s=if aC s (vF day f.signs).length=true then cH f k s else dX:=by
 unfold cH;have h:(bx f day).facts.find? (jd k s)=if aC s (vF day f.signs).length=true then f.facts.find? (jd k s) else none:=by
  show(f.facts.filter (mw (vF day f.signs).length)).find? (jd k s)=_;generalize (vF day f.signs).length=n
  induction f.facts with
  |nil=>simp
  |cons x l ih=>
   by_cases hx:jd k s x=true
   .have hs:x.at_=s:=by simp[jd] at hx;exact hx.2
    by_cases hn:aC s n=true
    .have:mw n x=true:=by unfold mw;rw[hs];exact hn
     simp[Ed,this,hx,hn]
    .have:¬mw n x=true:=by unfold mw;rw[hs];exact hn
     simp only[Ed,if_neg this,ih,if_neg hn]
   .by_cases hn:mw n x=true
    .simp[Ed,hn,hx,ih]
    .simp[Ed,hn,hx,ih]
 rw[h];by_cases hn:aC s (vF day f.signs).length=true
 .rw[if_pos hn,if_pos hn]
 .rw[if_neg hn,if_neg hn]
def abx (r:Realm)(forum q:Int){f g:File}(h:SameF f g)(day:Int):kX r forum q g day=kX r forum q f day:=by
 obtain⟨h1,h2,h3,h4⟩:=h;unfold kX;rw[show({g with facts:=[]}:File)={f with facts:=[]} by rw[h1,h2,h3,h4]]
def ax4 {f g:File}(h:SameF f g):nN g=nN f:=by
 obtain⟨h1,h2,h3,h4⟩:=h;have e:xw g=xw f:=by funext a;unfold xw;rw[h1]
 unfold nN nO mi;rw[h4,h2,e,h1]
def T5 (r:Realm)(forum:Int){f g:File}(h:SameF f g)(day:Int):eI r forum g day=eI r forum f day:=by
 have ha:=h.at_ day;unfold eI;rw[ha.signs,h.bill,ax4 ha,abx r forum 6 ha]
def ayt {f g:File}(h:SameF f g)(sign day:Int):Al g sign day=Al f sign day:=by
 unfold Al;rw[h.signs,h.acts]
def ayx {f g:File}(h:SameF f g)(sign:Int)(n:Nat):lG g sign n=lG f sign n:=by
 unfold lG;rw[h.alters,h.bill]
def eu (v:View)(g:File):View:={v with file:=g}
def avQ (r:Realm)(forum:Int){f g:File}(h:SameF f g)(day:Int):gh r forum g day=eu (gh r forum f day) (bx g day):=by
 have ha:=h.at_ day;unfold gh eu;rw[abx r forum 0 ha,T5 r forum ha]
def awX (f:File)(kind sign:Int)(hl:f.facts.length<=4294967295):ah T 25 [bW f,.int kind,.int sign] (cV (cH f kind sign)):=by
 refine zyw 155 aAd ?_;simp[YN];refine .scan f.facts.length (λk=>jd kind sign (f.facts.getD k default)=false) (λk=>[.int k]) (λ_=>[cV dX]) ?_ (λk hk hj ho=>?_) (λk hk hj ho=>?_) (λhj=>?_)
 .simp
 .have hw:=bq hk (by omega);simp[hk,jd] at ho;by_cases h1:f.facts[k].kind=kind<;>by_cases h2:f.facts[k].at_=sign
  .exact absurd h2 (ho h1)
  all_goals simp[Ol,DB,hk,hw,h1,h2]
 .have hf:cH f kind sign=ew (decide (f.facts[k].n≠0)):=by
   unfold cH;rw[yI hk (by simpa [hk] using ho) (λj bz=>by have:=hj j bz;simpa [show j<f.facts.length by omega] using this)]
  simp[hk,jd] at ho;by_cases hn:f.facts[k].n=0
  .simp[Ol,DB,hk,ho,hf,hn];rfl
  .simp[Ol,DB,hk,ho,hf,hn];rfl
 .have hf:cH f kind sign=dX:=by
   unfold cH;rw[B5 (λj bz=>by have:=hj j bz;simpa [bz] using this)]
  simp[Ol,DB,hf]
def jt (x y:Fact):Bool:=decide (y.at_<x.at_)||(decide (y.at_=x.at_)&&decide (y.kind<x.kind))
def kE (x y:Fact):Bool:=decide (x.at_<y.at_)||(decide (y.at_=x.at_)&&decide (x.kind<y.kind))
def vG (l:List Fact)(x:Fact):List Fact:=l.filter (jt x)++[x]++l.filter (kE x)
def mT (f:File)(x:Fact):File:=if(cH f x.kind x.at_).known=true then f else {f with facts:=vG f.facts x}
@[simp] def aI1 (a0 a1 a2 a3 a4 a5 a6 a7 a8 a9 mY mZ a12 na nf pX pY a17 rk x:D):dF [a0,a1,a2,a3,a4,a5,a6,a7,a8,a9,mY,mZ,a12,na,nf,pX,pY,a17,rk] 18 [x]=[a0,a1,a2,a3,a4,a5,a6,a7,a8,a9,mY,mZ,a12,na,nf,pX,pY,a17,x]:=zyz
@[simp] def aIj:D.none.cells=[D.none]:=zyz
def ala (f:File)(x:Fact)(hl:f.facts.length<=100000):ah T 8 [bW f,tA x] (bW (mT f x)):=by
 refine zyw 154 aAf ?_;simp[YP];refine⟨_,awX f x.kind x.at_ (by omega),?_⟩;unfold mT;cases hk:(cH f x.kind x.at_).known
 case true=>simp[hk]
 simp[hk];refine aL.forRounds f.facts.length (λk=>[.none,.int k]) (λk=>[facts ((f.facts.take k).filter (jt x))]) ?_ (λk hk=>?_) ?_
 .simp[facts]
 .have hw:=bq hk (by omega);rw[DV (jt x) f.facts hk];have hlen:((f.facts.take k).filter (jt x)).length<=k:=ff (lL _ _) (by simp;omega);generalize (f.facts.take k).filter (jt x)=A at*;cases hd:jt x f.facts[k]
  .simp[jt] at hd;by_cases h2:f.facts[k].at_=x.at_
   .simp[Om,DC,hk,hw,hd,h2];intro h;have:=hd.2 h2;omega
   .simp[Om,DC,hk,hw,hd,h2];intro h;omega
  .simp[jt] at hd;simp[Om,DC,hk,hw,hd];exact⟨by omega,by simp[facts]⟩
 .have mz:=lL (jt x) f.facts;simp[Om,DC];refine⟨by omega,?_⟩;refine aL.forRounds f.facts.length (λk=>[.none,.int k]) (λk=>[facts (f.facts.filter (jt x)++[x]++(f.facts.take k).filter (kE x))]) ?_ (λk hk=>?_) ?_
  .simp[facts]
  .have hw:=bq hk (by omega);rw[DV (kE x) f.facts hk];have hlen:((f.facts.take k).filter (kE x)).length<=k:=ff (lL _ _) (by simp;omega);generalize (f.facts.take k).filter (kE x)=A at*;generalize f.facts.filter (jt x)=B at*;cases hd:kE x f.facts[k]
   .simp[kE] at hd;by_cases h2:f.facts[k].at_=x.at_
    .simp[On,DD,hk,hw,hd,h2];intro h;have:=hd.2 h2;omega
    .simp[On,DD,hk,hw,hd,h2];intro h;omega
   .simp[kE] at hd;simp[On,DD,hk,hw,hd];exact⟨by omega,by simp[facts]⟩
  .simp[On,DD];have e:f.facts.filter (jt x)++x::f.facts.filter (kE x)=vG f.facts x:=by unfold vG;simp
   have e2:f.facts.filter (jt x)++[x]++f.facts.filter (kE x)=vG f.facts x:=rfl;simp only[e,e2];generalize vG f.facts x=L;rfl
def acK {α:Type}{p q:α->Bool}(h:∀y,p y=true->q y=true)(l:List α):(l.filter q).find? p=l.find? p:=by
 induction l with
 |nil=>rfl
 |cons y l ih=>
  cases hq:q y
  .have hp:p y=false:=by
        cases e:p y
        .rfl
        .rw[h y e] at hq;cases hq
   rw[Ed,if_neg (by simp[hq]),ih,Py,hp]
  .rw[Ed,if_pos hq,Py,Py,ih]
def acL {α:Type}{p q:α->Bool}(h:∀y,p y=true->q y=false)(l:List α):(l.filter q).find? p=none:=by
 rw[xX];intro y hy hp;have:=(dH.mp hy).2;rw[h y hp] at this;cases this
def aBI (f:File)(x:Fact):SameF f (mT f x):=by
 unfold mT;split<;>exact⟨rfl,rfl,rfl,rfl⟩
def aBG (f:File)(x:Fact)(k s:Int):kl (cH f k s) (cH (mT f x) k s):=by
 unfold mT;by_cases hk:(cH f x.kind x.at_).known=true
 .rw[if_pos hk];exact .rfl' _
 rw[if_neg hk];by_cases e:k=x.kind/\s=x.at_
 .obtain⟨rfl,rfl⟩:=e;intro h;exact absurd h hk
 .intro _;have hx:jd k s x=false:=by
   cases h:jd k s x
   .rfl
   .simp[jd] at h;exact absurd ⟨h.1.symm,h.2.symm⟩ e
  have hf:(vG f.facts x).find? (jd k s)=f.facts.find? (jd k s):=by
   unfold vG;rw[rh,aaQ,aaQ];have h1:[x].find? (jd k s)=none:=by simp[hx]
   rw[h1];have key:∀y,jd k s y=true->y.kind=k/\y.at_=s:=λy hy=>by simpa [jd] using hy
   by_cases af:s<x.at_\/(s=x.at_/\k<x.kind)
   .rw[acK (q:=jt x) (λy hy=>by obtain⟨rfl,rfl⟩:=key y hy;simpa [jt] using af),acL (q:=kE x) (λy hy=>by obtain⟨rfl,rfl⟩:=key y hy;simp[kE];omega)];cases f.facts.find? (jd k s)<;>rfl
   .rw[acL (q:=jt x) (λy hy=>by obtain⟨rfl,rfl⟩:=key y hy;simp[jt];omega),acK (q:=kE x) (λy hy=>by obtain⟨rfl,rfl⟩:=key y hy;simp[kE];omega)];rfl
  unfold cH;rw[hf]
def aBF (l:List Fact)(x:Fact):(vG l x).length<=l.length+1:=by
 have h:(l.filter (jt x)).length+(l.filter (kE x)).length<=l.length:=by
  induction l with
  |nil=>simp
  |cons y l ih=>
   have hd:¬(jt x y=true/\kE x y=true):=by simp[jt,kE];omega
   cases h1:jt x y<;>cases h2:kE x y<;>simp[h1,h2] at hd ⊢<;>omega
 unfold vG;simp;omega
def aBH (f:File)(x:Fact):(mT f x).facts.length<=f.facts.length+1:=by
 unfold mT;split
 .omega
 .exact aBF _ _
structure MoreF (f g:File):Prop where
 same:SameF f g
 le:∀k s,kl (cH f k s) (cH g k s)
def MoreF.rfl' (f:File):MoreF f f:=⟨⟨rfl,rfl,rfl,rfl⟩,λ_ _=>.rfl' _⟩
def MoreF.with_ {f g:File}(h:MoreF f g)(x:Fact):MoreF f (mT g x):=by
 obtain⟨⟨h1,h2,h3,h4⟩,hl⟩:=h;obtain⟨k1,k2,k3,k4⟩:=aBI g x;refine⟨⟨k1.trans h1,k2.trans h2,k3.trans h3,k4.trans h4⟩,λk s hk=>?_⟩;have e:=hl k s hk;rw[aBG g x k s (by rw[e];exact hk),e]
def MoreF.at_ {f g:File}(h:MoreF f g)(day:Int):MoreF (bx f day) (bx g day):=by
 refine⟨h.same.at_ day,λk s=>?_⟩;rw[acF,acF,h.same.signs];split
 .exact h.le k s
 .exact .no _
def Xc {v:View}{g:File}(h:MoreF v.file g)(q s:Int)(hn:cq v q s≠2):cq (eu v g) q s=cq v q s:=by
 unfold cq at*;have hm:=alz v.realm v.forum q (c:=⟨v.file,s,s,-1,v.due,v.day⟩) h.same ⟨λk=>(h.at_ v.day).le k _,λk=>(h.at_ v.day).le k _⟩;exact aBh hm.1 hm.2 hn
def afc (a b c:Int)(ha:a=0\/a=1\/a=2)(hb:b=0\/b=1\/b=2)(hc:c=0\/c=1\/c=2):lu [a,b,c] 1=if a=0\/b=0\/c=0 then 0 else if a=2\/b=2\/c=2 then 2 else 1:=by
 rcases ha with rfl|rfl|rfl<;>rcases hb with rfl|rfl|rfl<;>rcases hc with rfl|rfl|rfl<;>decide
def I0 (x:Said):pJ x=0\/pJ x=1\/pJ x=2:=by
 unfold pJ
 repeat' split
 all_goals simp
def RQ (a b:Effect):Bool:=(decide (a.binds=2)||decide (b.binds=a.binds))&&(decide (a.text=2)||decide (b.text=a.text))&&decide (a.sum<=b.sum)&&decide (a.recourse=b.recourse)
def an6 {v:View}{g:File}(h:MoreF v.file g)(s:Int)(L1:v.form=0\/v.form=1\/v.form=2):RQ (jz v s) (jz (eu v g) s)=true:=by
 have m1:=Xc h 1 s;have m2:=Xc h 2 s;have m4:=Xc h 4 s;have t1:cq v 1 s=0\/cq v 1 s=1\/cq v 1 s=2:=I0 _;have t2:cq v 2 s=0\/cq v 2 s=1\/cq v 2 s=2:=I0 _;have u1:cq (eu v g) 1 s=0\/cq (eu v g) 1 s=1\/cq (eu v g) 1 s=2:=I0 _;have u2:cq (eu v g) 2 s=0\/cq (eu v g) 2 s=1\/cq (eu v g) 2 s=2:=I0 _;have e1:(eu v g).file.alters=v.file.alters:=h.same.alters;have e2:ni (eu v g).file s v.file.alters.length=ni v.file s v.file.alters.length:=by unfold ni;rw[e1]
 have e3:su (eu v g).file=su v.file:=by unfold su;rw[e1]
 have e4:=ayx (g:=(eu v g).file) h.same s v.file.alters.length;have es:=ayt (g:=(eu v g).file) h.same s v.day;have hb:lu [v.form,cq v 1 s,cq v 2 s] 1=2\/lu [v.form,cq (eu v g) 1 s,cq (eu v g) 2 s] 1=lu [v.form,cq v 1 s,cq v 2 s] 1:=by
  rw[afc _ _ _ L1 t1 t2,afc _ _ _ L1 u1 u2];generalize cq v 1 s=a1 at*;generalize cq v 2 s=a2 at*;generalize cq (eu v g) 1 s=b1 at*;generalize cq (eu v g) 2 s=b2 at*
  repeat' split
  all_goals omega
 have ht:((kQ v s).1=2\/(kQ (eu v g) s).1=(kQ v s).1)/\(kQ v s).2<=(kQ (eu v g) s).2:=by
  unfold kQ;rw[e1,e2,e3,e4];split
  .exact⟨.inr rfl,pP _⟩
  generalize lG v.file s v.file.alters.length=x at*;generalize su v.file=y at*;generalize cq v 4 s=a at*;generalize cq (eu v g) 4 s=b at*;by_cases ha:a=2
  .subst ha;rw[if_neg (by decide),if_pos rfl];refine⟨.inl rfl,?_⟩
   repeat' split
   all_goals simp
   all_goals omega
  .have:=m4 ha;subst this;exact⟨.inr rfl,pP _⟩
 unfold RQ jz;simp only[show(eu v g).file.signs=v.file.signs from h.same.signs,show(eu v g).day=v.day from rfl,show(eu v g).form=v.form from rfl,es];generalize kQ v s=tx at*;generalize kQ (eu v g) s=ty at*;generalize lu [v.form,cq v 1 s,cq v 2 s] 1=ja at*;generalize lu [v.form,cq (eu v g) 1 s,cq (eu v g) 2 s] 1=jb at*;obtain⟨h1,h2⟩:=ht;simp only[ao,kj,decide_eq_true_eq];refine⟨⟨⟨?_,h1⟩,?_⟩,trivial⟩
 .split
  .exact .inr rfl
  .exact hb
 .split<;>omega
end Rm
namespace Rm
open Go Cx
end Rm
namespace Rm
open Go Go.Proofs Cx
structure SumsOK (f:File):Prop where
 bill:1<=f.bill.sum/\f.bill.sum<=1099511627776
 rate:0<=f.bill.rate/\f.bill.rate<=1000
 alters:∀a,a∈f.alters->1<=a.sum/\a.sum<=1099511627776
 signs:∀s,s∈f.signs->s.kind=1\/s.kind=4->1<=s.sum/\s.sum<=1099511627776
def SumsOK.at_ {f:File}(h:SumsOK f)(day:Int):SumsOK (bx f day):=
 ⟨h.bill,h.rate,λa ha=>h.alters a ((dH.1 ha).1),λs hs=>h.signs s ((Jo _).subset hs)⟩
def ayw {f:File}(h:SumsOK f)(sign:Int)(n:Nat):1<=lG f sign n/\lG f sign n<=1099511627776:=by
 unfold lG
 have key:∀(l:List Alter) (s:Int),(∀a,a∈l->a∈f.alters)->1<=s/\s<=1099511627776->1<=l.foldl (λs a=>if a.at_<=sign then a.sum else s) s/\l.foldl (λs a=>if a.at_<=sign then a.sum else s) s<=1099511627776:=by
  intro l
  induction l with
  |nil=>exact λs _ hs=>hs
  |cons a l ih=>
   intro s hl hs;rw[vP];refine ih _ (λb hb=>hl b (by simp[hb])) ?_;split
   .exact h.alters a (hl a (by simp))
   .exact hs
 exact key _ _ (λa ha=>aaY ha) h.bill
def atn {f:File}{sign:Int}(h:SumsOK f)(au:ni f sign f.alters.length=true):1<=su f/\su f<=1099511627776:=by
 unfold su;have Gs:0<f.alters.length:=by
  rcases El f.alters.length with e|e
  .simp[ni,vQ.mp e] at au
  .exact e
 have af:f.alters.length-1<f.alters.length:=by omega
 have e:f.alters.getD (f.alters.length-1) default=f.alters[f.alters.length-1]:=by simp[af]
 rw[e];exact h.alters _ (bR af)
def ayJ {v:View}(h:SumsOK v.file)(sign:Int):1<=(kQ v sign).2/\(kQ v sign).2<=1099511627776:=by
 have h1:=ayw h sign v.file.alters.length;unfold kQ;split
 .exact h1
 rename_i ha;have h2:=atn (sign:=sign) h (by simpa using ha);split
 .exact h2
 split
 .simp only;omega
 .exact h1
def acv {v:View}(h:SumsOK v.file)(sign:Int)(h0:0<=sign)(h1:sign<v.file.signs.length):1<=(jz v sign).sum/\(jz v sign).sum<=1099511627776:=by
 have ht:=ayJ h sign;have af:sign.toNat<v.file.signs.length:=by omega
 have e:v.file.signs.getD sign.toNat default=v.file.signs[sign.toNat]:=by simp[af]
 unfold jz;simp only[e];split
 .rename_i hk;have:=h.signs _ (bR af) hk;omega
 .exact ht
def aaj (n m:Int):ah T 39 [.int n,.int m] (.bool (wi n 0 m)):=by
 refine zyw 111 azw ?_;simp[Ya];by_cases h:0<=n<;>simp[wi,h]
end Rm
namespace Rm
open Go Cx
structure Ratio where
 num:Int
 den:Int
 deriving DecidableEq,Inhabited
structure Quote where
 perMille:Int
 fails:List Ratio
 deriving DecidableEq,Inhabited
def Ratio.right (p:Ratio):Prop:=1<=p.den/\p.den<=1073741824/\0<=p.num/\p.num<=p.den
def kf (n:Int)(p:Ratio):Int:=(n*p.num+p.den-1)/p.den
def ayo {n m:Int}{p:Ratio}(hp:p.right)(h:n<=m):kf n p<=kf m p:=by
 unfold kf;have h1:n*p.num<=m*p.num:=Int.mul_le_mul_of_nonneg_right h hp.2.2.1;exact aaI (by have:=hp.1;omega) (by omega)
def IU {n:Int}{p:Ratio}(hp:p.right)(h:0<=n):0<=kf n p:=by
 unfold kf;have h1:0<=n*p.num:=AG h hp.2.2.1;exact aaJ (by have:=hp.1;omega) (by have:=hp.1;omega)
def Xo {n:Int}{p:Ratio}(hp:p.right)(h:0<=n):kf n p<=n:=by
 unfold kf;have h1:n*p.num<=n*p.den:=aaL hp.2.2.2 h;have h2:n*p.num+p.den-1<(n+1)*p.den:=by rw[Ji];omega
 have h3:=Int.ediv_lt_of_lt_mul (by have:=hp.1;omega:0<p.den) h2;omega
def sm (p:Ratio):Nat->Int->Int
 |0,n=>n
 |k+1,n=>sm p k (kf n p)
def afa {p:Ratio}(hp:p.right):∀(k:Nat) {n:Int},0<=n->0<=sm p k n
 |0,_,h=>h
 |k+1,_,h=>afa hp k (IU hp h)
def TK {p:Ratio}(hp:p.right):∀(k:Nat) {n:Int},0<=n->sm p k n<=n
 |0,_,h=>pP _
 |k+1,_,h=>Jj (TK hp k (IU hp h)) (Xo hp h)
def ae9 {p:Ratio}(hp:p.right):∀(a b:Nat) {n m:Int},a<=b->0<=n->n<=m->sm p b n<=sm p a m
 |0,b,n,m,_,h0,h=>Jj (TK hp b h0) h
 |a+1,b,n,m,my,h0,h=>by
  obtain⟨b,rfl⟩:∃c,b=c+1:=⟨b-1,by omega⟩
  exact ae9 hp a b (by omega) (IU hp h0) (ayo hp h)
def om (ps:List Ratio)(uP:Nat->Nat):Nat->Int
 |0=>1000000000
 |g+1=>sm (ps.getD g default) (uP g) (om ps uP g)
def mm (ps:List Ratio):Prop:=ps.length=10/\∀p,p∈ps->p.right
def mm.at {ps:List Ratio}(h:mm ps){g:Nat}(hg:g<10):(ps.getD g default).right:=by
 have:g<ps.length:=by rw[h.1];exact hg
 rw[aF,aX this];exact h.2 _ (bR this)
def Lb {ps:List Ratio}(h:mm ps)(uP:Nat->Nat):∀g,g<=10->0<=om ps uP g
 |0,_=>by simp[om]
 |g+1,hg=>afa (h.at (by omega)) _ (Lb h uP g (by omega))
def abR {ps:List Ratio}(h:mm ps)(uP:Nat->Nat):∀g,g<=10->om ps uP g<=1000000000
 |0,_=>pP _
 |g+1,hg=>Jj (TK (h.at (by omega)) _ (Lb h uP g (by omega))) (abR h uP g (by omega))
def abS {ps:List Ratio}(h:mm ps){a b:Nat->Nat}(my:∀g,a g<=b g):∀g,g<=10->om ps b g<=om ps a g
 |0,_=>pP _
 |g+1,hg=>ae9 (h.at (by omega)) _ _ (my g) (Lb h b g (by omega)) (abS h my g (by omega))
def abT (ps:List Ratio){a:Nat->Nat}(h:∀g,a g=0):∀g,om ps a g=1000000000
 |0=>rfl
 |g+1=>by rw[om,h g,sm,abT ps h g]
def gw (gs:List Int)(g:Nat):Nat:=(gs.filter λx=>decide (x=(g:Int))).length
def acT (ps:List Ratio):∀(k a:Nat) (gs:List Int) (n:Int),a+k=10->gs.Pairwise (·<=·)->(∀x,x∈gs->(a:Int)<=x/\x<10)->
 gs.foldl (λn x=>kf n (ps.getD x.toNat default)) n=(List.range k).foldl (λn i=>sm (ps.getD (a+i) default) (gw gs (a+i)) n) n
 |0,a,gs,n,hk,hs,hx=>by
  cases gs with
  |nil=>rfl
  |cons x gs=>have:=hx x (by simp);omega
 |k+1,a,gs,n,hk,hs,hx=>by
  have key:∀(gs:List Int) (n:Int),gs.Pairwise (·<=·)->(∀x,x∈gs->(a:Int)<=x/\x<10)->gs.foldl (λn x=>kf n (ps.getD x.toNat default)) n=(gs.filter λx=>decide (x≠(a:Int))).foldl (λn x=>kf n (ps.getD x.toNat default)) (sm (ps.getD a default) (gw gs a) n):=by
   intro gs
   induction gs with
   |nil=>intro n _ _;rfl
   |cons x gs ih=>
    intro n hs hx;obtain⟨h1,h2⟩:=yb.1 hs;by_cases e:x=(a:Int)
    .subst e;rw[vP,ih _ h2 (λy hy=>hx y (by simp[hy]))];have e1:gw ((a:Int)::gs) a=gw gs a+1:=by simp[gw]
     rw[e1,sm];simp
    .have aK:∀y,y∈x::gs->y≠(a:Int):=λy hy e'=>by
       subst e';rcases cD.1 hy with h|h
       .exact e h.symm
       .have:=h1 _ h;have:=(hx x (by simp)).1;omega
     have e1:gw (x::gs) a=0:=by
       unfold gw;rw[vQ,List.filter_eq_nil_iff];intro y hy;simpa using aK y hy
     have e2:(x::gs).filter (λx=>decide (x≠(a:Int)))=x::gs:=by
       rw[List.filter_eq_self];intro y hy;simpa using aK y hy
     rw[e1,e2];rfl
  rw[key gs n hs hx,acT ps k (a+1) _ _ (by omega) (hs.sublist List.filter_sublist) (λx dc=>by
   obtain⟨h1,h2⟩:=dH.1 dc;have h3:=hx x h1;have h4:x≠(a:Int):=by simpa using h2
   omega)]
  rw[List.range_succ_eq_map,vP,aaS]
  have ec:∀i:Nat,gw (gs.filter λx=>decide (x≠(a:Int))) (a+1+i)=gw gs (a+1+i):=by
   intro i;unfold gw;rw[List.filter_filter]
   congr 1
   apply List.filter_congr;intro x _;by_cases e:x=((a+1+i:Nat):Int)
   .subst e;simp;omega
   .rw[decide_eq_false e,sX]
  simp only[ec,iY]
  congr 1
  funext n i;rw[show a+1+i=a+i.succ by omega]
def apJ (ps:List Ratio){gs:List Int}(hs:gs.Pairwise (·<=·))(hx:∀x,x∈gs->0<=x/\x<10):
 gs.foldl (λn x=>kf n (ps.getD x.toNat default)) 1000000000=om ps (gw gs) 10:=by
 rw[acT ps 10 0 gs _ rfl hs (λx h=>by have:=hx x h;omega)]
 have:∀k,(List.range k).foldl (λn i=>sm (ps.getD (0+i) default) (gw gs (0+i)) n) 1000000000=om ps (gw gs) k:=by
  intro k
  induction k with
  |zero=>rfl
  |succ k ih=>rw[PH,s9,ih];simp[om]
 exact this 10
def gQ (f:Nat->Int):Nat->Int
 |0=>0
 |n+1=>gQ f n+f (n+1)
def Xp {f:Nat->Int}{p:Int}:∀(k a:Nat),(∀s,a<s->s<=a+k->f s=p)->gQ f (a+k)=gQ f a+(k:Int)*p
 |0,a,_=>by simp
 |k+1,a,h=>by
  show gQ f (a+k)+f (a+k+1)=_;rw[Xp k a λs h1 h2=>h s h1 (by omega),h (a+k+1) (by omega) (by omega)];rw[Int.natCast_add,Ji];simp;omega
def OY {f g:Nat->Int}:∀n,(∀s,0<s->s<=n->f s<=g s)->gQ f n<=gQ g n
 |0,_=>pP _
 |n+1,h=>by
  have h1:=OY n λs h1 h2=>h s h1 (by omega);have h2:=h (n+1) (by omega) (by omega);show gQ f n+f (n+1)<=gQ g n+g (n+1);omega
def Xq {f:Nat->Int}{m:Nat}(h:∀s,m<s->f s=0){n:Nat}(hn:m<=n):gQ f n=gQ f m:=by
 have:=Xp (f:=f) (p:=0) (n-m) m λs h1 h2=>h s h1;rw[show m+(n-m)=n by omega] at this;simpa using this
abbrev WS:Type:=Int×Int×Int
def xz (pay:Nat->Int)(w:WS)(s:Int):WS:=
 if s<=w.2.2 then w else
    (w.1+(s-w.2.2)/1000000000*pay s.toNat+((s-w.2.2)%1000000000*pay s.toNat+w.2.1)/1000000000,((s-w.2.2)%1000000000*pay s.toNat+w.2.1)%1000000000,s)
def iK (pay:Nat->Int)(L:List Int):WS:=L.foldl (xz pay) (0,0,0)
structure InvW (pay:Nat->Int) (w:WS):Prop where
 sum:1000000000*w.1+w.2.1=gQ pay w.2.2.toNat
 r0:0<=w.2.1
 r1:w.2.1<1000000000
 b0:0<=w.2.2
def InvW.start (pay:Nat->Int):InvW pay (0,0,0):=⟨by simp[gQ],by simp,by simp,by simp⟩
def InvW.step {pay:Nat->Int}(hp:∀s,0<=pay s){w:WS}(h:InvW pay w){x:Int}(hc:∀s:Nat,w.2.2<s->(s:Int)<=x->pay s=pay x.toNat):InvW pay (xz pay w x):=by
 unfold xz;by_cases hx:x<=w.2.2
 .rw[if_pos hx];exact h
 rw[if_neg hx];obtain⟨h1,h2,h3,h4⟩:=h;obtain⟨whole,rest,below⟩:=w;simp only at*;have hk:below.toNat+(x-below).toNat=x.toNat:=by omega
 have hs:=Xp (f:=pay) (p:=pay x.toNat) (x-below).toNat below.toNat λs k1 k2=>hc s (by omega) (by omega);rw[hk] at hs;have e1:(((x-below).toNat:Nat):Int)=x-below:=by omega
 rw[e1] at hs;have hm:=Int.mul_ediv_add_emod ((x-below)%1000000000*pay x.toNat+rest) 1000000000;have hw:=Int.mul_ediv_add_emod (x-below) 1000000000;have hmul:(x-below)*pay x.toNat=1000000000*((x-below)/1000000000*pay x.toNat)+(x-below)%1000000000*pay x.toNat:=by
  rw[<-Int.mul_assoc,<-Ji,hw]
 have p0:=hp x.toNat;refine⟨?_,?_,?_,?_⟩
 .show 1000000000*(whole+(x-below)/1000000000*pay x.toNat+((x-below)%1000000000*pay x.toNat+rest)/1000000000)+((x-below)%1000000000*pay x.toNat+rest)%1000000000=gQ pay x.toNat;rw[hs,<-h1,hmul];generalize (x-below)/1000000000*pay x.toNat=A at*;generalize (x-below)%1000000000*pay x.toNat=B at*;omega
 .exact Int.emod_nonneg _ (by omega)
 .exact Int.emod_lt_of_pos _ (by omega)
 .show 0<=x;omega
def Pt (pay:Nat->Int)(L:List Int):Prop:=∀s x:Nat,s<=x->(∀y,y∈L->y<(s:Int)\/(x:Int)<=y)->pay s=pay x
def RJ {pay:Nat->Int}(hp:∀s,0<=pay s){L:List Int}(hg:Pt pay L)(hs:L.Pairwise (·<=·))(h0:∀x,x∈L->0<=x):∀k,k<=L.length->
 InvW pay (iK pay (L.take k))/\(∀j (hj:j<L.length),j<k->L[j]<=(iK pay (L.take k)).2.2)/\((iK pay (L.take k)).2.2=0\/(iK pay (L.take k)).2.2∈L)
 |0,_=>⟨.start pay,λj _ h=>absurd h (Nat.not_lt_zero _),.inl rfl⟩
 |k+1,hk=>by
  obtain⟨h1,h2,h3⟩:=RJ hp hg hs h0 k (by omega);have af:k<L.length:=by omega
  have e:iK pay (L.take (k+1))=xz pay (iK pay (L.take k)) L[k]:=by
   unfold iK;rw[iX af,s9];rfl
  rw[e];generalize iK pay (L.take k)=w at*;have hx0:=h0 _ (bR af);refine⟨h1.step hp λs k1 k2=>?_,λj hj nu=>?_,?_⟩
  .refine hg s _ (by omega) λy hy=>?_;obtain⟨j,hj,rfl⟩:=fe hy;by_cases nu:j<k
   .have:=h2 j hj nu;omega
   .have:L[k]<=L[j]:=by
     by_cases e:j=k
     .subst e;exact pP _
     .exact PD.1 hs k j af hj (by omega)
    omega
  .unfold xz;by_cases hx:L[k]<=w.2.2
   .rw[if_pos hx];by_cases e:j=k
    .subst e;exact hx
    .exact h2 j hj (by omega)
   .rw[if_neg hx];show L[j]<=L[k];by_cases e:j=k
    .subst e;exact pP _
    .exact PD.1 hs j k hj af (by omega)
  .unfold xz;by_cases hx:L[k]<=w.2.2
   .rw[if_pos hx];exact h3
   .rw[if_neg hx];exact .inr (bR af)
def apI {pay:Nat->Int}(hp:∀s,0<=pay s){L:List Int}(hg:Pt pay L)(hs:L.Pairwise (·<=·))(h0:∀x,x∈L->0<=x){m:Nat}(hm:∀x,x∈L->x<=(m:Int))(hz:∀s:Nat,(∀y,y∈L->y<(s:Int))->pay s=0):
 (iK pay L).1=gQ pay m/1000000000:=by
 obtain⟨h1,h2,h3⟩:=RJ hp hg hs h0 L.length (aZ _);rw[Ei] at h1 h2 h3;generalize iK pay L=w at*;have hb:w.2.2.toNat<=m:=by
  rcases h3 with e|e
  .rw[e];exact kz _
  .have:=hm _ e;omega
 have aeB:gQ pay m=gQ pay w.2.2.toNat:=Xq (λs ei=>hz s λy hy=>by
  obtain⟨j,hj,rfl⟩:=fe hy;have:=h2 j hj hj;have:=h1.b0;omega) hb
 rw[aeB,<-h1.sum];have:=h1.r0;have:=h1.r1;omega
def MI (e:Effect):Bool:=decide (e.binds=1)&&(decide (e.kind=1)||e.recourse)
def qf (r:Realm)(e:Effect):Int:=(r.firms.getD e.firm.toNat default).group
def fD (r:Realm)(g:Int):Int:=(r.groups.getD g.toNat default).grade
def jf (r:Realm)(l:List Effect)(s:Int):List Int:=kB (l0 ((l.filter λe=>decide (s<=e.sum)).map (qf r)))
def wq {r:Realm}{l:List Effect}{s g:Int}:g∈jf r l s↔∃e,e∈l/\s<=e.sum/\qf r e=g:=by
 unfold jf;rw[am5 (My _),ata];simp only[bY,dH,decide_eq_true_eq,and_assoc]
def Cc (r:Realm)(l:List Effect)(s:Int):(jf r l s).Pairwise (·<·):=am6 (My _)
def ru (r:Realm)(gs:List Int)(ps:List Ratio):Int:=om ps (gw (gs.map (fD r))) 10
def eR (r:Realm)(l:List Effect)(ps:List Ratio)(s:Nat):Int:=1000000000-ru r (jf r l s) ps
def CN:∀{a b:List Int},a.Pairwise (·<·)->b.Pairwise (·<·)->(∀x,x∈a->x∈b)->a.Sublist b
 |[],b,_,_,_=>List.nil_sublist b
 |x::a,[],_,_,h=>by have:=h x (by simp);cases this
 |x::a,y::b,ha,hb,h=>by
  obtain⟨a1,a2⟩:=yb.1 ha;obtain⟨b1,b2⟩:=yb.1 hb;by_cases e:x=y
  .subst e;refine List.Sublist.cons_cons _ (CN a2 b2 λz hz=>?_);rcases cD.1 (h z (by simp[hz])) with e|e
   .have:=a1 z hz;omega
   .exact e
  .refine .cons _ (CN ha b2 λz hz=>?_);rcases cD.1 (h z hz) with e'|e'
   .subst e';rcases cD.1 hz with e2|e2
    .exact absurd e2.symm e
    .have h1:=a1 _ e2;rcases cD.1 (h x (by simp)) with e3|e3
     .exact absurd e3 e
     .have:=b1 _ e3;omega
   .exact e'
def aeY {a b:List Int}(ha:a.Pairwise (·<·))(hb:b.Pairwise (·<·))(h:∀x,x∈a↔x∈b):a=b:=
 (CN ha hb λx hx=>(h x).1 hx).eq_of_length (Nat.le_antisymm (CN ha hb λx hx=>(h x).1 hx).length_le (CN hb ha λx hx=>(h x).2 hx).length_le)
def amF {a b:List Int}(h:a.Sublist b)(f:Int->Int)(g:Nat):gw (a.map f) g<=gw (b.map f) g:=((h.map f).filter _).length_le
def aml {r:Realm}{ps:List Ratio}(hq:mm ps){a b:List Int}(ha:a.Pairwise (·<·))(hb:b.Pairwise (·<·))(h:∀x,x∈a->x∈b):ru r b ps<=ru r a ps:=
 abS hq (λg=>amF (CN ha hb h) _ g) 10 (aZ _)
def zO {r:Realm}{ps:List Ratio}(hq:mm ps)(l:List Effect)(s:Nat):0<=eR r l ps s/\eR r l ps s<=1000000000:=by
 unfold eR ru;have h1:=Lb hq (gw ((jf r l s).map (fD r))) 10 (aZ _);have h2:=abR hq (gw ((jf r l s).map (fD r))) 10 (aZ _);omega
def awh {r:Realm}{ps:List Ratio}{l:List Effect}{s:Nat}(h:∀e,e∈l->e.sum<(s:Int)):eR r l ps s=0:=by
 have e1:jf r l s=[]:=by
  rw[aaP];intro g hg;obtain⟨e,he,h1,_⟩:=wq.1 hg;have:=h e he;omega
 unfold eR ru;rw[e1,abT ps (a:=gw (([]:List Int).map (fD r))) (λg=>rfl)];rfl
def ah7 (r:Realm)(l:List Effect)(ps:List Ratio):Pt (eR r l ps) (l.map (·.sum)):=by
 intro s x wI h;have e1:jf r l s=jf r l x:=by
  refine aeY (Cc _ _ _) (Cc _ _ _) λg=>?_;rw[wq,wq];refine exists_congr λe=>and_congr_right λhe=>and_congr_left λ_=>?_;have:=h e.sum (AL he);omega
 unfold eR;rw[e1]
def apY {r:Realm}{l l':List Effect}(h:∀e,e∈l↔e∈l')(s:Int):jf r l s=jf r l' s:=
 aeY (Cc _ _ _) (Cc _ _ _) λg=>by
  rw[wq,wq];exact exists_congr λe=>and_congr_left λ_=>h e
def lI (r:Realm)(l:List Effect)(ps:List Ratio):Int:=gQ (eR r l ps) 1099511627776/1000000000
def ako {r:Realm}{l l':List Effect}{ps:List Ratio}(hq:mm ps)(hp:∀e,e∈l'↔e∈l)(hs:l'.Pairwise (λa b=>a.sum<=b.sum))(h0:∀e,e∈l->0<=e.sum/\e.sum<=1099511627776):
 (iK (eR r l ps) (l'.map (·.sum))).1=lI r l ps:=by
 have hm:∀y,y∈l'.map (·.sum)->∃e,e∈l/\e.sum=y:=λy hy=>by
  obtain⟨e,he,rfl⟩:=bY.1 hy;exact⟨e,(hp e).1 he,rfl⟩
 refine apI (λs=>(zO hq l s).1) (λs x wI h=>?_) (Jn.2 hs) (λx hx=>?_) (λx hx=>?_) (λs h=>?_)
 .refine ah7 r l ps s x wI λy hy=>?_;obtain⟨e,he,rfl⟩:=bY.1 hy;exact h _ (AL ((hp e).2 he))
 .obtain⟨e,he,rfl⟩:=hm x hx;exact(h0 e he).1
 .obtain⟨e,he,rfl⟩:=hm x hx;exact(h0 e he).2
 .exact awh λe he=>h _ (AL ((hp e).2 he))
def aBM {r:Realm}{l l':List Effect}{ps:List Ratio}(hq:mm ps)(h:∀e,e∈l->∃e',e'∈l'/\e.sum<=e'.sum/\qf r e'=qf r e):lI r l ps<=lI r l' ps:=by
 unfold lI;refine aaI (by omega) (OY _ λs _ _=>?_)
 have:=aml (r:=r) hq (Cc r l s) (Cc r l' s) λg hg=>by
  obtain⟨e,he,h1,h2⟩:=wq.1 hg;obtain⟨e',rS,h3,h4⟩:=h e he;exact wq.2 ⟨e',rS,by omega,by rw[h4,h2]⟩
 unfold eR;omega
def Xr {f:Nat->Int}{c:Int}:∀n,(∀s,0<s->s<=n->f s<=c)->gQ f n<=(n:Int)*c
 |0,_=>by simp[gQ]
 |n+1,h=>by
  have h1:=Xr n λs h1 h2=>h s h1 (by omega);have h2:=h (n+1) (by omega) (by omega);show gQ f n+f (n+1)<=_;rw[Int.natCast_add,Ji];simp;omega
def akq {r:Realm}{l:List Effect}{ps:List Ratio}(hq:mm ps):0<=lI r l ps:=by
 unfold lI;refine aaJ ?_ (by omega);have h1:=OY (f:=λ_=>0) (g:=eR r l ps) 1099511627776 λs _ _=>(zO hq l s).1;have h2:=Xq (f:=λ_=>(0:Int)) (m:=0) (λ_ _=>rfl) (kz 1099511627776);have h3:gQ (λ_=>(0:Int)) 0=0:=rfl;rw[h2,h3] at h1;exact h1
def j6 (w x:Int):Int:=(w*x+359999)/360000
def p9 (w pm d:Int):Int×Int:=
 if wi w 0 1099511627776=true/\wi pm 0 1000=true/\wi d 0 20000=true then(if j6 w (pm*d)<=w then(j6 w (pm*d),0) else(0,3)) else(0,1)
def sy (w x:Int):Int:=if j6 w x<=w then w-j6 w x else 0
def avs {w x:Int}(hw:0<=w)(hx:0<=x):0<=j6 w x:=by
 unfold j6;have:=AG hw hx;omega
def af7 {w x:Int}(hw:0<=w)(hx:0<=x):0<=sy w x/\sy w x<=w:=by
 have:=avs hw hx;unfold sy;split<;>omega
def avh {w w' x:Int}(hw:0<=w)(hx:0<=x)(h:w<=w'):sy w x<=sy w' x:=by
 by_cases hb:x<=360000
 .have h1:w'*x<=w*x+(w'-w)*360000:=by
   have e:w'*x=w*x+(w'-w)*x:=by rw[<-Ji];congr 1;omega
   rw[e];have:=aaL hb (show 0<=w'-w by omega);omega
  have h2:j6 w' x<=j6 w x+(w'-w):=by
   unfold j6;generalize w'*x=A at*;generalize w*x=B at*;omega
  unfold sy;split<;>split<;>omega
 .have:sy w x=0:=by
   unfold sy;by_cases h0:w=0
   .subst h0;have:j6 0 x=0:=by unfold j6;rw[Int.zero_mul];rfl
    rw[this];simp
   .have h1:w*360001<=w*x:=aaL (by omega) hw;have h2:w<j6 w x:=by
     unfold j6;generalize w*x=A at*;omega
    rw[if_neg (by omega)]
  rw[this];exact(af7 (by omega) hx).1
def ang {w pm d:Int}(hw:0<=w/\w<=1099511627776)(hp:0<=pm/\pm<=1000)(hd:0<=d/\d<=20000):(if(p9 w pm d).2≠0 then 0 else w-(p9 w pm d).1)=sy w (pm*d):=by
 have e:p9 w pm d=if j6 w (pm*d)<=w then(j6 w (pm*d),0) else(0,3):=by
  unfold p9;rw[if_pos ⟨by simp[wi];omega,by simp[wi];omega,by simp[wi];omega⟩]
 rw[e];unfold sy;split<;>simp
def zP (w pm due day:Int):Int×Int:=
 if due=-1 then(0,4) else if day<due/\20000<due-day then(0,3) else(sy w (pm*max (due-day) 0),0)
def awz {w w' pm due day:Int}(hw:0<=w)(hp:0<=pm)(h:w<=w'):(zP w pm due day).1<=(zP w' pm due day).1/\(zP w pm due day).2=(zP w' pm due day).2:=by
 unfold zP;have:0<=pm*max (due-day) 0:=AG hp (by omega);split
 .exact⟨pP _,rfl⟩
 split
 .exact⟨pP _,rfl⟩
 .exact⟨avh hw this h,rfl⟩
def amE {a b:List Int}(h:a.Perm b)(g:Nat):gw a g=gw b g:=(h.filter _).length_eq
end Rm
namespace Rm
open Go Go.Proofs Cx
def ach {r:Realm}{b:Bill}(hr:RightD r)(hc:gW r=0)(Se:aC b.city r.cities.length=true)(eF:aC b.pay r.cities.length=true)(hd:eC b.day=true)(hk:b.tenor.kind=3)(hu:b.tenor.unit=0)
 (hn:eC b.tenor.n=true) {g:Int} (hg:0<=g/\g<=20000) (hs:b.tenor.n+g<=100000):rE r b (-1) g=mj r b.pay (b.tenor.n+g):=by
 have jV:=OD r hr.small;rw[hc] at jV;have lW:0<=b.tenor.n/\b.tenor.n<=100000:=by simpa [eC] using hn
 have ze:=Xg r hr.halts b.pay (b.tenor.n+g) (by simpa [aC] using eF) hr.cities (by omega) (by omega);have hb:ah T 76 [aQ r,dI b,.int (-1)] (.tup [.int b.tenor.n,.int 0]):=by
  refine .of_tree rfl yk Ao ?_;simp[pI,hk]
 have h:ah T 37 [aQ r,dI b,.int (-1),.int g] (.tup [.int (mj r b.pay (b.tenor.n+g)).1,.int (mj r b.pay (b.tenor.n+g)).2]):=by
  have vd:=CO r b.city;have adU:=CO r b.pay;have yX:=wS b.day;have hi3:=wS b.tenor.n;have hi4:=En b.tenor;rw[Se] at vd;rw[eF] at adU;rw[hd] at yX;rw[hn] at hi3;rw[show DQ b.tenor=false from by simp[DQ,hk]] at hi4;have hw:i64.wrap (b.tenor.n+g)=b.tenor.n+g:=aR (by omega);have jY:¬g<0:=by omega
  have iL:¬20000<g:=by omega
  have dU:¬100000<b.tenor.n+g:=by omega
  refine .of_tree rfl P4 ZD ?_;simp[IY];refine⟨_,jV,?_⟩;simp;refine⟨_,vd,?_⟩;simp;refine⟨_,adU,?_⟩;simp;refine⟨_,yX,?_⟩;simp[hk,hu,jY,iL];refine⟨_,hi4,?_⟩;simp;refine⟨_,hb,?_⟩;simp;refine⟨_,hi3,?_⟩;simp[hw,dU];refine⟨_,ze,?_⟩;simp
 have h2:=h.det (Pr r hr b (-1) g);simp at h2;exact Prod.ext h2.1.symm h2.2.symm
def awZ (l:List Int)(hl:l.length<=4000000):ah T 20 [ints l,ints l] (.bool true):=by
 refine zyw 117 aAh ?_;simp[YR];refine aL.forRounds l.length (λk=>[.bool false,.int k]) (λ_=>[]) ?_ (λk hk=>?_) ?_
 .simp
 .have hw:=bq hk (by omega);simp[ajg,Oo,hk,hw]
 .simp[ajg,Oo]
def Mv {n:Int}(h:-100000<=n/\n<=100000):bh n:=by unfold bh;omega
def oK (x:Ratio):D:=.agg [.int x.num,.int x.den]
@[simp] def aDB (x:Ratio):(oK x).cells=[.int x.num,.int x.den]:=zyz
@[simp] def aH6 (x:Ratio):D.agg [.int x.num,.int x.den]=oK x:=zyz
@[simp] def aDz (x:Ratio):(oK x).c 0=.int x.num:=zyz
@[simp] def aDA (x:Ratio):(oK x).c 1=.int x.den:=zyz
def vC (l:List Ratio):D:=.list (l.map oK)
@[simp] def aIG (l:List Ratio):(vC l).l=l.map oK:=zyz
@[simp] def aIF (l:List Ratio):(vC l).cells=[vC l]:=zyz
def lP (x:Quote):D:=.agg [.int x.perMille,vC x.fails]
@[simp] def aDs (x:Quote):(lP x).cells=[.int x.perMille,vC x.fails]:=zyz
@[simp] def aH4 (x:Quote):D.agg [.int x.perMille,vC x.fails]=lP x:=zyz
@[simp] def aDq (x:Quote):(lP x).c 0=.int x.perMille:=zyz
@[simp] def aDr (x:Quote):(lP x).c 1=vC x.fails:=zyz
abbrev aki:Ty:=.agg [.int .i64,.int .i64]
abbrev aBk:Ty:=.agg [.int .i64,.slice aki]
def Ratio.OK (x:Ratio):Prop:=bh x.num/\bh x.den
def Quote.OK (x:Quote):Prop:=bh x.perMille/\x.fails.length<=maxLen/\∀p,p∈x.fails->p.OK
def axf {d:D}(h:DTy aki d):∃x:Ratio,d=oK x/\x.OK:=by
 obtain⟨ds,rfl,hs⟩:=h.agg_inv;obtain⟨d0,ds,rfl,h0,hs⟩:=hs.cons_inv;obtain⟨d1,ds,rfl,h1,hs⟩:=hs.cons_inv;obtain rfl:=hs.nil_inv;obtain⟨n0,rfl,b0⟩:=h0.i64_inv;obtain⟨n1,rfl,b1⟩:=h1.i64_inv;exact⟨⟨n0,n1⟩,rfl,⟨b0,b1⟩⟩
def awG {d:D}(h:DTy aBk d):∃x:Quote,d=lP x/\x.OK:=by
 obtain⟨ds,rfl,hs⟩:=h.agg_inv;obtain⟨d0,ds,rfl,h0,hs⟩:=hs.cons_inv;obtain⟨d1,ds,rfl,h1,hs⟩:=hs.cons_inv;obtain rfl:=hs.nil_inv;obtain⟨n0,rfl,b0⟩:=h0.i64_inv;obtain⟨xs,rfl,hm,hx⟩:=h1.slice_inv;obtain⟨l,rfl,hl⟩:=kL (enc:=oK) (P:=Ratio.OK) λx hh=>axf (hx x hh);exact⟨⟨n0,l⟩,rfl,⟨b0,by simpa using hm,hl⟩⟩
def p5 (p:Ratio):Bool:=decide (p.den<1)||decide (1073741824<p.den)||decide (p.num<0)||decide (p.den<p.num)
def kO (q:Quote):Int:=if q.perMille<0\/1000<q.perMille\/q.fails.length≠10\/q.fails.any p5=true then 1 else 0
def Hs {q:Quote}(h:kO q=0):0<=q.perMille/\q.perMille<=1000/\mm q.fails:=by
 unfold kO at h;split at h
 .cases h
 rename_i h1;have h2:q.fails.any p5=false:=by
  cases e:q.fails.any p5 with
  |false=>rfl
  |true=>exact absurd (.inr (.inr (.inr e))) h1
 refine⟨by omega,by omega,?_,λp hp=>?_⟩
 .exact AA λe=>h1 (.inr (.inr (.inl e)))
 .have:=List.any_eq_false.1 h2 p hp;simp[p5] at this;unfold Ratio.right;omega
def akP (l:List Ratio)(f:Nat)(caps:List D)(g:Nat->Bool)(hg:∀k (hk:k<l.length),ah T f (oK l[k]::caps) (.bool (g k)))(hl:l.length<=4294967296):
 ah T 81 [vC l,.clo f caps] (.int (nD l.length g)):=by
 refine zyw 8 aAO ?_;simp[Zx];refine .scan l.length (λk=>g k=false) (λk=>[.int 0,.int k]) (λ_=>[]) ?_ (λk hk hj ho=>?_) (λk hk hj ho=>?_) (λhj=>?_)
 .simp
 .have hw:=bq hk hl;simp[WL,Is,hk,hw];refine⟨_,_,⟨rfl,rfl⟩,_,hg k hk,?_⟩;simp[ho,hw]
 .have he:=MB hk (by simpa using ho) hj;simp[WL,Is,hk,he];refine⟨_,_,⟨rfl,rfl⟩,_,hg k hk,?_⟩;simp[ho]
 .have he:=MA hj;simp[WL,Is,he]
def akH (l:List Ratio)(f:Nat)(caps:List D)(g:Nat->Bool)(hg:∀k (hk:k<l.length),ah T f (oK l[k]::caps) (.bool (g k)))(hl:l.length<=4294967296):
 ah T 42 [vC l,.clo f caps] (.bool ((List.range l.length).any g)):=by
 refine zyw 7 aAJ ?_;simp[Zs];refine⟨_,akP l f caps g hg hl,?_⟩;have:=TL l.length g;simp[<-this]
def akE (p:Ratio):ah T 41 [oK p] (.bool (p5 p)):=by
 refine zyw 6 azM ?_;simp[Yp,p5];by_cases h1:p.den<1<;>by_cases h2:1073741824<p.den<;>by_cases h3:p.num<0<;>by_cases h4:p.den<p.num<;>simp[h1,h2,h3,h4]
def Pq (q:Quote)(hl:q.fails.length<=4294967296):ah T 19 [lP q] (.int (kO q)):=by
 refine zyw 5 azN ?_
 have h:=akH q.fails 41 [] (λk=>p5 (q.fails.getD k default)) (λk hk=>by
  have e:q.fails.getD k default=q.fails[k]:=by simp[hk]
  rw[e];exact akE _) hl
 have e:(List.range q.fails.length).any (λk=>p5 (q.fails.getD k default))=q.fails.any p5:=by
  rw[uD,xW,xW];constructor
  .rintro⟨k,hk,hb⟩;have bf:=fy.1 hk;exact⟨q.fails[k],bR bf,by simpa [bf] using hb⟩
  .rintro⟨p,hp,hb⟩;obtain⟨k,hk,rfl⟩:=fe hp;exact⟨k,fy.2 hk,by simpa [hk] using hb⟩
 rw[e] at h;by_cases p1:0<=q.perMille
 case neg=>
  have n1:q.perMille<0:=by omega
  have e1:kO q=1:=by unfold kO;rw[if_pos (.inl n1)]
  rw[e1];simp[DZ,p1,n1]
 have n1:¬q.perMille<0:=by omega
 by_cases p2:q.perMille<=1000
 case neg=>
  have n2:1000<q.perMille:=by omega
  have e1:kO q=1:=by unfold kO;rw[if_pos (.inr (.inl n2))]
  rw[e1];simp[DZ,p1,n1,p2,n2]
 have n2:¬1000<q.perMille:=by omega
 by_cases p3:q.fails.length=10
 case neg=>
  have n3:¬(q.fails.length:Int)=10:=by omega
  have e1:kO q=1:=by unfold kO;rw[if_pos (.inr (.inr (.inl p3)))]
  rw[e1];simp[DZ,p1,n1,p2,n2,p3,n3]
 have n3:(q.fails.length:Int)=10:=by omega
 have e1:kO q=if q.fails.any p5=true then 1 else 0:=by
  unfold kO;by_cases hb:q.fails.any p5=true
  .rw[if_pos hb,if_pos (.inr (.inr (.inr hb)))]
  .rw[if_neg hb,if_neg (by rintro(h|h|h|h);exact n1 h;exact n2 h;exact h p3;exact hb h)]
 rw[e1];clear e e1;generalize q.fails.any p5=b at h ⊢;simp[DZ,p1,n1,p2,n2,p3,n3];refine⟨_,h,?_⟩;cases b<;>simp
def awc (a b c:Nat)(ha:a<9223372036854775808)(hb:b<9223372036854775808)(hc:0<c)(hc2:c<9223372036854775808):
 ah T 40 [.int a,.int b,.int c] (if 1099511627776<a*b/c then .tup [.int 0,.int 0,.bool false] else .tup [.int ((a*b/c:Nat):Int),.int ((a*b%c:Nat):Int),.bool true]):=by
 refine zyw 112 azv ?_;have wa:IntKind.u64.wrap (a:Int)=a:=kh (by omega);have wb:IntKind.u64.wrap (b:Int)=b:=kh (by omega);have wc:IntKind.u64.wrap (c:Int)=c:=kh (by omega);simp[X9,wa,wb,wc,-Int.natCast_ediv,-Int.natCast_emod,-Int.natCast_mul];refine⟨_,af4 a b (by omega) (by omega),?_⟩;have Cm:=AN (a*b) 18446744073709551616;have qm:a*b%18446744073709551616<18446744073709551616:=rj _ (by decide);generalize Cr:a*b/18446744073709551616=hi at*;generalize aG6:a*b%18446744073709551616=lo at*;by_cases h1:c<=hi
 .have cC:(c:Int)<=(hi:Int):=by omega
  have adw:18446744073709551616<=a*b/c:=by
   rw[PK hc];have:=Nat.mul_le_mul_left 18446744073709551616 h1;omega
  have df:1099511627776<a*b/c:=by omega
  simp[h1,df]
 .have cC:¬(c:Int)<=(hi:Int):=by omega
  have hd:=anh hi lo c hc (by omega) qm (by omega);have e:hi*18446744073709551616+lo=a*b:=by omega
  rw[e] at hd;have gD:a*b%c<c:=rj _ hc;simp[h1,-Int.natCast_ediv,-Int.natCast_emod,-Int.natCast_mul];refine⟨_,hd,?_⟩;generalize a*b/c=q at*;generalize a*b%c=r at*;by_cases h2:1099511627776<q
  .have gY:(1099511627776:Int)<(q:Int):=by omega
   simp[h2,gY]
  .have gY:¬(1099511627776:Int)<(q:Int):=by omega
   have hw:i64.wrap (q:Int)=q:=aR (by omega);have db:i64.wrap (r:Int)=r:=aR (by omega);simp[h2,gY,hw,db]
def amc (n:Nat):((n:Int)+359999)/360000=((n/360000:Nat):Int)+if 0<n%360000 then 1 else 0:=by
 split<;>omega
def akL (w pm d:Int):ah T 14 [.int w,.int pm,.int d] (.tup [.int (p9 w pm d).1,.int (p9 w pm d).2]):=by
 refine zyw 110 azu ?_;simp[X8];refine⟨_,aaj _ _,?_⟩;cases h1:wi w 0 1099511627776
 .simp[p9,h1]
 simp;refine⟨_,aaj _ _,?_⟩;cases h2:wi pm 0 1000
 .simp[p9,h1,h2]
 simp;refine⟨_,aaj _ _,?_⟩;cases h3:wi d 0 20000
 .simp[p9,h1,h2,h3]
 simp[wi] at h1 h2 h3;obtain⟨a,rfl⟩:=rf h1.1;obtain⟨b,rfl⟩:=rf h2.1;obtain⟨c,rfl⟩:=rf h3.1;have R8:b*c<=20000000:=ff (Em (show b<=1000 by omega) (show c<=20000 by omega)) (by decide);have hw:i64.wrap ((b:Int)*(c:Int))=((b*c:Nat):Int):=by rw[<-Int.natCast_mul];exact aR (by omega)
 have hp:=awc a (b*c) 360000 (by omega) (by omega) (by decide) (by decide);have hdF:p9 a b c=if j6 a ((b*c:Nat):Int)<=(a:Int) then(j6 a ((b*c:Nat):Int),0) else(0,3):=by
  unfold p9;rw[if_pos ⟨by simp[wi];omega,by simp[wi];omega,by simp[wi];omega⟩,Int.natCast_mul]
 have jk:j6 a ((b*c:Nat):Int)=((a*(b*c)/360000:Nat):Int)+if 0<a*(b*c)%360000 then 1 else 0:=by
  unfold j6;rw[<-Int.natCast_mul,amc]
 rw[hdF,jk];generalize a*(b*c)/360000=q at*;generalize a*(b*c)%360000=r at*;simp[hw];refine⟨_,hp,?_⟩;by_cases hq:1099511627776<q
 .have:¬((q:Int)+(if 0<r then 1 else 0)<=(a:Int)):=by split<;>omega
  rw[if_pos hq];simp[this]
 .rw[if_neg hq];by_cases hr:0<r
  .have pf:(0:Int)<(r:Int):=by omega
   have db:i64.wrap ((q:Int)+1)=(q:Int)+1:=aR (by omega);by_cases hle:(q:Int)+1<=(a:Int)
   .have oW:¬((a:Int)<(q:Int)+1):=by omega
    simp[hr,pf,db,hle,oW]
   .have oW:(a:Int)<(q:Int)+1:=by omega
    simp[hr,pf,db,hle,oW]
  .have pf:¬(0:Int)<(r:Int):=by omega
   by_cases hle:(q:Int)<=(a:Int)
   .have oW:¬((a:Int)<(q:Int)):=by omega
    have iM:¬(a<q):=by omega
    simp[hr,pf,hle,oW,iM]
    try omega
   .have oW:(a:Int)<(q:Int):=by omega
    have iM:a<q:=by omega
    simp[hr,pf,hle,oW,iM]
    try omega
def eY (r:Realm)(forum:Int)(f:File)(day:Int):List Effect:=(rJ r forum f day).filter MI
def am9 (l:List Effect)(h:l.length<=4294967296):ah T 56 [oJ l,.clo 57 []] (oJ (l.filter MI)):=by
 refine .of_ext (g:=λ_ ds=>Lm ds) rfl ⟨0,λ_ _=>?_⟩;show(if 57=57/\(l.map jT).length<=4294967296 then some (D.list ((l.map jT).filter ij)) else none)=_;rw[if_pos ⟨rfl,by simpa using h⟩,List.filter_map];rfl
def Rp (r:Realm)(forum:Int)(f:File)(day:Int):(rJ r forum f day).length<=f.signs.length:=by
 unfold rJ;rw[ed,aaW];exact(Jo _).length_le
def aft (r:Realm)(hr:Right r)(hd:RightD r)(forum:Int)(f:File)(day:Int)(hf:FewS f):ah T 27 [aQ r,.int forum,bW f,.int day] (oJ (eY r forum f day)):=by
 refine zyw 14 azX ?_;simp[Yw];have hl:=Rp r forum f day;have:=hf.signs;refine⟨_,akN r hr hd forum f day hf,?_⟩;exact am9 _ (by omega)
def TI (r:Realm)(forum:Int):ah T 26 [aQ r,.int forum] (.bool (decide (0<=forum/\forum<r.orders.length))):=by
 refine zyw 13 azV ?_;simp[Yv];by_cases h:0<=forum<;>simp[h]
end Rm
