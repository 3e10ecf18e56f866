import Derived.Test.YtbagcfebdgiihaaGreatDoorAAO
import Derived.Test.YtbagcfebdgiihaaGreatDoorAAN
import Derived.Test.YtbagcfebdgiihaaGreatDoorAAL
noncomputable section
open Go.IntKind (i64)
set_option linter.all false
namespace Rm
open Go Go.Proofs Cx
def aCR (a c:Int):tG (.int a) 0 (.int c)=.int c:=zyw
def aem (O i d b k:Nat):(Mk O i d b k).length=5:=by simp[Mk]
def ao6 (O i d b:Nat):Mk O i d b 0=D5 O:=by
 have h:∀j,¬(i<=j/\j<i+0):=λj=>by omega
 unfold Mk;simp only[h,if_false];rfl
def ao3 (O i d b k:Nat)(h:i+k<5):(Mk O i d b k)[i+k]'(by rw[aem];exact h)=(dg O (i+k):Int):=by simp[Mk]
def ao5 (O i d b k:Nat)(h:i+k<5):Mk O i d b (k+1)=(Mk O i d b k).set (i+k) (er O i d b k:Int):=by
 apply JP
 .simp[Mk]
 .intro j h1 h2;rw[aed];simp only[Mk,List.getElem_map,List.getElem_range];by_cases e:i+k=j
  .subst e;have:i<=i+k/\i+k<i+(k+1):=by omega
   rw[if_pos this,if_pos rfl,show i+k-i=k by omega]
  .rw[if_neg e];by_cases c:i<=j/\j<i+k
   .rw[if_pos c,if_pos (by omega)]
   .rw[if_neg c,if_neg (by omega)]
def lw (a i:Nat):Nat:=match i with|0=>0|1=>a%1073741824|2=>a%1152921504606846976|3=>a%1237940039285380274899124224|4=>a%1329227995784915872903807060280344576|_=>a%1427247692705959881058285969449495136382746624
def aza (a:Nat){i:Nat}(hi:i<5):lw a (i+1)=lw a i+pw i*dg a i:=by
 rcases me hi with rfl|rfl|rfl|rfl|rfl<;>simp only[lw,pw,dg]<;>omega
def ain (a:Nat)(i:Nat):lw a i<=a:=by
 unfold lw;split<;>omega
def A4 (x:Nat):(D5 x).length=5:=rfl
def JN (x:Nat){k:Nat}(h:k<5):(D5 x)[k]'(by rw[A4];exact h)=(dg x k:Int):=by
 rcases me h with rfl|rfl|rfl|rfl|rfl<;>rfl
set_option maxHeartbeats 4000000 in
def X3 (a b:Nat)(ha:a<1427247692705959881058285969449495136382746624)(hb:b<1427247692705959881058285969449495136382746624)(zx:a*b<1427247692705959881058285969449495136382746624):ah T 157 [zyy a,zyy b] (zyy (a*b)):=by
 refine zyt 227 aEt ?_;simp[abf];refine aG.forRounds 5 (λi=>[.int i]) (λi=>[zyy (lw a i*b)]) ?_ (λi hi=>?_) ?_
 .simp[lw,zyy,D5,ints,dg]
 .have hw:i64.wrap ((i:Int)+1)=(i:Int)+1:=ax (by omega);have hi5:(i:Int)<5:=by omega
  have wV:lw a i*b<=a*b:=j9 _ (ain a i);have avm:lw a (i+1)*b<=a*b:=j9 _ (ain a (i+1));have xg:lw a (i+1)*b=lw a i*b+pw i*(dg a i*b):=by rw[aza a hi,lh,Bf]
  rw[xg] at avm ⊢;have Gs:=ao4 (lw a i*b) i (dg a i) b hi (by omega) hb (by omega);have hd:=gB a i;generalize lw a i*b=O at*;generalize zB:dg a i=d at*;simp[amR,PX,hi5,hw];refine aG.forRounds (5-i) (λk=>[.int (cr O i d b k),.int k]) (λk=>[ints (Mk O i d b k)]) ?_ (λk hk=>?_) ?_
  .simp[cr,ao6,zyy]
  .have UN:i+k<5:=by omega
   have hk5:k<5:=by omega
   have VD:i64.wrap ((k:Int)+1)=(k:Int)+1:=ax (by omega);have sP:i64.wrap ((i:Int)+(k:Int))=((i+k:Nat):Int):=by rw[ax (by omega)];omega
   have auZ:((i+k:Nat):Int)<5:=by omega
   have h1:=Tz O i d b hd k;have cu:=Tz O i d b hd (k+1);have h2:=gB O (i+k);have h3:=aiN d b k hd;have dw:cr O i d b k+dg O (i+k)+d*dg b k=1073741824*cr O i d b (k+1)+er O i d b k:=(sd _ _).symm;have jv:er O i d b k<1073741824:=j7 _ (by decide);have wp:i64.wrap ((d:Int)*(dg b k:Int))=((d*dg b k:Nat):Int):=by rw[<-Int.natCast_mul];exact ax (by omega)
   have g1:=ao3 O i d b k UN;have g2:=JN a hi;rw[zB] at g2;have g3:=JN b hk5;rw[ao5 O i d b k UN];have oJ:=aem O i d b k;generalize d*dg b k=P at*;have w1:i64.wrap ((cr O i d b k:Int)+(dg O (i+k):Int))=(cr O i d b k:Int)+(dg O (i+k):Int):=ax (by omega);have w2:i64.wrap ((cr O i d b k:Int)+(dg O (i+k):Int)+(P:Int))=(cr O i d b k:Int)+(dg O (i+k):Int)+(P:Int):=ax (by omega);obtain⟨q1,q2⟩:=al4 (t:=(cr O i d b k:Int)+(dg O (i+k):Int)+(P:Int)) (c:=cr O i d b (k+1)) (r:=er O i d b k) (by omega) (by omega) (by omega);simp[amQ,PW,zyy,sP,auZ,UN,hi,hk5,oJ,A4,g1,g2,g3,wp,w1,w2,q1,q2,VD,-Int.natCast_add];exact⟨by omega,by omega,by omega,by simp[ints]⟩
  .have sP:i64.wrap ((i:Int)+((5-i:Nat):Int))=5:=by rw[ax (by omega)];omega
   simp[amQ,PW,sP,Gs,zyy]
 .have:lw a 5=a:=by simp only[lw];omega
  simp[amR,PX,this]
def afl (x:Nat){m:Nat}(h:m<5):dg x m=x/pw m%1073741824:=by
 rcases me h with rfl|rfl|rfl|rfl|rfl<;>simp[dg,pw]
def XL {m:Nat}(h:m<5):pw m=2^(30*m):=by
 rcases me h with rfl|rfl|rfl|rfl|rfl<;>rfl
def apX (A:Nat){m j:Nat}(hm:m<5)(hj:j<30):dg A m/2^j%2=A/2^(30*m+j)%2:=by
 have hB:1073741824=2^j*2^(30-j):=by rw[<-vS,show j+(30-j)=30 by omega]
 have h2:2∣2^(30-j):=by
  rw[show 30-j=(29-j)+1 by omega,J1];exact Nat.dvd_mul_left _ _
 rw[afl A hm,hB,Nat.mod_mul_right_div_self,Nat.mod_mod_of_dvd _ h2,aeo,XL hm,<-vS]
def room (q:Nat){m j:Nat}(hm:m<5)(hj:j<30):dg (q*2^(30*m+j+1)) m+2^j<1073741824:=by
 have hB:1073741824=2^(j+1)*2^(29-j):=by rw[<-vS,show j+1+(29-j)=30 by omega]
 have h1:q*2^(30*m+j+1)/2^(30*m)=2^(j+1)*q:=by
  rw[show 30*m+j+1=(j+1)+30*m by omega,vS,<-Bf,Nat.mul_div_cancel _ (vT _),nP]
 rw[afl _ hm,XL hm,h1];have h2:2^(j+1)*q%1073741824=2^(j+1)*(q%2^(29-j)):=by
  conv=>lhs;rw[hB]
  exact Nat.mul_mod_mul_left _ _ _
 rw[h2];have h3:q%2^(29-j)+1<=2^(29-j):=j7 _ (vT _);have h4:2^(j+1)*(q%2^(29-j)+1)<=2^(j+1)*2^(29-j):=aes _ h3;rw[<-hB,RF,Nat.mul_one] at h4;have h5:2^(j+1)=2*2^j:=by rw[J1,nP]
 have h6:=vT j;omega
def ad3 (Q w:Nat){m:Nat}(hm:m<5)(hQ:Q<1427247692705959881058285969449495136382746624)(h:dg Q m+w<1073741824):(D5 Q).set m ((dg Q m:Int)+w)=D5 (Q+pw m*w):=by
 have s:=Z4 Q hQ;have l0:=gB Q 0;have l1:=gB Q 1;have l2:=gB Q 2;have l3:=gB Q 3;have l4:=gB Q 4;have fin:∀f:Nat->Nat,dg (Q+pw m*w) 0=f 0/\dg (Q+pw m*w) 1=f 1/\dg (Q+pw m*w) 2=f 2/\dg (Q+pw m*w) 3=f 3/\dg (Q+pw m*w) 4=f 4->D5 (Q+pw m*w)=[(f 0:Int),(f 1:Int),(f 2:Int),(f 3:Int),(f 4:Int)]:=λf ⟨a,b,c,d,e⟩=>by unfold D5;rw[a,b,c,d,e]
 rw[fin (λj=>if j=m then dg Q m+w else dg Q j) ?_]
 .rcases me hm with rfl|rfl|rfl|rfl|rfl<;>simp[D5]
 .rcases me hm with rfl|rfl|rfl|rfl|rfl<;>simp only[pw] at*<;>exact CF (by simp;omega) (by simp;omega) (by simp;omega) (by simp;omega) (by simp;omega) (by simp;omega)
def aCH (a s:Nat)(h:s<=64):bO .shr .i64 a s=((a/2^s:Nat):Int):=by
 show Int.fdiv (a:Int) (2^(min (s:Int).toNat 64))=_;have:min (s:Int).toNat 64=s:=by simp;omega
 rw[this,ad4 _ (tS (Int.pow_pos (by decide)))];rw[Int.natCast_ediv,Rs];rfl
def aCG (s:Nat)(h:s<30):bO .shl .i64 1 s=((2^s:Nat):Int):=by
 show i64.wrap ((1:Int)*(2^(min (s:Int).toNat 64)))=_;have:min (s:Int).toNat 64=s:=by simp;omega
 have hp:2^s<=2^29:=Nat.pow_le_pow_right (by decide) (by omega);have e:(1:Int)*2^s=((2^s:Nat):Int):=by rw[Int.one_mul,Rs];rfl
 rw[this,e];generalize 2^s=z at hp ⊢;exact ax (by omega)
def aue (A i:Nat):A/2^i=2*(A/2^(i+1))+A/2^i%2:=by
 rw[J1,<-aeo];omega
def aqM (A b i:Nat)(hb:0<b):let r1:=2*(A/2^(i+1)%b)+A/2^i%2
 (A/2^i%b=if b<=r1 then r1-b else r1)/\(A/2^i/b=2*(A/2^(i+1)/b)+if b<=r1 then 1 else 0):=by
 intro r1;have h1:=aue A i;have h2:=sd (A/2^(i+1)) b;have h3:=j7 (A/2^(i+1)) hb;have h4:A/2^i%2<2:=j7 _ (by decide);have hr:A/2^i=b*(2*(A/2^(i+1)/b))+r1:=by
  have:b*(2*(A/2^(i+1)/b))=2*(b*(A/2^(i+1)/b)):=Nat.mul_left_comm ..;omega
 have aq:r1<2*b:=by omega
 generalize A/2^(i+1)/b=Q at*;by_cases c:b<=r1
 .rw[if_pos c,if_pos c];have:A/2^i=(r1-b)+b*(2*Q+1):=by rw[RF];omega
  rw[this];constructor
  .rw[ao7,EN (by omega)]
  .rw[aen _ _ hb,RC (by omega)];omega
 .rw[if_neg c,if_neg c];have:A/2^i=r1+b*(2*Q):=by omega
  rw[this];constructor
  .rw[ao7,EN (by omega)]
  .rw[aen _ _ hb,RC (by omega)];omega
set_option maxHeartbeats 4000000 in
def Pv (A b:Nat)(hA:A<1427247692705959881058285969449495136382746624)(hb:0<b)(eI:b<9223372036854775808):ah T 118 [zyy A,zyy b] (.tup [zyy (A/b),zyy (A%b)]):=by
 refine zyt 142 aEr ?_;simp[abd];have T8:A/2^150=0:=RC (by simpa using hA);refine aG.forLoop (α:=Nat) (λm vr vo=>m<=150/\vr=[.none,.int ((m:Int)-1)]/\vo=[zyy (A/2^m%b),zyy (A/2^m/b*2^m)]) (λm=>m) 150 ⟨bL _,by simp,by rw[T8];simp[zyy,D5,dg,ints]⟩ ?_;rintro m vr vo ⟨hm,rfl,rfl⟩;by_cases h0:m=0
 .subst h0;simp[amP,PV]
 .obtain⟨i,rfl⟩:∃i,m=i+1:=⟨m-1,by omega⟩
  have hi:i<150:=by omega
  obtain⟨hr,hq⟩:=aqM A b i hb;have aMA:A/2^i%2<2:=j7 _ (by decide);have hr0:A/2^(i+1)%b<b:=j7 _ hb;have lH:i/30<5:=by omega
  have m6:i%30<30:=j7 _ (by decide);have oG:30*(i/30)+i%30=i:=sd i 30;have iQ:=apX A lH m6;rw[oG] at iQ;have aMq:A/2^(i+1)/b*2^(i+1)<=A:=jf (j9 _ (vR _ _)) (Nat.div_mul_le_self _ _);have GW:=room (A/2^(i+1)/b) lH m6;rw[oG] at GW;have sL:=ad3 (A/2^(i+1)/b*2^(i+1)) (2^(i%30)) lH (by omega) GW;have w7:pw (i/30)*2^(i%30)=2^i:=by rw[XL lH,<-vS,oG]
  rw[w7] at sL;have GU:i64.wrap ((i:Int).tdiv 30)=((i/30:Nat):Int):=by rw[l6 (by omega),ax (by omega)];omega
  have avW:i64.wrap ((i:Int)/30)=((i/30:Nat):Int):=by rw[ax (by omega)];omega
  have gl:(i:Int).tmod 30=((i%30:Nat):Int):=by rw[nJ (by omega)];omega
  have sP:i64.wrap ((i:Int)-1)=(i:Int)-1:=ax (by omega);have eL:=aAP (A/2^(i+1)%b) (A/2^(i+1)%b);have hga:=JN A lH;generalize A/2^(i+1)%b=r0 at*;have Gn:dg (r0+r0) 0+A/2^i%2<1073741824:=by
   have:=gB (r0+r0) 0;simp only[dg] at*;omega
  have ahl:=ad3 (r0+r0) (A/2^i%2) (m:=0) (by decide) (by omega) Gn;simp only[pw,J0] at ahl;have awe:bO .shr .i64 (dg A (i/30):Int) ((i%30:Nat):Int)=((dg A (i/30)/2^(i%30):Nat):Int):=aCH _ _ (by omega);have awc:=aCG (i%30) m6;have uN:((dg A (i/30)/2^(i%30):Nat):Int).tmod 2=((A/2^i%2:Nat):Int):=by
   rw[nJ (Int.natCast_nonneg _),<-iQ];rfl
  have kJ:=HZ (r0+r0+A/2^i%2) b (by omega) (by omega);generalize A/2^i%2=t at*;have wt:i64.wrap ((dg (r0+r0) 0:Int)+(t:Int))=(dg (r0+r0) 0:Int)+(t:Int):=ax (by omega);have Nz:(D5 A)[i/30]?=some (dg A (i/30):Int):=by rw[cd (by rw[A4];exact lH),hga]
  have hz:(D5 (r0+r0))[0]'(by rw[A4];decide)=(dg (r0+r0) 0:Int):=rfl;have jx:D.list ((List.map D.int (D5 (r0+r0))).set 0 (D.int ((dg (r0+r0) 0:Int)+(t:Int))))=ints (D5 (r0+r0+t)):=by rw[<-ahl];simp[ints]
  have hmI:((i/30:Nat):Int)<5:=by omega
  simp[amP,PV,-Int.natCast_ediv,-Int.natCast_emod];refine⟨_,eL,?_⟩;simp[GU,avW,gl,zyy,A4,Nz,hz,awe,uN,wt,jx,hmI,-Int.natCast_ediv,-Int.natCast_emod,-Int.natCast_add];refine⟨_,kJ,?_⟩;have h2r:r0+r0+t=2*r0+t:=by omega
  by_cases c:b<=2*r0+t
  .rw[if_pos c] at hr hq;have c1:¬r0+r0+t<b:=by omega
   have hmi:=al6 (r0+r0+t) b (by omega);have hcv:(0:Int)<=(if r0+r0+t<b then-1 else if b<r0+r0+t then 1 else 0):=by
        rw[if_neg c1];split<;>decide
   simp[hcv];refine⟨_,hmi,?_⟩;have cV:A/2^i/b*2^i=A/2^(i+1)/b*2^(i+1)+2^i:=by
        rw[hq,lh,J0,nP 2 (A/2^(i+1)/b),Bf,nP 2 (2^i),<-J1]
   generalize A/2^(i+1)/b*2^(i+1)=QQ at*;have UK:(D5 QQ)[i/30]?=some (dg QQ (i/30):Int):=by rw[cd (by rw[A4];exact lH),JN QQ lH]
   have awd:bO .shl .i64 1 ((i:Int)%30)=((2^(i%30):Nat):Int):=by
        have:((i:Int)%30)=((i%30:Nat):Int):=by omega
        rw[this];exact awc
   refine⟨i,by omega,by omega,sP,by rw[hr,h2r];rfl,?_⟩;rw[cV,<-sL,UK,awd];have zY:i64.wrap ((dg QQ (i/30):Int)+((2^(i%30):Nat):Int))=(dg QQ (i/30):Int)+((2^(i%30):Nat):Int):=by
        generalize 2^(i%30)=z at*;exact ax (by omega)
   simp only[ll,lj,pO,zY,aCR];simp[ints]
  .rw[if_neg c] at hr hq;have c1:r0+r0+t<b:=by omega
   simp[c1];have cV:A/2^i/b*2^i=A/2^(i+1)/b*2^(i+1):=by
        rw[hq,qE,nP 2 (A/2^(i+1)/b),Bf,nP 2 (2^i),<-J1]
   exact⟨i,by omega,by omega,sP,by rw[hr,h2r],by rw[cV]⟩
def aCE (n:Int):bO .shl .i64 n 30=i64.wrap (n*1073741824):=rfl
def aCF (n:Int):bO .shl .i64 n 60=i64.wrap (n*1152921504606846976):=rfl
def three (x0 x1 x2 q:Int)(h:q=x0+x1*1073741824+x2*1152921504606846976)(h0:0<=x0/\x0<1073741824)(h1:0<=x1/\x1<1073741824)(h2:0<=x2/\x2<8):
 i64.wrap (i64.wrap (x0+i64.wrap (x1*1073741824))+i64.wrap (x2*1152921504606846976))=q:=by
 rw[ax (n:=x1*1073741824) (by omega),ax (n:=x2*1152921504606846976) (by omega),ax (n:=x0+x1*1073741824) (by omega),ax (by omega),h]
def RN (x:Nat):(zyy x).l=[.int (dg x 0),.int (dg x 1),.int (dg x 2),.int (dg x 3),.int (dg x 4)]:=rfl
def apg:zyy 0=.list [.int 0,.int 0,.int 0,.int 0,.int 0]:=rfl
def aAQ (x:Nat)(hx:x<1427247692705959881058285969449495136382746624):ah T 178 [zyy x] (.bool (decide (x=0))):=by
 refine zyt 140 aEu ?_;have h:=HZ x 0 hx (by decide);rw[apg] at h;generalize zyy x=v at*;simp[abg];refine⟨_,h,?_⟩;by_cases h0:x=0
 .subst h0;simp
 .have h1:0<x:=by omega
  simp[h0,h1]
def aAO (a b:Nat)(ha:a<9223372036854775808)(hb:b<9223372036854775808):ah T 117 [zyy a,zyy b] (zyy (Nat.gcd a b)):=by
 refine zyt 139 aEm ?_;simp[aa8];generalize hg:Nat.gcd a b=g;refine aG.forLoop (α:=Nat×Nat) (λs vr vo=>(s.1<9223372036854775808/\s.2<9223372036854775808/\Nat.gcd s.1 s.2=g)/\vr=[zyy s.1,zyy s.2]/\vo=[]) (λs=>s.2) (a,b) ?_ ?_
 .simp;exact⟨ha,hb,hg⟩
 rintro⟨x,y⟩ vr vo ⟨⟨hx,hy,jy⟩,rfl,rfl⟩;simp only at hx hy jy ⊢;have hz:=aAQ y (by omega);by_cases Hc:y=0
 .subst Hc;simp at jy;simp[amO,PS];exact⟨_,hz,by simp[jy]⟩
 .have aq:x%y<y:=j7 _ (by omega);have ho:=Pv x y (by omega) (by omega) hy;simp[amO,PS];refine⟨_,hz,?_⟩;simp[Hc];refine⟨_,ho,?_⟩;simp;refine⟨y,x%y,aq,⟨hy,by omega,?_⟩,rfl,rfl⟩;rw[<-jy,RD x y,Nat.gcd_rec y x,RD]
def al5 (n d:Int)(hn:1<=n/\n<=1073741824)(hd:1<=d/\d<=1073741824):ah T 28 [.int n,.int d] (.tup [.agg [.int (nj n d).1,.int (nj n d).2.1],.int 0]):=by
 obtain⟨N,rfl⟩:=eC (show 0<=n by omega);obtain⟨M,rfl⟩:=eC (show 0<=d by omega);unfold nj;rw[if_neg (by omega)];simp only[rW];have jO:0<Nat.gcd N M:=ao9 _ (by omega);have uT:N/Nat.gcd N M<=N:=vR _ _;have sQ:M/Nat.gcd N M<=M:=vR _ _;have UJ:Nat.gcd N M<=N:=aep _ (by omega);have UH:=aAO N M (by omega) (by omega);have o1:=Pv N (Nat.gcd N M) (by omega) jO (by omega);have o2:=Pv M (Nat.gcd N M) (by omega) jO (by omega);generalize Nat.gcd N M=g at*;generalize N/g=x at*;generalize M/g=y at*;have NL:ah T 79 [.int 1152921504606846976] (zyy 1152921504606846976):=xV 1152921504606846976 (by omega);have c1:=HZ x 1152921504606846976 (by omega) (by decide);have c2:=HZ y 1152921504606846976 (by omega) (by decide);rw[if_pos (by omega)] at c1 c2;have e1:(dg x 0:Int)+(dg x 1:Int)*1073741824+(dg x 2:Int)*1152921504606846976=x:=by simp only[dg];omega
 have e2:(dg y 0:Int)+(dg y 1:Int)*1073741824+(dg y 2:Int)*1152921504606846976=y:=by simp only[dg];omega
 have l:∀k,dg x k<1073741824/\dg y k<1073741824:=λk=>⟨gB x k,gB y k⟩
 have w1:=three (dg x 0) (dg x 1) (dg x 2) x (by omega) (by have:=l 0;omega) (by have:=l 1;omega) (by simp only[dg];omega);have w2:=three (dg y 0) (dg y 1) (dg y 2) y (by omega) (by have:=l 0;omega) (by have:=l 1;omega) (by simp only[dg];omega);have sN:=RN x;have hvy:=RN y;have hN:=xV N (by omega);have hM:=xV M (by omega);have UI:ah T 78 [.bool false,zyy N,zyy M] (.tup [.agg [.int x,.int y],.int 0]):=by
  refine zyt 138 aEn ?_;generalize zyy x=vx at*;generalize zyy y=vy at*;simp[aa9];refine⟨_,UH,_,o1,?_⟩;simp;refine⟨_,o2,_,NL,_,c1,?_⟩;simp;refine⟨_,NL,_,c2,?_⟩;simp[sN,hvy];simp only[Int.mul_comm 1073741824,Int.mul_comm 1152921504606846976,w1,w2];exact⟨trivial,trivial⟩
 refine zyt 136 aEo ?_;have m0:¬(M:Int)=0:=by omega
 have m1:¬(M:Int)<0:=by omega
 have n1:¬(N:Int)<0:=by omega
 have n0:¬(N:Int)=0:=by omega
 simp[aba,m0];have e:(if N=0 then D.bool false else D.bool (!decide ((N:Int)<0)==decide ((M:Int)<0)))=D.bool false:=by
  rw[if_neg (by omega)];simp[n1,m1]
 refine⟨by omega,_,hN,_,hM,_,by rw[e];exact UI,?_⟩;simp
def aAV (n:Int):ah T 97 [.int n] (.bool (wi n 0 1099511627776)):=by
 refine zyt 223 aEI ?_;simp[abu];by_cases h:0<=n<;>simp[wi,h]
def ama (n:Int):ah T 98 [.int n] (.bool (wi n 0 100000)):=by
 refine zyt 224 aEH ?_;simp[abt];by_cases h:0<=n<;>simp[wi,h]
def aCS (s k d:Nat)(hd:0<d):s/d*k+s%d*k/d=s*k/d:=by
 conv=>rhs;rw[<-sd s d,lh,Bf]
 rw[Nat.mul_add_div hd]
def aAU (s q a b:Int):ah T 42 [.int s,.int q,.int a,.int b,.int 360] (.tup [.int (mw s q a b).1,.int (mw s q a b).2]):=by
 refine zyt 222 aEG ?_;generalize hP:mw s q a b=P
 have bad:gW s q a b=false->P.1=0/\P.2=1:=λh=>by
  unfold mw at hP;rw[if_pos h] at hP;simp[<-hP]
 have aHh:i64.wrap 360000=360000:=ax (by omega);simp[abr];refine⟨_,aAV _,?_⟩;cases a1:wi s 0 1099511627776
 .have:=bad (by simp[gW,a1]);simp[this]
 by_cases hq:q<0\/1000<q
 .have:=bad (by simp[gW,wi];omega);rcases hq with hq|hq<;>simp[this,hq]<;>intro h1 h2<;>omega
 have q1:0<=q:=by omega
 have q2:q<=1000:=by omega
 simp[q1,q2];refine⟨_,ama _,?_⟩;cases a3:wi a 0 100000
 .have:=bad (by simp[gW,a3]);simp[this]
 simp;refine⟨_,ama _,?_⟩;cases a4:wi b 0 100000
 .have:=bad (by simp[gW,a4]);simp[this]
 by_cases a5:b<a
 .have:=bad (by simp[gW];omega);simp[this,a5]
 have a2:wi q 0 1000=true:=by simp[wi];omega
 have hf:gW s q a b=true:=by simp[gW,a1,a2,a3,a4];omega
 obtain⟨h1,h2,h3,h4,h5⟩:=TR.1 hf;obtain⟨S,rfl⟩:=eC h1.1;obtain⟨Q,rfl⟩:=eC h2.1;obtain⟨Y,hY⟩:=eC (show 0<=b-a by omega);have Ue:Q*Y<=1000*100000:=l7 (by omega) (by omega);have w1:i64.wrap (b-a)=(Y:Int):=by rw[hY];exact ax (by omega)
 have w2:i64.wrap ((Q:Int)*(Y:Int))=((Q*Y:Nat):Int):=by rw[<-Int.natCast_mul];exact ax (by omega)
 have Vf:tA S Q a b=((S*(Q*Y)/360000:Nat):Int):=by
  unfold tA;rw[hY];simp
 have hsd:=aCS S (Q*Y) 360000 (by decide);unfold mw at hP;rw[if_neg (by simp[hf]),Vf,<-hsd] at hP;have d1:(S:Int).tdiv 360000=((S/360000:Nat):Int):=by rw[l6 (by omega)];exact(Int.natCast_ediv S 360000).symm
 have d2:(S:Int).tmod 360000=((S%360000:Nat):Int):=by rw[nJ (by omega)];exact(Int.natCast_emod S 360000).symm
 have m1:S/360000*(Q*Y)<=3054199*(1000*100000):=l7 (by omega) Ue;have m2:S%360000*(Q*Y)<=360000*(1000*100000):=l7 (by omega) Ue;have w3:i64.wrap ((S:Int)/360000)=((S/360000:Nat):Int):=by rw[<-l6 (by omega),d1];exact ax (by omega)
 have w4:i64.wrap (((S/360000:Nat):Int)*((Q*Y:Nat):Int))=((S/360000*(Q*Y):Nat):Int):=by rw[<-Int.natCast_mul];exact ax (by omega)
 have w5:i64.wrap (((S%360000:Nat):Int)*((Q*Y:Nat):Int))=((S%360000*(Q*Y):Nat):Int):=by rw[<-Int.natCast_mul];exact ax (by omega)
 have d3:((S%360000*(Q*Y):Nat):Int).tdiv 360000=((S%360000*(Q*Y)/360000:Nat):Int):=by rw[l6 (by omega)];exact(Int.natCast_ediv _ 360000).symm
 have m3:S%360000*(Q*Y)/360000<=360000*(1000*100000):=jf (vR _ _) m2
 have key:∀(x y:Nat),x<=3054199*(1000*100000)->y<=360000*(1000*100000)->i64.wrap ((x:Int)+i64.wrap (y:Int))=((x+y:Nat):Int):=λx y hx hy=>by
  rw[ax (n:=(y:Int)) (by omega),ax (by omega)];omega
 have w6:=key _ _ m1 m3;have w3':i64.wrap ((S/360000:Nat):Int)=((S/360000:Nat):Int):=ax (by omega);simp[a5,aHh,w1,w2,d1,d2,w3,w4,w5,d3,-Int.natCast_mul,-Int.natCast_add,-Int.natCast_ediv,-Int.natCast_emod];rw[if_neg hq,w3',w4,w6];clear w6;generalize S/360000*(Q*Y)+S%360000*(Q*Y)/360000=n at*;by_cases hn:1099511627776<n
 .rw[if_pos (by omega)] at hP;rw[if_pos (by omega)];simp[<-hP]
 .rw[if_neg (by omega)] at hP;rw[if_neg (by omega)];simp[<-hP]
def al9 (l:List Rate)(a b day:Int)(hl:l.length<=100000):ah T 27 [rates l,.int a,.int b,.int day] (.int (gI l a b day)):=by
 refine zyt 135 aEF ?_;simp[abq];refine aG.forRounds l.length (λk=>[.int (nq l a b day k),.int k]) (λ_=>[]) ?_ (λk aq=>?_) ?_
 .simp[nq]
 .have hw:=be aq (by omega);have hn:=xG l a b day k;rw[Xy];generalize nq l a b day k=n at*;unfold Az;have hk:l.getD k default=l[k]:=by simp[aq]
  rw[hk];simp[amW,P2,aq,hw];by_cases c1:l[k].fr=a
  case neg=>simp[c1]
  by_cases c2:l[k].to=b
  case neg=>simp[c1,c2]
  by_cases c3:day<l[k].since
  .have:¬l[k].since<=day:=by omega
   simp[c1,c2,c3,this]
  have c4:l[k].since<=day:=by omega
  simp[c1,c2,c3,c4];by_cases h0:n<0
  .simp[h0]
  .have h1:n.toNat<l.length:=by omega
   have h2:0<=n:=by omega
   simp[h0,h1,h2,hn];refine⟨by omega,?_⟩;split<;>rfl
 .simp[amW,P2,gI]
def aip {n d:Int}(hn:1<=n/\n<=1073741824)(hd:1<=d/\d<=1073741824):(nj n d).2.2=true:=(EL n d hn hd).2.1
def Yi (r:Realm)(hr:RealmOK r)(hl:r.rates.length<=100000)(a b day:Int):ah T 9 [aR r,.int a,.int b,.int day] (.tup [.agg [.int (rateF r a b day).1,.int (rateF r a b day).2.1],.bool (rateF r a b day).2.2]):=by
 refine zyt 134 aFY ?_;have h1:=al9 r.rates a b day hl;have h2:=al9 r.rates b a day hl;have q1:gI r.rates a b day<r.rates.length:=xG r.rates a b day r.rates.length;have q2:gI r.rates b a day<r.rates.length:=xG r.rates b a day r.rates.length;unfold rateF;generalize gI r.rates a b day=n at*;generalize gI r.rates b a day=m at*;simp[acw];refine⟨_,h1,?_⟩;simp;by_cases h0:0<=n
 .have aq:n.toNat<r.rates.length:=by omega
  have hx:=hr.rates _ (bR aq);have hm:=al5 _ _ hx.1 hx.2;have hb:=aip hx.1 hx.2;simp[h0,q1,aq];refine⟨_,hm,?_⟩;simp[hb]
 .simp[h0];refine⟨_,h2,?_⟩;simp;by_cases h3:0<=m
  .have aq:m.toNat<r.rates.length:=by omega
   have hx:=hr.rates _ (bR aq);have hm:=al5 _ _ hx.2 hx.1;have hb:=aip hx.2 hx.1;simp[h3,q2,aq];refine⟨_,hm,?_⟩;simp[hb]
  .simp[h3]
def aBD (s a b c d:Int)(hs:0<=s/\s<=1099511627776)(ha:0<a/\a<=1073741824)(hb:0<b/\b<=1073741824)(hc:0<c/\c<=1073741824)(hd:0<d/\d<=1073741824):
 ah T 99 [.int s,.agg [.int a,.int b],.agg [.int c,.int d]] (.int (sU s (a*c) (b*d))):=by
 obtain⟨S,rfl⟩:=eC hs.1;obtain⟨A,rfl⟩:=eC (tS ha.1);obtain⟨B,rfl⟩:=eC (tS hb.1);obtain⟨C,rfl⟩:=eC (tS hc.1);obtain⟨E,rfl⟩:=eC (tS hd.1);have hAC:A*C<=1073741824*1073741824:=l7 (by omega) (by omega);have hBE:B*E<=1073741824*1073741824:=l7 (by omega) (by omega);have at0:0<B*E:=Nat.mul_pos (by omega) (by omega);have e1:(A:Int)*(C:Int)=((A*C:Nat):Int):=(Int.natCast_mul _ _).symm;have e2:(B:Int)*(E:Int)=((B*E:Nat):Int):=(Int.natCast_mul _ _).symm;rw[e1,e2];have t1:=X3 A C (by omega) (by omega) (by omega);have t2:=X3 B E (by omega) (by omega) (by omega);have oA:=xV A (by omega);have oB:=xV B (by omega);have oC:=xV C (by omega);have oE:=xV E (by omega);have oS:=xV S (by omega);have cm:=HZ (A*C) (B*E) (by omega) (by omega);refine zyt 226 aFW ?_;generalize hL:sU (S:Int) ((A*C:Nat):Int) ((B*E:Nat):Int)=L;simp[acu];refine⟨_,oA,_,oC,_,t1,_,oB,_,oE,_,t2,?_⟩;generalize A*C=K at*;generalize B*E=W at*;refine⟨_,cm,?_⟩;unfold sU at hL;by_cases h:W<=K
 .have h':(W:Int)<=K:=by omega
  have h1:¬K<W:=by omega
  rw[if_neg h1];rw[if_pos h'] at hL;by_cases h2:W<K<;>simp[h2,<-hL]
 have h':¬(W:Int)<=K:=by omega
 have h1:K<W:=by omega
 rw[if_pos h1];rw[if_neg h'] at hL;have mi:=al6 W K (by omega);have Uf:S*(W-K)<=1099511627776*W:=l7 (by omega) (by omega);have t3:=X3 S (W-K) (by omega) (by omega) (by omega);have ov:=Pv (S*(W-K)) W (by omega) at0 (by omega);have hq:S*(W-K)/W<=1099511627776:=Nat.div_le_of_le_mul (by rw[nP W];exact Uf);have e3:(S:Int)*((W:Int)-(K:Int))/(W:Int)=((S*(W-K)/W:Nat):Int):=by
  rw[Int.natCast_ediv,Int.natCast_mul,Int.natCast_sub (by omega)]
 rw[e3] at hL;simp;refine⟨_,oS,_,mi,_,t3,_,ov,?_⟩;generalize S*(W-K)/W=q at*;have e4:(q:Int)=(dg q 0:Int)+(dg q 1:Int)*1073741824+(dg q 2:Int)*1152921504606846976:=by simp only[dg];omega
 have l0:=gB q 0;have l1:=gB q 1;have l2:dg q 2<8:=by simp only[dg];omega
 have w:=three (dg q 0) (dg q 1) (dg q 2) q e4 (by omega) (by omega) (by omega);have hv:=RN q;generalize zyy q=v at*;simp[hv,aCE,aCF,<-hL];exact w
def aBC (r:Realm)(hr:RealmOK r)(hl:r.rates.length<=100000)(b:Bill)(who s fr to:Int)(hw:0<=who/\who<r.firms.length)(hs:0<=s/\s<=1099511627776):
 ah T 44 [aR r,dc b,.int who,.int s,.int fr,.int to] (.int (ss (rateF r) (nV r who) b.currency s fr to)):=by
 refine zyt 225 aFV ?_;have h1:who.toNat<r.firms.length:=by omega
 have h2:=hr.firms _ (bR h1);have h3:(r.firms[who.toNat]).city.toNat<r.cities.length:=by omega
 have Uv:nV r who=r.cities[(r.firms[who.toNat]).city.toNat].currency:=by simp[nV,h1,h3]
 rw[Uv];simp[acs,hw,h1,h2,h3];generalize r.cities[(r.firms[who.toNat]).city.toNat].currency=own at*;refine⟨_,Yi r hr hl _ _ _,?_⟩;simp;refine⟨_,Yi r hr hl _ _ _,?_⟩;unfold ss;have hk:=PH hr;by_cases h4:own=b.currency
 .simp[h4]
 simp[h4];cases e1:(rateF r b.currency own fr).2.2
 .simp
 cases e2:(rateF r own b.currency to).2.2
 .simp
 have k1:=hk _ _ _ e1;have k2:=hk _ _ _ e2;simp;exact aBD s _ _ _ _ hs k1.1 k1.2 k2.1 k2.2
def anD (a b:Int):Prop:=a=2\/a=b
def adw {α:Type}(key:α->Int){x y:Int}(jy:x<=y):∀(l:List α),(l.takeWhile (λa=>decide (key a<=y))).takeWhile (λa=>decide (key a<=x))=l.takeWhile (λa=>decide (key a<=x))
 |[]=>rfl
 |a::l=>by
  by_cases h:key a<=x
  .have h2:key a<=y:=by omega
   simp only[Bd,h,h2,decide_true,if_true];rw[adw key jy l]
  .by_cases h2:key a<=y
   .simp[Bd,h,h2]
   .simp[Bd,h,h2]
def anX {α:Type}(key:α->Int){x y:Int}(jy:x<=y):∀(l:List α),(l.takeWhile (λa=>decide (key a<=x))).length<=(l.takeWhile (λa=>decide (key a<=y))).length
 |[]=>by simp
 |a::l=>by
  by_cases h:key a<=x
  .have h2:key a<=y:=by omega
   have:=anX key jy l;simp[Bd,h,h2];omega
  .simp[Bd,h]
def R4 (f:File){x y:Int}(jy:x<=y):aH (aH f y) x=aH f x:=by
 have h1:pG x (pG y f.signs)=pG x f.signs:=adw (λa:Sign=>a.day) jy f.signs;have h2:AX x (AX y f.acts)=AX x f.acts:=adw (λa:Act=>a.day) jy f.acts;have hl:(pG x f.signs).length<=(pG y f.signs).length:=anX (λa:Sign=>a.day) jy f.signs;unfold aH;simp only[h1,h2,List.filter_filter]
 congr 1
 .apply List.filter_congr;intro a _;simp[iM];omega
 .apply List.filter_congr;intro a _;simp[jo,aB];omega
where
 azo:∀(l:List Int) (b:Int),qg (b::l)<=b
 |[],b=>by simp[qg]
 |c::l,b=>by
  have e:qg (b::c::l)=qg (min b c::l):=by simp[qg]
  rw[e];have:=azo l (min b c);omega
def vK (fr to:Int)(u:Usance):Bool:=decide (u.fr=fr)&&decide (u.to=to)
def mK (l:List Usance)(fr to:Int):Int×Int:=match l.find? (vK fr to) with|some u=>(u.days,0)|none=>(0,4)
def ape (r:Realm)(fr to:Int)(hl:r.usances.length<=100000):ah T 106 [aR r,.int fr,.int to] (.tup [.int (mK r.usances fr to).1,.int (mK r.usances fr to).2]):=by
 refine .of_tree rfl aeN anQ ?_;simp[Q9];unfold mK;refine aG.scan r.usances.length (λk=>vK fr to (r.usances.getD k default)=false) (λk=>[.int 0,.int 0,.int k]) (λ_=>[]) ?_ (λk hk hj aE=>?_) (λk hk hj aE=>?_) (λhj=>?_)
 .simp
 .have hw:=be hk (by omega);have hn:¬(r.usances[k].fr=fr/\r.usances[k].to=to):=by simpa [vK,hk] using aE
  simp[D8,xZ,hk,hw,hn]
 .have dM:=qV hk (by simpa [hk] using aE) (λj br=>by have:=hj j br;simpa [show j<r.usances.length by omega] using this);have hc:r.usances[k].fr=fr/\r.usances[k].to=to:=by simpa [vK,hk] using aE
  rw[dM];simp[D8,xZ,hk,hc]
 .have dM:=sw (l:=r.usances) (p:=vK fr to) (λj br=>by have:=hj j br;simpa [br] using this);rw[dM];simp[D8,xZ]
def v7 (d:Int)(t:Tenor):Int×Int:=((EZ d t).choose,(EZ d t).choose_spec.choose)
def RX (d:Int)(t:Tenor):ah T 180 [.int d,lx t] (.tup [.int (v7 d t).1,.int (v7 d t).2]):=(EZ d t).choose_spec.choose_spec
def kE (l:List Usance)(b:Bill)(seen:Int):Int×Int:=
 if b.tenor.kind=0 then(seen,0) else if b.tenor.kind=1 then v7 seen b.tenor else if b.tenor.kind=2 then v7 b.day b.tenor
 else if b.tenor.kind=4 then(i64.wrap (b.day+(mK l b.city b.pay).1),(mK l b.city b.pay).2) else(b.tenor.n,0)
def apV (r:Realm)(hr:RightD r)(b:Bill)(seen:Int):ah T 123 [aR r,dc b,.int seen] (.tup [.int (kE r.usances b seen).1,.int (kE r.usances b seen).2]):=by
 have N0:D.agg [D.int b.tenor.kind,D.int b.tenor.n,D.int b.tenor.unit]=lx b.tenor:=rfl;refine .of_tree rfl yV AU ?_;unfold kE;by_cases h0:b.tenor.kind=0
 .simp[pD,h0]
 by_cases h1:b.tenor.kind=1
 .have h:=RX seen b.tenor;have cu:(b.tenor.kind=1)=True:=eq_true h1;simp[pD,h0,cu];exact⟨_,h,by simp⟩
 by_cases h2:b.tenor.kind=2
 .have h:=RX b.day b.tenor;have gf:(b.tenor.kind=2)=True:=eq_true h2;simp[pD,h0,h1,gf];exact⟨_,h,by simp⟩
 by_cases h4:b.tenor.kind=4
 .have h:=ape r b.city b.pay (by have:=hr.small.us;omega);have kI:(b.tenor.kind=4)=True:=eq_true h4;simp[pD,h0,h1,h2,kI];exact⟨_,h,by simp⟩
 .simp[pD,h0,h1,h2,h4]
def Dy (r:Realm)(pay bH:Int)(x:Int×Int):Int×Int:=
 if x.2≠0 then(0,x.2) else if bA x.1=false\/100000<i64.wrap (x.1+bH) then(0,3) else nD r pay (i64.wrap (x.1+bH))
def uq (r:Realm)(b:Bill)(seen bH:Int):Int×Int:=
 if cT r≠0\/aB b.city r.cities.length=false\/aB b.pay r.cities.length=false\/bA b.day=false then(0,1)
 else if((b.tenor.kind<0\/5<=b.tenor.kind)\/b.tenor.unit<0)\/2<=b.tenor.unit then(0,1)
 else if((¬seen=-1/\bA seen=false)\/bH<0)\/20000<bH then(0,1)
 else if rP b.tenor=true/\seen=-1 then(0,4)
 else Dy r b.pay bH (kE r.usances b seen)
def aoN (r:Realm)(hr:RightD r)(b:Bill)(seen bH:Int):ah T 82 [aR r,dc b,.int seen,.int bH] (.tup [.int (uq r b seen bH).1,.int (uq r b seen bH).2]):=by
 have N0:D.agg [D.int b.tenor.kind,D.int b.tenor.n,D.int b.tenor.unit]=lx b.tenor:=rfl;have gh:=Jm r hr.small;obtain⟨zyx,hG⟩:∃zyx,zyx=uq r b seen bH:=⟨_,rfl⟩
 rw[<-hG];unfold uq at hG;refine .of_tree rfl R6 ac7 ?_;simp[JF];refine⟨_,gh,?_⟩;by_cases h0:cT r=0
 case neg=>simp[h0] at hG ⊢;simp[hG]
 simp[h0] at hG ⊢;refine⟨_,Du r b.city,?_⟩;cases h1:aB b.city r.cities.length
 .simp[h1] at hG ⊢;simp[hG]
 simp[h1] at hG ⊢;refine⟨_,Du r b.pay,?_⟩;cases h2:aB b.pay r.cities.length
 .simp[h2] at hG ⊢;simp[hG]
 simp[h2] at hG ⊢;refine⟨_,xp b.day,?_⟩;cases h3:bA b.day
 .simp[h3] at hG ⊢;simp[hG]
 simp[h3] at hG ⊢;have hp:0<=b.pay/\b.pay<r.cities.length:=by simpa [aB] using h2
 by_cases h4:((b.tenor.kind<0\/5<=b.tenor.kind)\/b.tenor.unit<0)\/2<=b.tenor.unit
 .rw[if_pos h4] at hG ⊢;simp[hG]
 rw[if_neg h4] at hG ⊢;have fin:zyx=Dy r b.pay bH (kE r.usances b seen)->0<=bH->bH<=20000->∃d,ah T 123 [aR r,dc b,D.int seen] d/\
  if(d.tget 1).i=0 then ∃d1,ah T 121 [d.tget 0] d1/\(if d1.b=false\/100000<i64.wrap ((d.tget 0).i+bH) then 0=zyx.1/\3=zyx.2 else
        ∃d2,ah T 124 [aR r,D.int b.pay,D.int (i64.wrap ((d.tget 0).i+bH))] d2/\d2.tget 0=D.int zyx.1/\d2.tget 1=D.int zyx.2)
  else 0=zyx.1/\d.tget 1=D.int zyx.2:=by
  intro hG uH jO;refine⟨_,apV r hr b seen,?_⟩;unfold Dy at hG;generalize kE r.usances b seen=B at*;obtain⟨n,e⟩:=B;by_cases he:e=0
  .simp[he] at hG ⊢;refine⟨_,xp n,?_⟩;cases hd:bA n
   .simp[hd] at hG ⊢;simp[hG]
   have fo:0<=n/\n<=100000:=by simpa [bA] using hd
   have hw:i64.wrap (n+bH)=n+bH:=ax (by omega);simp[hd,hw] at hG ⊢;by_cases hle:100000<n+bH
   .rw[if_pos hle] at hG ⊢;simp[hG]
   .rw[if_neg hle] at hG ⊢;refine⟨_,ZX r hr.halts b.pay (n+bH) hp hr.cities (by omega) (by omega),?_⟩;simp[hG]
  .simp[he] at hG ⊢;simp[hG]
 by_cases hs:seen=-1
 .simp[hs] at fin hG ⊢;by_cases h5:bH<0\/20000<bH
  .rw[if_pos h5] at hG ⊢;simp[hG]
  rw[if_neg h5] at hG ⊢;refine⟨_,ER b.tenor,?_⟩;cases h6:rP b.tenor
  .simp[h6] at hG ⊢;exact fin hG (by omega) (by omega)
  .simp[h6] at hG ⊢;simp[hG]
 .simp[hs] at fin hG ⊢;refine⟨_,xp seen,?_⟩;cases hk:bA seen
  .simp[hk] at hG ⊢;simp[hG]
  simp[hk] at hG ⊢;by_cases h5:bH<0\/20000<bH
  .rw[if_pos h5] at hG ⊢;simp[hG]
  rw[if_neg h5] at hG ⊢;exact⟨⟨_,ER b.tenor⟩,fin hG (by omega) (by omega)⟩
def aqO {r:Realm}(hr:RightD r)(b:Bill)(seen bH:Int):qO r b seen bH=uq r b seen bH:=by
 have h:=(Rn r hr b seen bH).det (aoN r hr b seen bH);simp at h;exact Prod.ext h.1 h.2
def aqP {r:Realm}{b:Bill}(hr:RightD r)(hc:cT r=0)(Uu:aB b.city r.cities.length=true)(eV:aB b.pay r.cities.length=true)(hd:bA b.day=true)(hk:b.tenor.kind=3)(hu:b.tenor.unit=0)
 (hn:bA b.tenor.n=true) {g:Int} (hg:0<=g/\g<=20000) (hs:b.tenor.n+g<=100000):qO r b (-1) g=nD r b.pay (b.tenor.n+g):=by
 have gh:=Jm r hr.small;rw[hc] at gh;have jw:0<=b.tenor.n/\b.tenor.n<=100000:=by simpa [bA] using hn
 have sL:=ZX r hr.halts b.pay (b.tenor.n+g) (by simpa [aB] using eV) hr.cities (by omega) (by omega);have hb:ah T 123 [aR r,dc b,.int (-1)] (.tup [.int b.tenor.n,.int 0]):=by
  refine .of_tree rfl yV AU ?_;simp[pD,hk]
 have h:ah T 82 [aR r,dc b,.int (-1),.int g] (.tup [.int (nD r b.pay (b.tenor.n+g)).1,.int (nD r b.pay (b.tenor.n+g)).2]):=by
  have wP:=Du r b.city;have agK:=Du r b.pay;have GA:=xp b.day;have hi3:=xp b.tenor.n;have hi4:=ER b.tenor;rw[Uu] at wP;rw[eV] at agK;rw[hd] at GA;rw[hn] at hi3;rw[show rP b.tenor=false from by simp[rP,hk]] at hi4;have hw:i64.wrap (b.tenor.n+g)=b.tenor.n+g:=ax (by omega);have jO:¬g<0:=by omega
  have iv:¬20000<g:=by omega
  have dN:¬100000<b.tenor.n+g:=by omega
  refine .of_tree rfl R6 ac7 ?_;simp[JF];refine⟨_,gh,?_⟩;simp;refine⟨_,wP,?_⟩;simp;refine⟨_,agK,?_⟩;simp;refine⟨_,GA,?_⟩;simp[hk,hu,jO,iv];refine⟨_,hi4,?_⟩;simp;refine⟨_,hb,?_⟩;simp;refine⟨_,hi3,?_⟩;simp[hw,dN];refine⟨_,sL,?_⟩;simp
 have h2:=h.det (Rn r hr b (-1) g);simp at h2;exact Prod.ext h2.1.symm h2.2.symm
instance (a b:Int):Decidable (anD a b):=by unfold anD;infer_instance
def apJ (f:File)(x:Int):aH {f with facts:=[]} x={aH f x with facts:=[]}:=rfl
def H5 (f:File)(day:Int)(h1:f.signs.length<=4294967295)(h2:f.acts.length<=4294967295)(h3:f.alters.length<=4294967295)(h4:f.facts.length<=4294967295):ah T 37 [bQ f,.int day] (bQ (aH f day)):=by
 refine zyt 146 aE9 ?_;simp[abS];obtain⟨m,hm,hS,CT,sy⟩:=AW (λs:Sign=>decide (s.day<=day)) f.signs;obtain⟨n,hn,hA,T9,Ua⟩:=AW (λs:Act=>decide (s.day<=day)) f.acts;refine aG.forRounds m (λk=>[.int k]) (λk=>[]) ?_ (λk hk=>?_) ?_
 .simp
 .have bu:k<f.signs.length:=by omega
  have hw:=be bu (by omega);have hd:=CT k bu hk;simp at hd;have fo:¬day<f.signs[k].day:=by omega
  simp[YY,II,bu,hw,fo]
 have oJ:(f.signs.take m).length=m:=by simp;omega
 have U5:(f.acts.take n).length=n:=by simp;omega
 have Ub:aH f day=⟨f.bill,f.signs.take m,f.alters.filter (iM m),f.acts.take n,f.facts.filter (jo m)⟩:=by
  unfold aH pG AX;rw[hS,hA,oJ]
 rw[Ub];by_cases cP:m<f.signs.length
 case' pos=>
  have hd:=sy cP;simp at hd;simp[YY,II,cP,hd];generalize D.bool true=bb
 case' neg=>
  simp[YY,II,cP];generalize D.bool false=bb
 all_goals
  refine aG.forRounds n (λk=>[.int k]) (λk=>[]) ?_ (λk hk=>?_) ?_
  .simp
  .have bu:k<f.acts.length:=by omega
   have hw:=be bu (by omega);have hd:=T9 k bu hk;simp at hd;have fo:¬day<f.acts[k].day:=by omega
   simp[YZ,IJ,bu,hw,fo]
  by_cases jw:n<f.acts.length
  case' pos=>
   have hd:=Ua jw;simp at hd;simp[YZ,IJ,jw,hd];generalize D.bool true=bc
  case' neg=>
   simp[YZ,IJ,jw];generalize D.bool false=bc
  all_goals
   refine⟨by omega,by omega,by omega,by omega,?_⟩;refine aG.forRounds f.alters.length (λk=>[.int k]) (λk=>[mR f.bill (signs (f.signs.take m)) (mq ((f.alters.take k).filter (iM m))) (acts (f.acts.take n)) (.list []),alters ((f.alters.take k).filter (iM m))]) ?_ (λk hk=>?_) ?_
   .simp[alters,signs,acts,mR]
    try rfl
   .have hw:=be hk (by omega);have ht:=yi (iM m) f.alters hk;rw[ht];have hlen:((f.alters.take k).filter (iM m)).length<=k:=jf (tY _ _) (by simp;omega);generalize (f.alters.take k).filter (iM m)=B at*;by_cases hd:f.alters[k].at_<=(m:Int)
    .simp[Za,IK,iM,hk,hw,hd];exact⟨by omega,by simp[alters,mR,ag8]<;>rfl⟩
    .simp[Za,IK,iM,hk,hw,hd]
   simp[Za,IK];generalize f.alters.filter (iM m)=B at*;refine aG.forRounds f.facts.length (λk=>[.int k]) (λk=>[mR f.bill (signs (f.signs.take m)) (mq B) (acts (f.acts.take n)) (mq ((f.facts.take k).filter (jo m))),facts ((f.facts.take k).filter (jo m))]) ?_ (λk hk=>?_) ?_
   .simp[facts]
   .have hw:=be hk (by omega);have ht:=yi (jo m) f.facts hk;rw[ht];have hlen:((f.facts.take k).filter (jo m)).length<=k:=jf (tY _ _) (by simp;omega);generalize (f.facts.take k).filter (jo m)=C at*;by_cases bB:0<=f.facts[k].at_
    .by_cases dD:f.facts[k].at_<(m:Int)
     .simp[P7,D6,jo,aB,hk,hw,bB,dD];exact⟨by omega,by simp[facts,mR,ag8]<;>rfl⟩
     .simp[P7,D6,jo,aB,hk,hw,bB,dD]
    .simp[P7,D6,jo,aB,hk,hw,bB]
   simp[P7,D6]
   try rfl
def azE (x i:Nat):x&&& 2^i=if x.testBit i then 2^i else 0:=by
 apply Nat.eq_of_testBit_eq;intro j;rw[Nat.testBit_and,Nat.testBit_two_pow];by_cases h:i=j
 .subst h;cases x.testBit i<;>simp
 .cases x.testBit i<;>simp[h]
def R0 (n:Int)(i:Nat)(hi:i<3):bO .and .i64 n ((2^i:Nat):Int)=0\/bO .and .i64 n ((2^i:Nat):Int)=((2^i:Nat):Int):=by
 have hp:i=0\/i=1\/i=2:=by omega
 have h2:(BitVec.ofInt 64 ((2^i:Nat):Int)).toNat=2^i:=by
  rcases hp with rfl|rfl|rfl<;>rfl
 have h1:(BitVec.ofInt 64 n&&& BitVec.ofInt 64 ((2^i:Nat):Int)).toNat=if(BitVec.ofInt 64 n).toNat.testBit i then 2^i else 0:=by
  rw[BitVec.toNat_and,h2,azE]
 have h3:bO .and .i64 n ((2^i:Nat):Int)=i64.wrap (((BitVec.ofInt 64 n&&& BitVec.ofInt 64 ((2^i:Nat):Int)).toNat:Nat):Int):=rfl;rw[h3,h1];cases(BitVec.ofInt 64 n).toNat.testBit i with
 |false=>left;rfl
 |true=>
  right;rcases hp with rfl|rfl|rfl<;>rfl
def ar7 (n k:Int)(hk:k=1\/k=2\/k=4):decide (bO .and .i64 n k=k)=wF n k:=by
 unfold wF;have h:bO .and .i64 n k=0\/bO .and .i64 n k=k:=by
  rcases hk with rfl|rfl|rfl
  .exact R0 n 0 (by omega)
  .exact R0 n 1 (by omega)
  .exact R0 n 2 (by omega)
 have gY:k≠0:=by omega
 rcases h with h|h<;>rw[h]<;>simp[gY];omega
def vu (n:Int):ah T 204 [.int n] (ct ⟨true,n⟩):=by
 refine zyt 154 aFg ?_;simp[abX]
 try rfl
def xW (b:Bool):ah T 205 [.bool b] (ct (fj b)):=by
 refine zyt 155 aFh ?_;cases b
 .simp[Q3];refine⟨_,vu 0,?_⟩;simp;rfl
 .simp[Q3];refine⟨_,vu 1,?_⟩;simp;rfl
def Py (n k:Int)(hk:k=1\/k=2\/k=4):ah T 206 [.int n,.int k] (.bool (wF n k)):=by
 rw[<-ar7 n k hk];refine zyt 156 aFf ?_;simp[abW]
def Pw (r:Realm)(c:Int)(hl:r.cities.length<=100000):ah T 148 [aR r,.int c] (.int (cQ r c)):=by
 have hw:i64.wrap ((r.cities.length:Int)-1)=(r.cities.length:Int)-1:=ax (by omega);refine zyt 157 aEP ?_;simp[abA,cQ,hw];refine⟨_,cI c 0 _,?_⟩;have he:wi c 0 ((r.cities.length:Int)-1)=aB c r.cities.length:=by
  rw[tP];simp[wi,aB];omega
 rw[he];cases h:aB c r.cities.length
 .simp[h]
 .simp[aB] at h;have h1:c.toNat<r.cities.length:=by omega
  simp[h,h1]
def anZ (b:Nat->PC):PT:=
 (.call ⟨[],[(7,.setn o7 (pi 18) 0 (.r 210))]⟩ [] 215 207 [ar 19 o5,pi 4,bJ] (.chk (ao o7 (pi 19)) (.ret (.setn o7 (pi 19) 0 (.r 215)))))
variable(b:Nat->PC)
def aoa:PT:=
 (.call ⟨[],[(7,.setn o7 (pi 17) 0 (.r 205))]⟩ [] 210 207 [ar 19 o5,pi 3,bJ] (.chk (ao o7 (pi 18)) (anZ b)))
def aoi:PT:=
 (.call ⟨[],[(7,.setn o7 (pi 16) 0 (.r 199))]⟩ [] 205 207 [ar 19 o5,pi 2,pc o3 19] (.chk (ao o7 (pi 17)) (aoa b)))
def aoj:PT:=
 (.call ⟨[],[(7,.setn o7 (pi 15) 0 (.r 193))]⟩ [] 199 207 [ar 19 o5,pi 1,pc o3 19] (.chk (ao o7 (pi 16)) (aoi b)))
def aok:PT:=
 (.call ⟨[(11,.mx (pc o3 20) (pi 0))],[(7,.setn o7 (pi 13) 0 (.r 184))]⟩ [] 193 207 [ar 19 o5,pi 0,pc o3 19] (.chk (ao o7 (pi 15)) (aoj b)))
def aol:PT:=
 (.call ⟨[],[]⟩ [] 184 205 [.r 183] (.chk (ao o7 (pi 13)) (aok b)))
def aom:PT:=
 (.call ⟨[],[(7,.setn o7 (pi 12) 0 (.r 178))]⟩ [] 183 206 [pc o6 8,pi 1] (aol b))
def aon:PT:=
 (.call ⟨[],[]⟩ [] 178 205 [r9] (.chk (ao o7 (pi 12)) (aom b)))
def aoo:PT:=
 (.call ⟨[],[]⟩ [] 155 205 [aC (.r 148) (.r 153)] (.chk (ao o7 (pi 11)) (.brk ⟨[(10,pi 0),(9,pF)],[(7,.setn o7 (pi 11) 0 (.r 155))]⟩ (aih b) (aon b))))
def an0:PT:=
 (.call ⟨[],[]⟩ [] 153 148 [ar 8 o2,pc o5 10] (aoo b))
def an1:PT:=
 (.call ⟨[],[(7,.setn o7 (pi 8) 0 (.r 141))]⟩ [] 148 148 [ar 8 o2,pc o5 9] (an0 b))
def an2:PT:=
 (.call ⟨[],[(7,.setn o7 (pi 9) 0 (.r 134))]⟩ [] 141 205 [ae (pc o5 2) (pi (-1))] (.chk (ao o7 (pi 8)) (an1 b)))
def an3:PT:=
 (.call ⟨[],[]⟩ [] 134 205 [.r 133] (.chk (ao o7 (pi 9)) (an2 b)))
def an4:PT:=
 (.call ⟨[],[(7,.setn o7 (pi 10) 0 Yb)]⟩ [] 133 206 [pc o5 13,pi 4] (an3 b))
def an5:PT:=
 (.call ⟨[],[]⟩ [] 127 205 [amj] (.chk (ao o7 (pi 10)) (an4 b)))
def an6:PT:=
 (.call ⟨[],[(7,.setn o7 (pi 7) 0 Ya)]⟩ [] 126 206 [pc o5 13,pi 2] (an5 b))
def an7:PT:=
 (.call ⟨[],[]⟩ [] 120 205 [amh] (.chk (ao o7 (pi 7)) (an6 b)))
def an8:PT:=
 (.call ⟨[],[(7,.setn o7 (pi 14) 0 amf)]⟩ [] 119 206 [pc o5 13,pi 1] (an7 b))
def an9:PT:=
 (.call ⟨[],[(7,.setn o7 (pi 6) 0 H3)]⟩ [] 113 205 [aS r8 (pi 0)] (.chk (ao o7 (pi 14)) (an8 b)))
def aob:PT:=
 (.call ⟨[(8,.pick (aC (pc o3 22) (pi (-1))) (aO (pc o6 6) (pc o3 22)) (pi 0))],[(7,.setn o7 (pi 5) 0 PG)]⟩ [] 108 204 [.pick (aC (pc o3 22) (pi (-1))) (aO (pc o6 6) (pc o3 22)) (pi 0)] (.chk (ao o7 (pi 6)) (an9 b)))
def aoc:PT:=
 (.call ⟨[],[(7,.setn o7 (pi 4) 0 r91)]⟩ [] 96 204 [pc o3 21] (.chk (ao o7 (pi 5)) (aob b)))
def aod:PT:=
 (.call ⟨[],[(7,.setn o7 (pi 3) 0 Yn)]⟩ [] 91 204 [pc o6 0] (.chk (ao o7 (pi 4)) (aoc b)))
def aoe:PT:=
 (.call ⟨[],[(7,.setn o7 (pi 2) 0 tz)]⟩ [] 86 204 [pc o5 12] (.chk (ao o7 (pi 3)) (aod b)))
def aof:PT:=
 (.call ⟨[],[(7,.setn o7 (pi 1) 0 rG)]⟩ [] 80 204 [pc o5 5] (.chk (ao o7 (pi 2)) (aoe b)))
def aog:PT:=
 (.call ⟨[],[(7,.setn o7 (pi 0) 0 tu)]⟩ [] 73 204 [pc o5 14] (.chk (ao o7 (pi 1)) (aof b)))
abbrev z15:PE:=.con (.agg [.int 0,.int 0,.int 0,.int 0,.int 0,.int 0,.int 0,.int 0,.int 0,.int 0,.int 0,.int 0,.int 0,.int 0,.int 0,.list [],.list [],.list [],.list []])
def aoh:PT:=
 (.call ⟨[],[(7,.rep (pi 20) (.con (.agg [.bool false,.int 0]))),(6,.setc z9 0 (pn (pc (.setc z15 0 (ar 19 (.mk [r1]))) 15) (pc (.mk [r1]) 19))),(5,.setc z15 0 (ar 19 (.mk [r1]))),(3,.mk [r1]),(2,.mk [r0])]⟩ [] 67 204 [pc (.setc z15 0 (ar 19 (.mk [r1]))) 3] (.chk (ao o7 (pi 0)) (aog b)))
def anY:PT:=
 (.ite (.pick (.pick (.pick (.pick (.pick (aj (pc (.mk [r1]) 19) (pi 0)) pT (aN (pc (.mk [r1]) 19) (.llen (pc (.setc z15 0 (ar 19 (.mk [r1]))) 15)))) pT (aj (pc (.mk [r1]) 20) (pi (-1)))) pT (aN (pc (.mk [r1]) 20) (.llen (pc (.setc z15 0 (ar 19 (.mk [r1]))) 15)))) pT (aj (pc (.mk [r1]) 22) (pi (-1)))) pT (aS (pc (.mk [r1]) 22) (pi 100000))) (.ret pL) (.chk (ao (pc (.setc z15 0 (ar 19 (.mk [r1]))) 15) (pc (.mk [r1]) 19)) (.ite (.pick (aj (pc (.setc z9 0 (pn (pc (.setc z15 0 (ar 19 (.mk [r1]))) 15) (pc (.mk [r1]) 19))) 6) (pi 0)) pT (aS (pc (.setc z9 0 (pn (pc (.setc z15 0 (ar 19 (.mk [r1]))) 15) (pc (.mk [r1]) 19))) 6) (pi 100000))) (.ret pL) (.chk (.an (aN (pi 20) (pi 0)) (aY (pi 20) (pi 4294967296))) (.chk (ae (pi 20) (pi 20)) (aoh b))))))
def aFd (b:Nat->PC):abV b=anY b:=rfl
def aBj (r:Realm)(hr:r.cities.length<=100000)(c:Case)(h2:c.file.facts.length<=100000)(h3:c.file.alters.length<=100000):ah T 156 [aR r,eF c] (cells (eA r c)):=by
 refine zyt 153 aFe ?_;rw[aFd];simp[anY];by_cases hb:((((c.sign<0\/(c.file.signs.length:Int)<=c.sign)\/c.holder< -1)\/(c.file.signs.length:Int)<=c.holder)\/c.due< -1)\/100000<c.due
 .rw[if_pos hb];have hc:nT c=false:=by
   cases e:nT c with
   |false=>rfl
   |true=>
    exfalso;unfold nT mm aB at e;simp only[aA,lZ,decide_eq_true_eq] at e;split at e<;>omega
  have hv:eA r c=[]:=by unfold eA;rw[hc];simp
  rw[hv];rfl
 rw[if_neg hb];have hc:nT c=true:=by
  unfold nT mm aB;simp only[aA,lZ,decide_eq_true_eq];split<;>omega
 have hlen:c.sign.toNat<c.file.signs.length:=by omega
 obtain⟨s,dy⟩:∃s:Sign,s=c.file.signs[c.sign.toNat]:=⟨_,rfl⟩
 have dO:c.file.signs.getD c.sign.toNat default=s:=by rw[dy];simp[hlen]
 have hv:eA r c=if aB s.day 100001=true then CO r c s else[]:=by
  unfold eA;rw[dO,hc];simp
 rw[hv];simp[hlen,<-dy];refine⟨by omega,?_⟩;by_cases hd:s.day<0\/100000<s.day
 .rw[if_pos hd,if_neg (by simp[aB];omega)];rfl
 rw[if_neg hd,if_pos (by simp[aB];omega)];have C5:(if c.due=-1 then D.int 0 else D.int (i64.wrap (s.day-c.due)))=D.int (xw s c.due):=by
  unfold xw;by_cases h:c.due=-1
  .simp[h]
  .rw[if_neg h,if_neg h,ax (by omega)]
 simp[aoh];refine⟨_,vu _,?_⟩;simp[aog,hlen,<-dy];refine⟨_,vu _,?_⟩;simp[aof,hlen,<-dy];refine⟨_,vu _,?_⟩;simp[aoe,hlen,<-dy];refine⟨_,vu _,?_⟩;simp[aod,hlen,<-dy];refine⟨_,vu _,?_⟩;simp[aoc,hlen,<-dy];refine⟨_,vu _,?_⟩;simp[aob,hlen,<-dy,C5];refine⟨_,vu _,?_⟩;simp[an9,hlen,<-dy,C5];refine⟨_,xW _,?_⟩;simp[an8,hlen,<-dy];refine⟨_,Py _ _ (by omega),?_⟩;simp[an7,hlen,<-dy];refine⟨_,xW _,?_⟩;simp[an6,hlen,<-dy];refine⟨_,Py _ _ (by omega),?_⟩;simp[an5,hlen,<-dy];refine⟨_,xW _,?_⟩;simp[an4,hlen,<-dy];refine⟨_,Py _ _ (by omega),?_⟩;simp[an3,hlen,<-dy];refine⟨_,xW _,?_⟩;simp[an2,hlen,<-dy];refine⟨_,xW _,?_⟩;simp[an1,hlen,<-dy];refine⟨_,Pw r _ hr,?_⟩;simp[an0,hlen,<-dy];refine⟨_,Pw r _ hr,?_⟩;simp[aoo,hlen,<-dy];refine⟨_,xW _,?_⟩;refine aG.forRounds c.file.alters.length (λk=>[.bool ((List.range k).any λj=>decide ((c.file.alters.getD j default).at_<=c.sign)),.int k]) (λ_=>[]) ?_ (λk hk=>?_) ?_
 .simp
 .have hw:=be hk (by omega)
  have e:(List.range (k+1)).any (λj=>decide ((c.file.alters.getD j default).at_<=c.sign))=((List.range k).any (λj=>decide ((c.file.alters.getD j default).at_<=c.sign))||decide (c.file.alters[k].at_<=c.sign)):=by
   rw[aek,ad7];simp[hk]
  rw[e];generalize (List.range k).any (λj=>decide ((c.file.alters.getD j default).at_<=c.sign))=b;cases b<;>simp[amY,P9,hk,hw]
 have halt:(List.range c.file.alters.length).any (λj=>decide ((c.file.alters.getD j default).at_<=c.sign))=RZ c.file c.sign:=rfl;rw[halt];have hF:=λk at_=>aBg c.file k at_ (by omega);have zG:(if c.holder<0 then D.int 0 else D.int c.holder)=D.int (mm c):=by unfold mm;split<;>rfl
 simp[amY,P9];simp[aon,hlen,<-dy];refine⟨_,xW _,?_⟩;simp[aom,hlen,<-dy];refine⟨_,Py _ _ (by omega),?_⟩;simp[aol,hlen,<-dy];refine⟨_,xW _,?_⟩;simp[aok,hlen,<-dy,zG];refine⟨_,hF 0 _,?_⟩;simp[aoj,hlen,<-dy,zG];refine⟨_,hF 1 _,?_⟩;simp[aoi,hlen,<-dy,zG];refine⟨_,hF 2 _,?_⟩;simp[aoa,hlen,<-dy,zG];refine⟨_,hF 3 _,?_⟩;simp[anZ,hlen,<-dy,zG];refine⟨_,hF 4 _,?_⟩;simp[cells,CO,tB,tC]
def amv (r:Realm)(hr:r.cities.length<=100000)(c:Case)(hf:FewS c.file):ah T 96 [aR r,eF c] (cells (eA r (bT c))):=by
 have g:=hf.at_ c.day;refine zyt 152 aFK ?_;simp[aci];refine⟨_,H5 c.file c.day (by have:=hf.signs;omega) (by have:=hf.acts;omega) (by have:=hf.alters;omega) (by have:=hf.facts;omega),?_⟩;have hv:=aBj r hr (bT c) (by have:=g.facts;show(aH c.file c.day).facts.length<=_;omega) (by have:=g.alters;show(aH c.file c.day).alters.length<=_;omega);simp;exact hv
def amx (s:Said):ah T 40 [jK s] (.int (fT s)):=by
 refine zyt 187 aFN ?_;unfold fT;by_cases h:s.err=0
 .cases h2:s.cell.known<;>simp[Q7,h,h2]
 .simp[Q7,h]
def eu (r:Realm)(forum:Int)(c:Case):List Int:=if eA r (bT c)=[] then[] else gq r forum (bT c)
def aqi {r:Realm}(h:cT r=0)(i:Nat)(hi:i<r.cities.length):mU r r.cities[i]=true:=by
 unfold cT at h;rw[Jw] at h;have h1:=h (eG (fA r) 40 (nU r)) (by simp);unfold eG at h1;split at h1
 .cases h1
 have h2:=F7 h1 i (by simpa [fA] using hi);have h3:=(zl h2).2;unfold nU at h3;simpa [hi] using h3
def aqo {r:Realm}(h:cT r=0)(i:Nat)(hi:i<r.cities.length):0<=r.cities[i].order/\r.cities[i].order<r.orders.length:=by
 have:=aqi h i hi;unfold mU at this;simp only[aA] at this;obtain⟨⟨_,⟨⟨_,h2⟩,_⟩⟩,_⟩:=this;simpa [aB] using h2
def HF {r:Realm}(h:cT r=0)(c:Int):cQ r c=-1\/(0<=cQ r c/\cQ r c<r.orders.length):=by
 unfold cQ;split
 .rename_i hc;have mY:0<=c/\c<r.cities.length:=by simpa [aB] using hc
  have hl:c.toNat<r.cities.length:=by omega
  right;have:=aqo h c.toNat hl;simpa [hl] using this
 .exact .inl rfl
def aG0 {q:Int}(h:q<0\/22<=q):(fi q).2=false:=by unfold fi;rw[if_pos h]
def aG1 {q:Int}(h:¬(q<0\/22<=q)):(fi q).2=true:=by unfold fi;rw[if_neg h];split<;>rfl
def ahS {r:Realm}{forum q:Int}{c:Case}(h:eu r forum c=[]\/q<0\/22<=q):dH r forum q c=Hy:=by
 have e:(fg r forum q c)=(Hy,[]):=by
  unfold fg;by_cases h1:eA r (bT c)=[]
  .rw[if_pos h1]
  rw[if_neg h1];cases h2:(fi q).2
  .rw[if_pos rfl]
  rw[if_neg (by simp)];rcases h with h|h
  .unfold eu at h;rw[if_neg h1] at h;rw[if_pos h]
  .rw[aG0 h] at h2;cases h2
 unfold dH;rw[e];rfl
structure Joined (r:Realm) (forum q:Int) (c:Case):Prop where
 vars:(eA r (bT c)).length=20
 sign:0<=c.sign/\c.sign<(aH c.file c.day).signs.length
 who:0<=(dk (aH c.file c.day) c.sign).who/\(dk (aH c.file c.day) c.sign).who<r.firms.length
 places:eu r forum c=[forum,cQ r (dk (aH c.file c.day) c.sign).city,cQ r c.file.bill.pay,cQ r c.file.bill.city,cQ r (r.firms.getD (dk (aH c.file c.day) c.sign).who.toNat default).city]
 path:(de r forum q (eu r forum c)).1≠[]
 ask:dH r forum q c=if(de r forum q (eu r forum c)).2=0 then⟨(nR (iI r (cB (de r forum q (eu r forum c)).1)) q (eA r (bT c))).1,cB (de r forum q (eu r forum c)).1,(de r forum q (eu r forum c)).1,(nR (iI r (cB (de r forum q (eu r forum c)).1)) q (eA r (bT c))).2⟩
  else⟨dj,-1,(de r forum q (eu r forum c)).1,(de r forum q (eu r forum c)).2⟩
def ah5 (r:Realm)(q:Int)(l:List Int):∀(n:Nat) (p:List Int),p≠[]->(iX r q l n p).1≠[]
 |0,p,h=>h
 |n+1,p,h=>by
  rw[Hj];split
  .exact h
  split
  .simp
  split
  .simp
  .exact ah5 r q l n _ (by simp)
def aw2 {r:Realm}(hr:Right r)(hc:cT r=0){forum q:Int}{c:Case}(h:eu r forum c≠[])(hq:¬(q<0\/22<=q)):Joined r forum q c:=by
 have hv:eA r (bT c)≠[]:=λe=>h (by unfold eu;rw[if_pos e]);have eL:eu r forum c=gq r forum (bT c):=by unfold eu;rw[if_neg hv]
 have hp:gq r forum (bT c)≠[]:=by rw[<-eL];exact h
 have hb:¬kD r forum (bT c):=λe=>hp (by unfold gq;rw[if_pos e]);have hn:hasB (fh r forum (bT c)) (-1)=false:=by
  cases e:hasB (fh r forum (bT c)) (-1) with
  |false=>rfl
  |true=>exact absurd (by unfold gq;rw[if_neg hb,if_pos e]) hp
 have ho:gq r forum (bT c)=fh r forum (bT c):=by unfold gq;rw[if_neg hb,hn];simp
 have cj:∀x,x∈fh r forum (bT c)->0<=x/\x<r.orders.length:=by
  intro x hx
  have aI:x≠-1:=λe=>by
   subst e;have:hasB (fh r forum (bT c)) (-1)=true:=by simpa [hasB] using hx
   rw[hn] at this;cases this
  unfold fh at hx;simp only[dG,List.not_mem_nil,or_false] at hx;unfold kD at hb;rcases hx with rfl|rfl|rfl|rfl|rfl
  .omega
  all_goals
   rcases HF hc _ with e|e
   .exact absurd e aI
   .exact e
 have Ny:jM r forum q (fh r forum (bT c))=true:=by
  have hf:=cj forum (by simp[fh]);have hl:(fh r forum (bT c)).length=5:=rfl;unfold jM;rw[aA];constructor
  .simp[hl];omega
  .rw[lY,Ru];intro k hk;have bu:=gR.1 hk;have:=cj ((fh r forum (bT c))[k]) (bR bu);simp[HG,bu];omega
 have uK:de r forum q (eu r forum c)=iX r q (eu r forum c) r.orders.length [forum]:=by
  unfold de;rw[eL,ho,if_pos ⟨Ny,rfl⟩]
 refine⟨?_,adQ hv,?_,by rw[eL,ho];rfl,by rw[uK];exact ah5 _ _ _ _ _ (by simp),?_⟩
 .unfold eA at hv ⊢;split at hv
  .rename_i hh;rw[if_pos hh];simp[CO,tB,tC]
  .exact absurd rfl hv
 .unfold kD at hb;have e1:(bT c).file=aH c.file c.day:=rfl;have e2:(bT c).sign=c.sign:=rfl;rw[e1,e2] at hb;omega
 .have e:fg r forum q c=(⟨dj,if(de r forum q (eu r forum c)).2=0 then cB (de r forum q (eu r forum c)).1 else-1,(de r forum q (eu r forum c)).1,(de r forum q (eu r forum c)).2⟩,eA r (bT c)):=by
   unfold fg;rw[if_neg hv,aG1 hq,if_neg (by simp),if_neg hp,eL]
  have wT:(eu r forum c).length<=100000:=by rw[eL,ho];simp[fh]
  have UT:=Oc hr (a:=forum) (q:=q) (l:=eu r forum c) wT;unfold dH;rw[e];generalize de r forum q (eu r forum c)=L at*;by_cases h0:L.2=0
  .have:=(UT h0).2;simp only[h0,if_true];rw[if_neg (by omega)]
  .simp[h0]
def apP (f:File)(day:Int){i:Nat}(hi:i<(aH f day).signs.length):∃h:i<f.signs.length,(aH f day).signs[i]=f.signs[i]:=by
 obtain⟨m,hm,e,_,_⟩:=AW (λs:Sign=>decide (s.day<=day)) f.signs;have e':(aH f day).signs=f.signs.take m:=e;have h1:i<f.signs.length:=by rw[e',eQ] at hi;omega
 refine⟨h1,?_⟩;simp only[e',List.getElem_take]
def aop:PT:=
 (.call ⟨[],[(8,.setn o8 (pi 3) 0 PD)]⟩ [] 79 148 [ar 8 o3,pc (pn (pc o3 3) (pc o7 2)) 1] (.chk (ao o8 (pi 4)) (.brk ⟨[(9,pi 0)],[(8,.setn o8 (pi 4) 0 r79)]⟩ (aii b) (.ret o8))))
def aoq:PT:=
 (.call ⟨[],[(8,.setn o8 (pi 2) 0 rF)]⟩ [] 68 148 [ar 8 o3,pc o5 9] (.chk (ao o8 (pi 3)) (.chk (ao (pc o3 3) (pc o7 2)) (aop b))))
def aor:PT:=
 (.call ⟨[],[(8,.setn o8 (pi 1) 0 vw)]⟩ [] 60 148 [ar 8 o3,pc o5 10] (.chk (ao o8 (pi 2)) (aoq b)))
def aos:PT:=
 (.call ⟨[(8,pN)],[(8,.setn (.rep (pi 5) (pi 0)) (pi 0) 0 r1),(7,.setc z9 0 (pn (pc o5 15) (pc o5 19)))]⟩ [] 52 148 [ar 8 o3,pc (.setc z9 0 (pn (pc o5 15) (pc o5 19))) 7] (.chk (ao o8 (pi 1)) (aor b)))
def aot:PT:=
 (.call ⟨[(6,pL)],[(5,.mk [r2]),(3,.mk [r0])]⟩ [] 12 96 [ar 8 (.mk [r0]),ar 24 (.mk [r2])] (.ite (.pick (.pick (ae (.llen bK) (pi 0)) pT (aj r1 (pi 0))) pT (aN r1 (.llen (pc o3 4)))) (.ret pL) (.chk (ao (pc o5 15) (pc o5 19)) (.ite (.pick (aj (pc (.setc z9 0 (pn (pc o5 15) (pc o5 19))) 2) (pi 0)) pT (aN (pc (.setc z9 0 (pn (pc o5 15) (pc o5 19))) 2) (.llen (pc o3 3)))) (.ret pL) (.chk (.an (aN (pi 5) (pi 0)) (aY (pi 5) (pi 4294967296))) (.chk (ae (pi 5) (pi 5)) (.chk (ao (.rep (pi 5) (pi 0)) (pi 0)) (aos b))))))))
def aFO (b:Nat->PC):acm b=aot b:=rfl
def aBy (r:Realm)(hc:cT r=0)(hr:r.cities.length<=100000)(forum:Int)(c:Case)(hf:FewS c.file):ah T 92 [aR r,.int forum,eF c] (ints (eu r forum c)):=by
 have hC:=amv r hr c hf;refine zyt 151 aFP ?_;rw[aFO];simp[aot];unfold eu;by_cases hv:eA r (bT c)=[]
 .rw[if_pos hv];rw[hv] at hC;refine⟨_,hC,?_⟩;simp;rfl
 rw[if_neg hv];refine⟨_,hC,?_⟩;have dO:=adQ hv;have NY:c.sign.toNat<(aH c.file c.day).signs.length:=by
  have:(bT c).file.signs=(aH c.file c.day).signs:=rfl;have e2:(bT c).sign=c.sign:=rfl;rw[this,e2] at dO;omega
 obtain⟨G0,dy⟩:=apP c.file c.day NY;have h0:0<=c.sign:=dO.1;simp[hv];have hp:gq r forum (bT c)=if kD r forum (bT c) then[] else if hasB (fh r forum (bT c)) (-1)=true then[] else fh r forum (bT c):=rfl;have CX:kD r forum (bT c)↔((c.file.signs[c.sign.toNat].who<0\/(r.firms.length:Int)<=c.file.signs[c.sign.toNat].who)\/forum<0)\/(r.orders.length:Int)<=forum:=by
  have e:dk (bT c).file (bT c).sign=c.file.signs[c.sign.toNat]:=by
   show(aH c.file c.day).signs.getD c.sign.toNat default=_;rw[<-dy];simp[NY]
  unfold kD;rw[e];constructor
  .rintro(h|h|h|h)<;>simp[h]
  .rintro(((h|h)|h)|h)<;>simp[h]
 by_cases hfo:forum<0\/(r.orders.length:Int)<=forum
 .rw[if_pos hfo,hp,if_pos (CX.2 (by omega))];rfl
 rw[if_neg hfo];obtain⟨sg,p7⟩:∃sg:Sign,sg=c.file.signs[c.sign.toNat]:=⟨_,rfl⟩
 rw[<-p7] at CX;simp[G0,<-p7];refine⟨by omega,?_⟩;by_cases hw:sg.who<0\/(r.firms.length:Int)<=sg.who
 .rw[if_pos hw,hp,if_pos (CX.2 (.inl (.inl hw)))];rfl
 rw[if_neg hw];have eJ:¬kD r forum (bT c):=λe=>by have:=CX.1 e;omega
 have zX:sg.who.toNat<r.firms.length:=by omega
 have ho:fh r forum (bT c)=[forum,cQ r sg.city,cQ r c.file.bill.pay,cQ r c.file.bill.city,cQ r r.firms[sg.who.toNat].city]:=by
  have e:dk (bT c).file (bT c).sign=sg:=by
   show(aH c.file c.day).signs.getD c.sign.toNat default=_;rw[p7,<-dy];simp[NY]
  unfold fh;rw[e];simp[zX];exact⟨rfl,rfl⟩
 rw[hp,if_neg eJ,ho];have jq:∀x:Int,ah T 148 [aR r,.int x] (.int (cQ r x)):=λx=>Pw r x hr;simp[aos,G0,<-p7];refine⟨_,jq _,?_⟩;simp[aor,G0,<-p7];refine⟨_,jq _,?_⟩;simp[aoq,G0,<-p7];refine⟨_,jq _,?_⟩;simp[aop,G0,<-p7,zX];refine⟨by omega,_,jq _,?_⟩;have o1:=HF hc sg.city;have o2:=HF hc c.file.bill.pay;have o3:=HF hc c.file.bill.city;have o4:=HF hc r.firms[sg.who.toNat].city;generalize cQ r sg.city=x1 at*;generalize cQ r c.file.bill.pay=x2 at*;generalize cQ r c.file.bill.city=x3 at*;generalize cQ r r.firms[sg.who.toNat].city=x4 at*;have hR:∀x,(x=-1\/0<=x)->¬0<=x->x=-1:=λx h1 h2=>by omega
 have aI:¬forum<0:=by omega
 obtain⟨R,pR⟩:∃R,R=ints (if hasB [forum,x1,x2,x3,x4] (-1)=true then[] else[forum,x1,x2,x3,x4]):=⟨_,rfl⟩
 rw[<-pR];have awI:(x1=-1\/x2=-1\/x3=-1\/x4=-1)->R=.list []:=by
  intro h;have:hasB [forum,x1,x2,x3,x4] (-1)=true:=by
   simp[hasB];omega
  rw[pR,this];rfl
 have eU:¬(x1=-1\/x2=-1\/x3=-1\/x4=-1)->R=ints [forum,x1,x2,x3,x4]:=by
  intro h;have:hasB [forum,x1,x2,x3,x4] (-1)=false:=by
   cases e:hasB [forum,x1,x2,x3,x4] (-1) with
   |false=>rfl
   |true=>
    exfalso;simp[hasB] at e;omega
  rw[pR,this];rfl
 clear pR;refine aG.scan 5 (λk=>0<=[forum,x1,x2,x3,x4].getD k 0) (λk=>[.list [],.int k]) (λ_=>[]) ?_ (λk hk hj ho=>?_) (λk hk hj ho=>?_) (λhj=>?_)
 .simp
 .have h5:k=0\/k=1\/k=2\/k=3\/k=4:=by omega
  rcases h5 with rfl|rfl|rfl|rfl|rfl<;>simp at ho<;>simp[Zj,IV,Int.not_lt.2 ho,show i64.wrap 2=2 by decide,show i64.wrap 3=3 by decide,show i64.wrap 4=4 by decide,show i64.wrap 5=5 by decide,show i64.wrap 1=1 by decide]
 .have h5:k=0\/k=1\/k=2\/k=3\/k=4:=by omega
  rcases h5 with rfl|rfl|rfl|rfl|rfl<;>simp at ho<;>simp[Zj,IV,ho]
  .omega
  all_goals exact(awI (by omega)).symm
 .have a1:=hj 1 (by omega);have a2:=hj 2 (by omega);have a3:=hj 3 (by omega);have a4:=hj 4 (by omega);simp at a1 a2 a3 a4;rw[eU (by omega)];simp[Zj,IV]
  try rfl
def RH (r:Realm):Prop:=∀o,o∈r.orders->o.choices.Pairwise λa b=>a.ask≠b.ask
def qI (q:Int)(ch:Choice):Bool:=decide (ch.ask=q)
def afM {q:Int}:∀{l:List Choice},l.Pairwise (λa b=>a.ask≠b.ask)->l.find? (mz q)=(l.find? (qI q)).bind λch=>if ch.by_=0 then none else some ch
 |[],_=>rfl
 |ch::l,h=>by
  rw[aej] at h;by_cases h1:ch.ask=q
  .have hn:∀x,x∈l->x.ask≠q:=λx hx e=>h.1 x hx (h1.trans e.symm);have GJ:l.find? (mz q)=none:=by
        rw[tV];intro x hx;simp[mz,hn x hx]
   by_cases h2:ch.by_=0
   .simp[JQ,mz,qI,h1,h2];have:=GJ;unfold mz at this;simpa using this
   .simp[JQ,mz,qI,h1,h2]
  .have ih:=afM (q:=q) h.2;simp[JQ,mz,qI,h1];unfold mz qI at ih;exact ih
def ams (r:Realm)(l:List Int)(hr:r.orders.length<=100000)(hl:l.length=5)(hx:∀x,x∈l->0<=x/\x<r.orders.length):ah T 149 [aR r,ints l] (.bool true):=by
 have gn:i64.wrap ((r.orders.length:Int)-1)=(r.orders.length:Int)-1:=ax (by omega);refine zyt 162 aFG ?_;simp[acf];refine aG.forRounds l.length (λk=>[.bool false,.int k]) (λ_=>[]) ?_ (λk hk=>?_) ?_
 .simp
 .have hw:=be hk (by omega);have cj:=hx _ (bR hk);have sP:wi l[k] 0 ((r.orders.length:Int)-1)=true:=by simp[wi];omega
  simp[amZ,Qa,hk,hw,gn];refine⟨_,cI _ _ _,?_⟩;simp[sP,hw]
 .simp[amZ,Qa,hl]
def Ts (o:Order)(q:Int):Choice:=(o.choices.find? (qI q)).getD ⟨q,0,false⟩
def aBu (o:Order)(q:Int)(hl:o.choices.length<=100000):ah T 200 [iu o,.int q] (ur (Ts o q)):=by
 refine zyt 164 aFD ?_;simp[acb];unfold Ts;refine aG.scan o.choices.length (λk=>qI q (o.choices.getD k default)=false) (λk=>[.int k]) (λ_=>[.agg [.int 0,.int 0,.bool false]]) ?_ (λk hk hj aE=>?_) (λk hk hj aE=>?_) (λhj=>?_)
 .simp
 .have hw:=be hk (by omega);have hn:¬o.choices[k].ask=q:=by simpa [qI,hk] using aE
  simp[Zg,IT,hk,hw,hn]
 .have dM:=qV hk (by simpa [hk] using aE) (λj br=>by have:=hj j br;simpa [show j<o.choices.length by omega] using this);have hc:o.choices[k].ask=q:=by simpa [qI,hk] using aE
  rw[dM];simp[Zg,IT,hk,hc];subst hc;rfl
 .have dM:=sw (l:=o.choices) (p:=qI q) (λj br=>by have:=hj j br;simpa [br] using this);rw[dM];simp[Zg,IT]
  try rfl
def aBw (r:Realm)(lD:yK r)(dA:RH r)(hr:r.orders.length<=100000)(a q:Int)(l:List Int)(hf:jM r a q l=true)(hq:0<=q/\q<22):
 ah T 151 [aR r,.int a,.int q,ints l] (.tup [.int (fy r a q l).1,.bool (fy r a q l).2]):=by
 obtain⟨ha,wT,hx,_⟩:=CN hf;have gn:i64.wrap ((r.orders.length:Int)-1)=(r.orders.length:Int)-1:=ax (by omega);have oD:a.toNat<r.orders.length:=by omega
 obtain⟨bG,lF⟩:=lD _ (bR oD);have w7:=dA _ (bR oD);have zM:iI r a=r.orders[a.toNat]:=by simp[iI,oD]
 have C3:=afM (q:=q) w7;have VC:wi a 0 ((r.orders.length:Int)-1)=true:=by simp[wi];omega
 have zY:wi q 0 21=true:=by simp[wi];omega
 refine zyt 163 aFF ?_;simp[ace,gn];refine⟨_,ams r l hr wT hx,?_⟩;simp;refine⟨_,cI _ _ _,?_⟩;simp[VC];refine⟨_,cI _ _ _,?_⟩;simp[zY,oD];refine⟨ha,_,aBu _ q bG,?_⟩;unfold fy;rw[zM,C3];unfold Ts;cases dM:r.orders[a.toNat].choices.find? (qI q) with
 |none=>simp
 |some ch=>
  have hb:=lF _ (Bc dM);have CY:ch.by_.toNat<l.length:=by omega
  by_cases h0:ch.by_=0
  .simp[h0]
  .simp[h0,CY];omega
def aCc {l:List Int}{a b:Int}(h:rising l a b=true):l.Pairwise (·<·):=by
 unfold rising at h;rw[v8] at h
 have step:∀i (h1:i+1<l.length),l[i]'(by omega)<l[i+1]:=by
  intro i h1;have:=h (i+1) h1;have hi:i<l.length:=by omega
  simp[pz,h1,hi] at this;exact this.2
 rw[List.pairwise_iff_getElem];intro i j hi hj oG;obtain⟨d,rfl⟩:∃d,j=i+1+d:=⟨j-i-1,by omega⟩
 clear oG
 induction d with
 |zero=>exact step i hj
 |succ d ih=>exact Int.lt_trans (ih (by omega)) (step (i+1+d) hj)
def azT {r:Realm}(h:cT r=0):RH r:=by
 intro o ho;obtain⟨k,hk,rfl⟩:=gQ ho;have h1:=ae5 h k hk;unfold qh at h1;simp only[aA] at h1;have h2:=aCc h1.2.1;unfold yT at h2;rw[List.pairwise_map] at h2;exact h2.imp λh=>by omega
def rM (N:Nat)(p:List Int):D:=.list ((List.range N).map λ(i:Nat)=>D.bool (hasB p (i:Int)))
def aCx {N:Nat}{p:List Int}{k:Nat}(hk:k<N):(rM N p).l[k]?.getD D.none=D.bool (hasB p (k:Int)):=by
 show((List.range N).map λ(i:Nat)=>D.bool (hasB p (i:Int)))[k]?.getD D.none=_;simp[hk]
def aCy (N:Nat)(p:List Int):(rM N p).l.length=N:=by
 show((List.range N).map λ(i:Nat)=>D.bool (hasB p (i:Int))).length=N;simp
def anr {N:Nat}{p:List Int}{x:Int}(h0:0<=x):D.list ((rM N p).l.set x.toNat (D.bool true))=rM N (p++[x]):=by
 show D.list (((List.range N).map λ(i:Nat)=>D.bool (hasB p (i:Int))).set x.toNat (D.bool true))=_;unfold rM
 congr 1
 apply JP
 .simp
 .intro i h1 h2;simp at h2;rw[aed];by_cases h:x.toNat=i
  .have hx:x=(i:Int):=by omega
   simp[h,hx,hasB]
  .have hx:¬(i:Int)=x:=by omega
   have e:hasB (p++[x]) (i:Int)=hasB p (i:Int):=by
        simp[hasB,hx];intro e;exact absurd e.symm hx
   simp[h,e]
@[simp] def aOD (x y:Bool):tG (D.bool x) 0 (D.bool y)=D.bool y:=zyw
def aBv (r:Realm)(lD:yK r)(dA:RH r)(hn:r.orders.length<=100000)(a q:Int)(l:List Int)(hf:jM r a q l=true)(hq:0<=q/\q<22)(avd:l.getD 0 0=a):
 ah T 94 [aR r,.int a,.int q,ints l] (.tup [ints (de r a q l).1,.int (de r a q l).2]):=by
 obtain⟨ha,wT,hx,mf⟩:=CN hf;have h0:0<l.length:=by omega
 have pW:l[0]=a:=by simpa [h0] using avd
 have hE:de r a q l=iX r q l r.orders.length [a]:=by unfold de;rw[if_pos ⟨hf,by simp[h0,pW]⟩]
 have gn:i64.wrap ((r.orders.length:Int)-1)=(r.orders.length:Int)-1:=ax (by omega);have VC:wi a 0 ((r.orders.length:Int)-1)=true:=by simp[wi];omega
 have zY:wi q 0 21=true:=by simp[wi];omega
 have oD:a.toNat<r.orders.length:=by omega
 rw[hE];refine zyt 161 aFE ?_;simp[acd,gn];refine⟨_,ams r l hn wT hx,?_⟩;simp;refine⟨_,cI _ _ _,?_⟩;simp[VC];refine⟨_,cI _ _ _,?_⟩;simp[zY,h0,pW];refine⟨by omega,ha,?_⟩;refine aG.forLoop (α:=Nat×List Int) (λs vr vo=>(∃x,vr=[.list [],.int 0,x,.int ((r.orders.length-s.1:Nat):Int)])/\vo=[rM r.orders.length s.2,ints s.2]/\s.2.Nodup/\(∀x,x∈s.2->0<=x/\x<(r.orders.length:Int))/\s.2≠[]/\s.1+s.2.length=r.orders.length+1/\iX r q l s.1 s.2=iX r q l r.orders.length [a]) (λs=>s.1) (r.orders.length,[a]) ?_ ?_
 .have sK:D.list ((List.replicate r.orders.length (D.bool false)).set a.toNat (D.bool true))=rM r.orders.length [a]:=by
   have h1:(rM r.orders.length [])=D.list (List.replicate r.orders.length (D.bool false)):=by
        unfold rM
        congr 1
        apply JP
        .simp
        .intro i h1 h2;simp[hasB]
   have h2:=anr (N:=r.orders.length) (p:=[]) (x:=a) ha.1;rw[h1] at h2;exact h2
  simp[ints,oD,sK];exact ha
 .rintro⟨n,p⟩ vr vo ⟨⟨x0,rfl⟩,rfl,bX,cj,aI,hlen,uK⟩;simp only at*;have eL:p.length<=r.orders.length:=O4 _ p bX cj;have zN:0<p.length:=A9.mpr aI;obtain⟨m,rfl⟩:∃m,n=m+1:=⟨n-1,by omega⟩
  have aq:p.length-1<p.length:=by omega
  have gZ:cB p=p[p.length-1]:=by simp[cB,aq]
  have oI:=cj _ (bR aq);rw[<-gZ] at oI;have zt:=aBw r lD dA hn (cB p) q l (mf _ oI.1 oI.2) hq;obtain⟨_,fq,fu⟩:=Rt r lD (cB p) q l (by omega) (mf _ oI.1 oI.2);have wV:((p.length:Int)-1).toNat=p.length-1:=by omega
  have zZ:i64.wrap ((p.length:Int)-1)=(p.length:Int)-1:=ax (by omega);rw[<-uK,Hj];obtain⟨L,hL⟩:∃L,L=fy r (cB p) q l:=⟨_,rfl⟩
  rw[<-hL] at zt fq fu ⊢;obtain⟨to,whole⟩:=L;simp only at zt fq fu;have nf:to.toNat<r.orders.length:=by omega
  have zM:iI r to=r.orders[to.toNat]:=by simp[iI,nf]
  simp only[zM];have hk:((r.orders.length-(m+1):Nat):Int)<=r.orders.length:=by omega
  have hkw:i64.wrap (((r.orders.length-(m+1):Nat):Int)+1)=((r.orders.length-m:Nat):Int):=by rw[ax (by omega)];omega
  simp[aBR,Zh,zZ,wV,aq,<-gZ,ints,hk];refine⟨by omega,_,zt,by omega,?_⟩;by_cases h1:to=cB p
  .simp[h1]
  simp[h1];refine⟨by omega,?_⟩;cases whole
  .simp
  have dO:=aCx (N:=r.orders.length) (p:=p) nf;have G2:((to.toNat:Nat):Int)=to:=by omega
  rw[G2] at dO
  have dy:∀h:to.toNat<(rM r.orders.length p).l.length,(rM r.orders.length p).l[to.toNat]=D.bool (hasB p to):=λh=>by
   rw[cd h] at dO;exact dO
  simp[aCy,dy,nf,fq,fu,anr];cases h2:hasB p to
  .have eK:to∉p:=λhm=>by
        have:hasB p to=true:=by simp[hasB,hm]
        rw[h2] at this;cases this
   simp[h2];refine⟨m,by omega,hkw,p++[to],⟨rfl,by simp⟩,?_,?_,by simp,by simp;omega,rfl⟩
   .exact EJ.mpr ⟨bX,by simp,λx hx y hy=>by simp at hy;subst hy;exact λe=>eK (e▸hx)⟩
   .intro x hx;rcases dT.mp hx with h|h
    .exact cj x h
    .simp at h;subst h;exact⟨fq,fu⟩
  .cases h3:r.orders[to.toNat].accepts<;>simp[h2,h3,nf]
def V1 (L:Nat)(t:Tm):1<=bz L t:=xD L t
def anz:∀(L:Nat) (t:Tm) (n:Int),0<=n->n<=60->(bz L t<=n->gx L t n=n-bz L t)/\(n<bz L t->gx L t n<0)
 |0,t,n,h0,h1=>by
  refine⟨λh=>?_,λ_=>by simp[gx]⟩;simp[bz] at h;omega
 |L+1,t,n,h0,h1=>by
  have key:∀(l:List Tm) (m:Int),1<=m->m<=60->
    (dh (bz L) l m<=n->l.foldl (λm a=>if 0<=m then gx L a m else m) (n-m)=n-dh (bz L) l m)/\(n<dh (bz L) l m->l.foldl (λm a=>if 0<=m then gx L a m else m) (n-m)<0):=by
   intro l
   induction l with
   |nil=>
    intro m zJ uN;simp only[dh,List.foldl_nil];exact⟨λ_=>trivial,λh=>by omega⟩
   |cons a l ih=>
    intro m zJ uN;have hp:=V1 L a;simp only[A8,dh];by_cases hn:0<=n-m
    .rw[if_pos hn];obtain⟨s1,s2⟩:=anz L a (n-m) hn (by omega);by_cases hle:bz L a<=n-m
     .rw[s1 hle];have e:n-m-bz L a=n-(m+bz L a):=by omega
      rw[e,if_neg (by omega)];exact ih (m+bz L a) (by omega) (by omega)
     .have ag3:=s2 (by omega);rw[QF L l _ ag3];have Gy:n<(if 60<m+bz L a then m+bz L a else dh (bz L) l (m+bz L a)):=by
        split
        .omega
        .have:m+bz L a<=dh (bz L) l (m+bz L a):=by
             have gen:∀(l:List Tm) (x:Int),x<=dh (bz L) l x:=by
               intro l
               induction l with
               |nil=>intro x;simp[dh]
               |cons b l p9=>
                intro x;have hb:=V1 L b;simp only[dh];split
                .omega
                .have:=p9 (x+bz L b);omega
             exact gen l _
         omega
      exact⟨λh=>by omega,λ_=>ag3⟩
    .rw[if_neg hn,QF L l _ (by omega)];have gen:∀(l:List Tm) (x:Int),x<=dh (bz L) l x:=by
       intro l
       induction l with
       |nil=>intro x;simp[dh]
       |cons b l p9=>
        intro x;have hb:=V1 L b;simp only[dh];split
        .omega
        .have:=p9 (x+bz L b);omega
     have Gy:n<(if 60<m+bz L a then m+bz L a else dh (bz L) l (m+bz L a)):=by
       have:=gen l (m+bz L a);split<;>omega
     exact⟨λh=>by omega,λ_=>by omega⟩
  show(dh (bz L) t.args 1<=n->_)/\(n<dh (bz L) t.args 1->_)
  exact key t.args 1 (by omega) (by omega)
def anx (t:Tm):gx 8 t 60<0↔60<bz 8 t:=by
 obtain⟨h1,h2⟩:=anz 8 t 60 (by omega) (by omega);constructor
 .intro h;refine EA λhc=>?_;have:=h1 (by omega);omega
 .exact h2
def fm (op:Int):Int:=if op=0\/op=1\/op=2 then 0 else if op=3 then 1 else if op=6 then 3 else 2
def aBn (op:Int):ah T 261 [.int op] (.int (fm op)):=by
 refine zyt 170 aFp ?_;unfold fm;by_cases h0:op=0
 .simp[yo,h0]
 by_cases h1:op=1
 .simp[yo,h0,h1]
 by_cases h2:op=2
 .simp[yo,h0,h1,h2]
 by_cases h3:op=3
 .simp[yo,h0,h1,h2,h3]
 by_cases h6:op=6
 .simp[yo,h0,h1,h2,h3,h6]
 .simp[yo,h0,h1,h2,h3,h6]
def amm (v:Int):ah T 264 [.int v] (.tup [.int (kA v).1,.bool (kA v).2]):=by
 refine zyt 172 aFo ?_;unfold kA;by_cases h1:v<0
 .simp[Ep,h1]
 by_cases h2:19<v
 .simp[Ep,h1,h2,show 20<=v by omega]
 by_cases h3:v<7
 .simp[Ep,h1,h2,h3,show ¬20<=v by omega,show v<=6 by omega]
 .simp[Ep,h1,h2,h3,show ¬20<=v by omega,show ¬v<=6 by omega]
def aBp (t:Tm)(ha:t.args.length=0)(ho:t.op=0\/t.op=1\/t.op=2):ah T 262 [dx t] (.tup [.int (sT t).1,.int (sT t).2]):=by
 have hv:=amm t.n;refine zyt 171 aFs ?_;unfold sT;rw[if_neg (by omega)];by_cases h0:t.op=0
 .have hc:mc t.n≠t.n↔t.n< -1099511627776\/1099511627776<t.n:=by unfold mc;omega
  by_cases h:t.n< -1099511627776\/1099511627776<t.n
  .rw[if_pos h0,if_pos (hc.2 h)];simp[yp,h0,h]
  .rw[if_pos h0,if_neg (λe=>h (hc.1 e))];simp[yp,h0,h]
 by_cases h1:t.op=1
 .by_cases h:t.n=0
  .simp[yp,h0,h1,h]
  by_cases h':t.n=1
  .simp[yp,h0,h1,h']
  .have:t.n<0\/1<t.n:=by omega
   simp[yp,h0,h1,h,h',this]
 .simp[yp,h0,h1];refine⟨_,hv,?_⟩;cases h2:(kA t.n).2<;>simp[h2]
def Dw (op:Int)(l:List Int):Int×Bool:=
 if op=3 then(1,decide (l.getD 0 0=1)) else if op=4\/op=5 then(1,decide (l.getD 0 0=1)&&decide (l.getD 1 0=1))
 else if op=6 then(l.getD 1 0,decide (l.getD 0 0=1)&&decide (l.getD 1 0=l.getD 2 0)) else if op=7 then(1,decide (l.getD 0 0=0)&&decide (l.getD 1 0=0))
 else if op=8 then(1,decide (l.getD 0 0=l.getD 1 0)) else(0,decide (l.getD 0 0=0)&&decide (l.getD 1 0=0))
def aBo (op:Int)(l:List Int)(h1:1<=l.length)(h2:op≠3->2<=l.length)(h3:op=6->3<=l.length):ah T 263 [.int op,ints l] (.tup [.int (Dw op l).1,.bool (Dw op l).2]):=by
 have g0:0<l.length:=by omega
 refine zyt 173 aFr ?_;unfold Dw;by_cases o3:op=3
 .simp[vI,o3,g0]
 have g1:1<l.length:=by have:=h2 o3;omega
 have dW:(1:Int)<l.length:=by omega
 by_cases o4:op=4
 .by_cases e0:l[0]=1<;>simp[vI,o4,g0,g1,dW,e0]
 by_cases o5:op=5
 .by_cases e0:l[0]=1<;>simp[vI,o5,g0,g1,dW,e0]
 by_cases o6:op=6
 .have g2:2<l.length:=by have:=h3 o6;omega
  have ly:(2:Int)<l.length:=by omega
  by_cases e0:l[0]=1<;>simp[vI,o6,g0,g1,g2,dW,ly,e0]
 by_cases o7:op=7
 .by_cases e0:l[0]=0<;>simp[vI,o7,g0,g1,dW,e0]
 by_cases o8:op=8
 .simp[vI,o8,g0,g1,dW]
 .by_cases e0:l[0]=0<;>simp[vI,o3,o4,o5,o6,o7,o8,g0,g1,dW,e0]
def axc {α:Type}{l:List α}(h:l.length=1):∃a,l=[a]:=by
 match l,h with
 |[a],_=>exact⟨a,rfl⟩
def axd {α:Type}{l:List α}(h:l.length=2):∃a b,l=[a,b]:=by
 match l,h with
 |[a,b],_=>exact⟨a,b,rfl⟩
def axe {α:Type}{l:List α}(h:l.length=3):∃a b c,l=[a,b,c]:=by
 match l,h with
 |[a,b,c],_=>exact⟨a,b,c,rfl⟩
def azK (t:Tm)(ks:List Int)(hk:ks.length=t.args.length)(dI:∀x,x∈ks->x=0\/x=1):sX t ks=if t.op<0\/13<t.op then(0,1) else if(ks.length:Int)≠fm t.op\/(0<fm t.op/\t.n≠0) then(0,2) else
 if fm t.op=0 then sT t else if(Dw t.op ks).2=false then(0,11) else((Dw t.op ks).1,0):=by
 unfold sX;by_cases h0:t.op<0\/13<t.op
 .rw[if_pos h0,if_pos h0]
 rw[if_neg h0,if_neg h0];by_cases hl:t.op=0\/t.op=1\/t.op=2
 .have ha:fm t.op=0:=by unfold fm;rw[if_pos hl]
  rw[if_pos hl,ha];by_cases hz:ks.length=0
  .rw[if_neg (by omega),if_pos rfl]
  .rw[if_pos (by omega)];unfold sT;rw[if_pos (by omega)]
 rw[if_neg hl];have hr:3<=t.op/\t.op<=13:=by omega
 have wK:fm t.op=((dL t.op).1.length:Int):=by
  unfold fm dL;rw[if_neg hl];by_cases o3:t.op=3
  .simp[o3]
  by_cases o6:t.op=6
  .simp[o6]
  rw[if_neg o3,if_neg o6];split
  .omega
  split
  .rfl
  split
  .rfl
  split<;>rfl
 by_cases hc:ks.length≠(dL t.op).1.length\/t.n≠0
 .rw[if_pos hc,if_pos];rw[wK];have:1<=(dL t.op).1.length:=by
   unfold dL
   repeat' split
   all_goals simp
  omega
 have hB:¬((ks.length:Int)≠fm t.op\/(0<fm t.op/\t.n≠0)):=by rw[wK];omega
 rw[if_neg hc,if_neg hB];clear hB;have aI:fm t.op≠0:=by
  unfold fm;rw[if_neg hl]
  repeat' split
  all_goals omega
 rw[if_neg aI];have hlen:ks.length=(dL t.op).1.length:=by omega
 by_cases o3:t.op=3
 .simp[dL,o3] at hlen;obtain⟨a,rfl⟩:=axc hlen;rw[o3];rcases dI a (by simp) with rfl|rfl<;>rfl
 have two:ks.length=2->∃a b,ks=[a,b]/\(a=0\/a=1)/\(b=0\/b=1):=λh=>by
  obtain⟨a,b,rfl⟩:=axd h;exact⟨a,b,rfl,dI a (by simp),dI b (by simp)⟩
 by_cases o6:t.op=6
 .simp[dL,o6] at hlen;obtain⟨a,b,c,rfl⟩:=axe hlen;rcases dI a (by simp) with rfl|rfl<;>rcases dI b (by simp) with rfl|rfl<;>rcases dI c (by simp) with rfl|rfl<;>rw[o6]<;>rfl
 have aha:t.op=4\/t.op=5\/t.op=7\/t.op=8\/t.op=9\/t.op=10\/t.op=11\/t.op=12\/t.op=13:=by omega
 have Dc:ks.length=2:=by
  rw[hlen];rcases aha with h|h|h|h|h|h|h|h|h<;>rw[h]<;>rfl
 obtain⟨a,b,rfl,ha,hb⟩:=two Dc;rcases aha with h|h|h|h|h|h|h|h|h<;>rw[h]<;>rcases ha with rfl|rfl<;>rcases hb with rfl|rfl<;>rfl
def apD {op:Int}(h:fm op=0):op=0\/op=1\/op=2:=by
 unfold fm at h;split at h
 .assumption
 .exfalso
  repeat' split at h
  all_goals omega
def Ye:∀(L:Nat) (t:Tm),t.OK->bz L t<=60->ah T 236 [dx t] (.tup [.int (bE L t).1,.int (bE L t).2])
 |0,t,ht,hm=>by simp[bz] at hm
 |L+1,t,ht,hm=>by
  refine zyt 169 aFw ?_;obtain⟨hl,hp⟩:=Hs hm;simp[ab4];refine pB t.args.length (λk=>(bE L (t.args.getD k default)).2) (λk=>[.int 0,.int 0,.none,.int k]) (λk=>[ints ((t.args.map λa=>(bE L a).1).take k)]) ?_ (λk hk ho=>?_) (λk hk ho hb=>?_) (λhj=>?_)
  .simp[ints]
  .have hw:=be hk (by omega);have cY:=bR hk;have fK:=Ye L t.args[k] (ht.arg cY) (hp _ cY);have Gx:(t.args.map λa=>(bE L a).1)[k]'(by simpa using hk)=(bE L t.args[k]).1:=by simp
   have Vu:(t.args.map λa=>(bE L a).1).take (k+1)=(t.args.map λa=>(bE L a).1).take k++[(bE L t.args[k]).1]:=by
    rw[gA (by simpa using hk),Gx]
   have hlen:((t.args.map λa=>(bE L a).1).take k).length=k:=by simp;omega
   rw[Vu];generalize (t.args.map λa=>(bE L a).1).take k=A at*;simp[hk] at ho;rw[ho] at fK;generalize (bE L t.args[k]).1=kd at*;simp[Zd,IP,hk];refine⟨_,fK,?_⟩;simp[hlen,hk,hw,ints];omega
  .have cY:=bR hk;have fK:=Ye L t.args[k] (ht.arg cY) (hp _ cY);have hf:bE (L+1) t=(0,(bE L (t.args.getD k default)).2):=by
    rw[FG,hb,if_pos ho]
   rw[hf];simp[hk] at ho ⊢;simp[Zd,IP,hk];refine⟨_,fK,?_⟩;simp[ho]
  .have hf:bE (L+1) t=sX t (t.args.map λa=>(bE L a).1):=by
    rw[FG,hj];simp
   have dI:∀x,x∈(t.args.map λa=>(bE L a).1)->x=0\/x=1:=by
    intro x hx;obtain⟨a,ha,rfl⟩:=fF.1 hx;obtain⟨k,hk,rfl⟩:=gQ ha;have hz:(bE L t.args[k]).2=0:=by
     have:=(M4.1 hj) k hk;simpa [hk] using this
    cases L with
    |zero=>have:=hp _ ha;simp[bz] at this
    |succ L=>exact(FH (L:=L) (t:=t.args[k]) (k:=(bE (L+1) t.args[k]).1) (by rw[<-hz])).2
   rw[hf,azK t _ (by simp) dI];have uM:(t.args.map λa=>(bE L a).1).length=t.args.length:=by simp
   have e0:(t.args.map λa=>(bE L a).1).take t.args.length=t.args.map λa=>(bE L a).1:=by rw[<-uM,yO]
   rw[e0];generalize (t.args.map λa=>(bE L a).1)=ks at*;simp[Zd,IP];by_cases h0:t.op<0\/13<t.op
   .have eH:t.op<0\/14<=t.op:=by omega
    simp[h0,eH]
   have eH:¬(t.op<0\/14<=t.op):=by omega
   simp[h0,eH];refine⟨_,aBn t.op,?_⟩;by_cases h1:(ks.length:Int)≠fm t.op\/(0<fm t.op/\t.n≠0)
   .rw[if_pos h1];have cu:¬(ks.length:Int)=fm t.op\/(0<fm t.op/\¬t.n=0):=h1;simp[cu]
   rw[if_neg h1];have cu:¬(¬(ks.length:Int)=fm t.op\/(0<fm t.op/\¬t.n=0)):=h1;simp[cu];by_cases h2:fm t.op=0
   .have dB:=apD h2;simp[h2];refine⟨_,aBp t (by omega) dB,?_⟩;simp
   have dB:¬(t.op=0\/t.op=1\/t.op=2):=by
    intro h;apply h2;unfold fm;rw[if_pos h]
   have bC:1<=ks.length:=by
    have:1<=fm t.op:=by
     unfold fm;rw[if_neg dB]
     repeat' split
     all_goals omega
    omega
   simp[h2];refine⟨_,aBo t.op ks bC (λh3=>?_) (λh6=>?_),?_⟩
   .have:2<=fm t.op:=by
     unfold fm;rw[if_neg dB,if_neg h3];split<;>omega
    omega
   .have:fm t.op=3:=by rw[h6];rfl
    omega
   .cases h3:(Dw t.op ks).2<;>simp[h3]
def amk (t:Tm)(ht:t.OK):ah T 201 [dx t] (.tup [.int (kh t).1,.int (kh t).2]):=by
 refine zyt 168 aFi ?_;simp[abY,kh];refine⟨_,Yd 8 t 60 ht (by omega) (by omega) (by omega),?_⟩;by_cases h:60<bz 8 t
 .have:=(anx t).2 h;simp[h,this]
 have hn:¬gx 8 t 60<0:=λe=>h ((anx t).1 e);simp[h,hn];refine⟨_,Ye 8 t ht (by omega),?_⟩;simp
def Yc (n:Int):ah T 265 [.int n] (.int (mc n)):=by
 refine zyt 179 aFj ?_;unfold mc;by_cases h1:n< -1099511627776
 .simp[Q4];split<;>split<;>simp<;>omega
 .simp[Q4];split<;>split<;>simp<;>omega
def amp (b:Bool):ah T 266 [.bool b] (ct (fj b)):=by
 refine zyt 182 aFv ?_;cases b<;>simp[ab3]<;>rfl
def aBm (v:Int)(cs:List Cell)(hv:0<=v):ah T 237 [.int v,cells cs] (ct (kz cs v)):=by
 obtain⟨k,rfl⟩:=eC hv;refine zyt 178 aFn ?_;simp[ab1,kz,cellAt];by_cases h1:cs.length<=k
 .have T6:(cs.length:Int)<=k:=by omega
  simp[h1,T6]
 have cu:k<cs.length:=by omega
 have T6:¬(cs.length:Int)<=k:=by omega
 simp[h1,cu,T6];cases h2:cs[k].known
 .simp[h2]
 simp[h2];refine⟨_,amm _,?_⟩;rcases aow k with h3|h3
 .simp[h3];refine⟨_,Yc _,?_⟩;simp;rfl
 .simp[h3];by_cases h4:cs[k].n=0
  .simp[h4];rfl
  .simp[h4];rfl
def amo (a b:Cell)(alone:Int)(h:alone=0\/alone=1):ah T 238 [ct a,ct b,.int alone] (ct (if(a.known=true/\a.n=alone)\/(b.known=true/\b.n=alone) then⟨true,alone⟩ else if a.known=true/\b.known=true then⟨true,1-alone⟩ else dj)):=by
 have hw:i64.wrap (1-alone)=1-alone:=ax (by omega);refine zyt 180 aFt ?_;obtain⟨ka,na⟩:=a;obtain⟨kb,nb⟩:=b;by_cases e1:na=alone<;>by_cases e2:nb=alone<;>cases ka<;>cases kb<;>simp[ab2,e1,e2,hw]<;>rfl
def aBl (a b:Int)(ha:-1099511627776<=a/\a<=1099511627776)(hb:-1099511627776<=b/\b<=1099511627776):ah T 267 [.int a,.int b] (.int (ru a b)):=by
 refine zyt 183 aFm ?_;by_cases h0:a=0\/b=0
 .have hz:ru a b=0:=by
   unfold ru nr;rcases h0 with rfl|rfl<;>simp
  rw[hz];simp[Q5,h0]
 obtain⟨x,hx⟩:∃x,x=(if a< -a then-a else a):=⟨_,rfl⟩
 obtain⟨y,hy⟩:∃y,y=(if b< -b then-b else b):=⟨_,rfl⟩
 have lK:x=(a.natAbs:Int):=by rw[hx];split<;>omega
 have N4:y=(b.natAbs:Int):=by rw[hy];split<;>omega
 have jQ:1<=x/\x<=1099511627776:=by omega
 have VH:1<=y/\y<=1099511627776:=by omega
 have wa:i64.wrap (0-a)=-a:=by rw[ax (by omega)];omega
 have wb:i64.wrap (0-b)=-b:=by rw[ax (by omega)];omega
 have wa':i64.wrap (-a)=-a:=ax (by omega);have wb':i64.wrap (-b)=-b:=ax (by omega);simp[Q5,h0,wa,wb,wa',wb',<-hx,<-hy];refine⟨by omega,?_⟩;have hq:Int.tdiv 1099511627776 y=1099511627776/y:=l6 (by omega);have sH:0<=(1099511627776:Int)/y:=Rq (by omega) (by omega);have w9:(1099511627776:Int)/y<=1099511627776:=Int.ediv_le_self _ (by omega);have zY:i64.wrap (Int.tdiv 1099511627776 y)=1099511627776/y:=by rw[hq];exact ax (by omega)
 have aq:(1099511627776:Int)/y<x↔1099511627776<x*y:=Int.ediv_lt_iff_lt_mul (by omega);obtain⟨m,hm⟩:∃m:Nat,m=a.natAbs*b.natAbs:=⟨_,rfl⟩
 have hmx:(m:Int)=x*y:=by rw[hm,lK,N4];exact Int.natCast_mul _ _
 have hp:ru a b=if(a<0↔b<0) then nr m else-nr m:=by
  unfold ru;rw[<-hm];by_cases c1:a<0<;>by_cases c2:b<0<;>simp[c1,c2]
 have hpn:nr m=if 1099511627776<x*y then 1099511627776 else x*y:=by
  unfold nr;rw[<-hmx];split<;>split<;>omega
 rw[hp,hpn,zY];by_cases hc:1099511627776<x*y
 .have mY:=aq.2 hc;rw[if_pos hc,if_pos mY,if_pos mY];split<;>rfl
 .have mY:¬(1099511627776:Int)/y<x:=λe=>hc (aq.1 e);rw[if_neg hc,if_neg mY,if_neg mY];have zN:0<=x*y:=by rw[<-hmx];omega
  split
  .exact ax (by omega)
  .rw[ax (n:=-x) (by omega),Int.neg_mul];exact ax (by omega)
def aBq (op a b:Int)(ha:9<=op->-1099511627776<=a/\a<=1099511627776)(hb:9<=op->-1099511627776<=b/\b<=1099511627776)(ho:7<=op):
 ah T 239 [.int op,.int a,.int b] (ct (if op=7 then fj (decide (a<b)) else if op=8 then fj (decide (a=b)) else⟨true,uh op a b⟩)):=by
 refine zyt 181 aFu ?_;unfold uh;by_cases h7:op=7
 .simp[vJ,h7];refine⟨_,amp _,?_⟩;simp
  try rfl
 by_cases h8:op=8
 .simp[vJ,h8];refine⟨_,amp _,?_⟩;simp
  try rfl
 have a1:=ha (by omega);have b1:=hb (by omega);have w1:i64.wrap (a+b)=a+b:=ax (by omega);have w2:i64.wrap (a-b)=a-b:=ax (by omega);by_cases h9:op=9
 .simp[vJ,h9,w1];refine⟨_,Yc _,?_⟩;simp
  try rfl
 by_cases gX:op=10
 .simp[vJ,gX,w2];refine⟨_,Yc _,?_⟩;simp
  try rfl
 by_cases pQ:op=11
 .simp[vJ,pQ];refine⟨_,aBl a b a1 b1,?_⟩;simp
  try rfl
 by_cases lC:op=12
 .simp[vJ,lC];have e:(if b<a then D.int b else D.int a)=D.int (min a b):=by
   split
   .rw[EF (by omega)]
   .rw[EE (by omega)]
  rw[e];rfl
 .simp[vJ,h7,h8,h9,gX,pQ,lC];have e:(if a<b then D.int b else D.int a)=D.int (max a b):=by
   split
   .rw[ad5 (by omega)]
   .rw[Rr (by omega)]
  rw[e];rfl
def amn:∀(L:Nat) (cs:List Cell) (t:Tm) (k:Int),t.OK->bz L t<=60->bE L t=(k,0)->ah T 203 [dx t,cells cs] (ct (bo L cs t))
 |0,cs,t,k,ht,hm,hc=>by simp[bz] at hm
 |L+1,cs,t,k,ht,hm,hc=>by
  refine zyt 177 aFq ?_;obtain⟨hl,hp⟩:=Hs hm;obtain⟨ha,_⟩:=MS hc;obtain⟨hn,au6⟩:=FH hc;have fK:∀a,a∈t.args->ah T 203 [dx a,cells cs] (ct (bo L cs a)):=λa cP=>amn L cs a (bE L a).1 (ht.arg cP) (hp a cP) (by rw[<-ha a cP]);have p6:∀a,a∈t.args->se (bE L a).1 (bo L cs a):=λa cP=>TO cs (show bE L a=((bE L a).1,0) by rw[<-ha a cP]);by_cases dI:t.op=0\/t.op=1
  .have e1:bo (L+1) cs t=⟨true,t.n⟩:=by rw[zi,if_pos dI]
   rw[e1];rcases dI with h|h<;>simp[JD,h]<;>rfl
  have o0:t.op≠0:=λh=>dI (.inl h);have o1:t.op≠1:=λh=>dI (.inr h);by_cases o2:t.op=2
  .have hv:0<=t.n:=by
    cases hn with
    |var h0 ha hn=>exact hn.1
    |_=>omega
   have e1:bo (L+1) cs t=kz cs t.n:=by rw[zi,if_neg dI,if_pos o2]
   rw[e1];simp[JD,o2];refine⟨_,aBm t.n cs hv,?_⟩;simp
   try rfl
  have e1:bo (L+1) cs t=if t.op=6/\(bq (t.args.map (bo L cs)) 0).known=true then bq (t.args.map (bo L cs)) (2-(bq (t.args.map (bo L cs)) 0).n).toNat else eR t.op (t.args.map (bo L cs)):=by
   rw[zi,if_neg dI,if_neg o2]
  rw[e1];simp[JD,o0,o1,o2];refine aG.forRounds t.args.length (λk=>[.none,.int k]) (λk=>[cells ((t.args.map (bo L cs)).take k)]) ?_ (λk hk=>?_) ?_
  .simp[cells]
  .have hw:=be hk (by omega);have cY:=bR hk;have hr:=fK _ cY;have Gx:(t.args.map (bo L cs))[k]'(by simpa using hk)=bo L cs t.args[k]:=by simp
   have Vu:(t.args.map (bo L cs)).take (k+1)=(t.args.map (bo L cs)).take k++[bo L cs t.args[k]]:=by
    rw[gA (by simpa using hk),Gx]
   have hlen:((t.args.map (bo L cs)).take k).length=k:=by simp;omega
   rw[Vu];generalize (t.args.map (bo L cs)).take k=A at*;generalize bo L cs t.args[k]=c at*;simp[vD,rI,hk];refine⟨_,hr,?_⟩;simp[hlen,hk,hw,cells];omega
  .have lA:(t.args.map (bo L cs)).length=t.args.length:=by simp
   have e0:(t.args.map (bo L cs)).take t.args.length=t.args.map (bo L cs):=by rw[<-lA,yO]
   rw[e0];have val:∀(k:Int) (c:Cell),se k c->c=dj\/c.known=true/\(k=1->c.n=0\/c.n=1)/\(k=0->-1099511627776<=c.n/\c.n<=1099511627776):=by
    intro k c hr;cases e:c.known with
    |false=>exact .inl (hr.1 e)
    |true=>exact .inr ⟨rfl,hr.2 e⟩
   by_cases h7:7<=t.op
   .obtain⟨k',hk,h13,h9⟩:∃k',t.args.map (λa=>(bE L a).1)=[k',k']/\t.op<=13/\(9<=t.op->k'=0):=by
     cases hn with
     |less o hk=>exact⟨0,hk,by omega,λ_=>rfl⟩
     |equal k o hk=>exact⟨k,hk,by omega,λ_=>by omega⟩
     |num o hk=>exact⟨0,hk,by omega,λ_=>rfl⟩
     |log h0 hk=>omega
     |_=>omega
    obtain⟨a,b,iU,ea,eb⟩:=xB hk;have q5:t.args.length=2:=by rw[iU];rfl
    have ra:=p6 a (by simp[iU]);rw[ea] at ra;have rb:=p6 b (by simp[iU]);rw[eb] at rb;rw[iU];simp only[j6,EI,nM,sc];generalize bo L cs a=A at*;generalize bo L cs b=B at*;have o3:¬t.op=3:=by omega
    have o4:¬t.op=4:=by omega
    have o5:¬t.op=5:=by omega
    have o6:¬t.op=6:=by omega
    have ec:eR t.op [A,B]=if A.known=false\/B.known=false then dj else if t.op=7 then fj (decide (A.n<B.n)) else if t.op=8 then fj (decide (A.n=B.n)) else⟨true,uh t.op A.n B.n⟩:=by
     unfold eR;rw[if_neg o3,if_neg (by omega),if_neg o6];have:¬(t.op=4\/t.op=5):=by omega
     rw[if_neg this];rfl
    rw[if_neg (by omega),ec];cases e1:A.known<;>cases e2:B.known<;>simp[vD,rI,q5,o3,o4,o5,o6,cells,e1,e2]
    .have b1:9<=t.op->-1099511627776<=A.n/\A.n<=1099511627776:=λh=>(ra.2 e1).2 (h9 h);have b2:9<=t.op->-1099511627776<=B.n/\B.n<=1099511627776:=λh=>(rb.2 e2).2 (h9 h);refine⟨_,aBq t.op A.n B.n b1 b2 h7,?_⟩;simp
     try rfl
   cases hn with
   |int h0 ha hn=>omega
   |bool h0 ha hn=>omega
   |var h0 ha hn=>omega
   |not o3 hk=>
    obtain⟨a,iU,e⟩:=aiq hk;have q5:t.args.length=1:=by rw[iU];rfl
    have ra:=p6 a (by simp[iU]);rw[e] at ra;rw[iU];simp only[j6,EI,nM,sc];generalize bo L cs a=A at*;rcases val _ _ ra with rfl|⟨h1,h2,_⟩
    .simp[vD,rI,q5,o3,eR,cells,bq,dj]
    .obtain⟨ka,na⟩:=A;simp at h1;subst h1;rcases h2 rfl with h|h<;>simp at h<;>subst h<;>simp[vD,rI,q5,o3,eR,cells,bq]<;>rfl
   |log DK hk=>
    obtain⟨a,b,iU,ea,eb⟩:=xB hk;have q5:t.args.length=2:=by rw[iU];rfl
    have ra:=p6 a (by simp[iU]);rw[ea] at ra;have rb:=p6 b (by simp[iU]);rw[eb] at rb;rw[iU];simp only[j6,EI,nM,sc];generalize bo L cs a=A at*;generalize bo L cs b=B at*;have key:∀al:Int,(al=0\/al=1)->t.op=4+al->(if(A.known=true/\A.n=al)\/(B.known=true/\B.n=al) then(⟨true,al⟩:Cell) else if A.known=true/\B.known=true then⟨true,1-al⟩ else dj)=eR t.op [A,B]:=by
     intro al mf dB;rw[dB];have v3:∀c:Cell,se 1 c->c=dj\/c=⟨true,0⟩\/c=⟨true,1⟩:=by
        intro c hr;rcases val _ _ hr with h|⟨h,h2,_⟩
        .exact .inl h
        .rcases h2 rfl with h3|h3
         .exact .inr (.inl ((Ku _ _).2 ⟨h,h3⟩))
         .exact .inr (.inr ((Ku _ _).2 ⟨h,h3⟩))
     rcases v3 _ ra with rfl|rfl|rfl<;>rcases v3 _ rb with rfl|rfl|rfl<;>rcases mf with rfl|rfl<;>rfl
    rcases DK with o|o
    .rw[if_neg (by omega),<-key 0 (.inl rfl) o];simp[vD,rI,q5,o,cells];refine⟨_,amo A B 0 (.inl rfl),?_⟩;simp
     try rfl
    .rw[if_neg (by omega),<-key 1 (.inr rfl) o];simp[vD,rI,q5,o,cells];refine⟨_,amo A B 1 (.inr rfl),?_⟩;simp
     try rfl
   |ite k o6 hk=>
    obtain⟨a,b,c,iU,ea,eb,ec⟩:=Oh hk;have q5:t.args.length=3:=by rw[iU];rfl
    have ra:=p6 a (by simp[iU]);rw[ea] at ra;have w2:i64.wrap 2=2:=ax (by omega);rw[iU];simp only[j6,EI,nM,sc];generalize bo L cs a=A at*;generalize bo L cs b=B at*;generalize bo L cs c=C at*;rcases val _ _ ra with rfl|⟨h1,h2,_⟩
    .by_cases g:B.known=true/\B=C
     .have gg:=g.2;have gk:=g.1;subst gg;simp[vD,rI,q5,o6,eR,cells,bq,dj,gk];obtain⟨kb,nb⟩:=B;simp at gk;subst gk;rfl
     .have g':¬(B.known=true/\C.known=true/\B.n=C.n):=λh=>g ⟨h.1,(Ku B C).2 ⟨by rw[h.1,h.2.1],h.2.2⟩⟩;rw[if_neg (by simp[bq,dj])];unfold eR;rw[if_neg (by omega),if_neg (by omega),if_pos o6];simp only[bq,bn];simp;rw[if_neg g];cases e1:B.known<;>cases e2:C.known<;>simp[vD,rI,q5,o6,cells,dj,e1,e2];have:¬B.n=C.n:=λh=>g' ⟨e1,e2,h⟩;simp[this]
    .obtain⟨ka,na⟩:=A;simp at h1;subst h1;rcases h2 rfl with h|h<;>simp at h<;>subst h<;>simp[vD,rI,q5,w2,o6,eR,cells,bq]<;>rfl
   |less o hk=>omega
   |equal k o hk=>omega
   |num o hk=>omega
def aBk (t:Tm)(cs:List Cell)(ht:t.OK):ah T 153 [dx t,cells cs] (ct (qT cs t)):=by
 refine zyt 176 aFk ?_;simp[abZ,qT];refine⟨_,amk t ht,?_⟩;by_cases h:(kh t).2=0
 .obtain⟨h1,h2⟩:=ae3 h;simp[h];refine⟨_,amn 8 cs t _ ht h1 h2,?_⟩;simp
  try rfl
 .simp[h]
  try rfl
def Yf (ask:Int):ah T 93 [.int ask] (.bool (decide (0<=ask/\ask<22))):=by
 refine zyt 160 aFz ?_;by_cases h:0<=ask<;>by_cases h2:ask<22<;>simp[ab7,h,h2]
def amb (ask:Int)(h:0<=ask/\ask<22):ah T 155 [.int ask] (.bool (!hasB rn ask)):=by
 refine zyt 175 aEM ?_;have hb:hasB rn ask=true↔ask=6\/ask=7\/ask=10\/ask=12\/ask=13\/ask=14\/ask=15\/ask=16\/ask=20\/ask=21:=by
  simp[hasB,rn];omega
 by_cases hm:ask=6\/ask=7\/ask=10\/ask=12\/ask=13\/ask=14\/ask=15\/ask=16\/ask=20\/ask=21
 .rw[hb.2 hm];rcases hm with h|h|h|h|h|h|h|h|h|h<;>subst h<;>simp[QY]
 .have hf:hasB rn ask=false:=by
   cases e:hasB rn ask
   .rfl
   .exact absurd (hb.1 e) hm
  rw[hf];simp only[not_or] at hm;obtain⟨a1,a2,a3,a4,a5,a6,a7,a8,a9,ji⟩:=hm;simp[QY,a1,a2,a3,a4,a5,a6,a7,a8,a9,ji];have hw:=cI ask 0 21;have sP:wi ask 0 21=true:=by simp[wi];omega
  rw[sP] at hw;exact hw
def aBs (ask:Int):ah T 202 [.int ask] (.tup [.int (fi ask).1,.bool (fi ask).2]):=by
 refine zyt 174 aFB ?_;simp[ab9,fi];refine⟨_,Yf ask,?_⟩;by_cases h:0<=ask/\ask<22
 .have h1:¬(ask<0\/22<=ask):=by omega
  simp[h,h1];refine⟨_,amb ask h,?_⟩;cases e:hasB rn ask<;>simp[e]
 .have h1:ask<0\/22<=ask:=by omega
  simp[h,h1]
def amr (o:Order)(ask:Int)(hl:o.rules.length<=4294967296):ah T 154 [iu o,.int ask] (.int (my o.rules.length (mH o ask))):=by
 refine zyt 167 aFA ?_;simp[ab8];refine .scan o.rules.length (λk=>mH o ask k=false) (λk=>[.int 0,.int k]) (λ_=>[]) ?_ (λk hk hj ho=>?_) (λk hk hj ho=>?_) (λhj=>?_)
 .simp
 .have hw:=be hk hl;simp[mH,hk] at ho;simp[Zf,IS,hk,hw,ho]
 .have he:=N7 hk (by simpa using ho) hj;simp[mH,hk] at ho;simp[Zf,IS,hk,he,ho]
 .have he:=N6 hj;simp[Zf,IS,he]
def aBt (o:Order)(ask:Int)(ho:o.OK)(hl:o.rules.length<=4294967296):ah T 152 [iu o,.int ask] (.int (findF o ask).2):=by
 refine zyt 166 aFC ?_;simp[aca,findF];refine⟨_,Yf ask,?_⟩;have ht:(fi ask).2=decide (0<=ask/\ask<22):=by
  unfold fi;by_cases h:ask<0\/22<=ask
  .rw[if_pos h];have:¬(0<=ask/\ask<22):=by omega
   simp[this]
  .rw[if_neg h];have:0<=ask/\ask<22:=by omega
   split<;>simp[this]
 by_cases h:0<=ask/\ask<22
 .simp[h,ht];refine⟨_,amr o ask hl,?_⟩;rcases Af o.rules.length (mH o ask) with⟨h1,h2⟩|⟨m,hm,h1,h2,h3⟩
  .rw[h1];simp
  .rw[h1];have zL:¬((m:Int)<0):=by omega
   have G3:o.rules[m].term.OK:=Qx ho hm;simp[hm,yd,zL];refine⟨_,amk _ G3,_,aBs ask,?_⟩;by_cases h4:(kh o.rules[m].term).2=0<;>by_cases h5:(kh o.rules[m].term).1=(fi ask).1<;>simp[h4,h5]
 .simp[h,ht]
def aBr (o:Order)(ask:Int)(cs:List Cell)(ho:o.OK)(hl:o.rules.length<=4294967296):ah T 95 [iu o,.int ask,cells cs] (.tup [ct (nR o ask cs).1,.int (nR o ask cs).2]):=by
 refine zyt 165 aFx ?_;simp[ab5];refine⟨_,aBt o ask ho hl,?_⟩;by_cases h:(findF o ask).2=0
 .have hq:(fi ask).2=true:=by
   unfold findF at h;cases e:(fi ask).2
   .rw[if_pos e] at h;cases h
   .rfl
  have hr:0<=ask/\ask<22:=by
   unfold fi at hq;split at hq
   .cases hq
   .omega
  have hix:∃m:Nat,m<o.rules.length/\my o.rules.length (mH o ask)=m/\(findF o ask).1=yd o m:=by
   unfold findF at h ⊢;rw[if_neg (by rw[hq];decide)] at h ⊢;split at h
   .cases h
   rename_i h1;rw[if_neg h1];split at h
   .cases h
   rename_i h2;rw[if_neg h2];rcases Af o.rules.length (mH o ask) with⟨g1,g2⟩|⟨m,hm,g1,g2,g3⟩
   .exact absurd (by rw[g1];decide) h1
   .exact⟨m,hm,g1,by rw[g1]⟩
  obtain⟨m,hm,g1,g2⟩:=hix;have G3:o.rules[m].term.OK:=Qx ho hm;have ly:(findF o ask).1=o.rules[m].term:=by rw[g2];simp[yd,hm]
  simp[h,nR,ly];refine⟨_,amr o ask hl,?_⟩;rw[g1];simp[hm];refine⟨_,aBk _ cs G3,?_⟩;generalize qT cs o.rules[m].term=c;have mj:=amb ask hr;have bt:(fi ask).1=0↔hasB rn ask=true:=by
   unfold fi;rw[if_neg (by omega)];split
   .rename_i e;simp[e]
   .rename_i e;simp[e]
  obtain⟨kn,n⟩:=c;cases hb:hasB rn ask
  .have eh:¬(fi ask).1=0:=λe=>by rw[bt.1 e] at hb;cases hb
   rw[hb] at mj;cases kn<;>simp[eh]
   all_goals first|rfl|(refine⟨_,mj,?_⟩;rfl)|(refine⟨_,mj,?_⟩;simp;done)|(refine⟨_,mj,?_⟩;simp;rfl)
  .have eh:=bt.2 hb;rw[hb] at mj;cases kn
   .simp[eh]
    first|rfl|(refine⟨_,mj,?_⟩;rfl)|(refine⟨_,mj,?_⟩;simp;done)|(refine⟨_,mj,?_⟩;simp;rfl)
   .by_cases h2:n<0
    .have:min (max n 0) 20000=0:=by omega
     simp[eh,h2,this]
     first|rfl|(refine⟨_,mj,?_⟩;rfl)|(refine⟨_,mj,?_⟩;simp;done)|(refine⟨_,mj,?_⟩;simp;rfl)
    .by_cases h3:20000<n
     .have:min (max n 0) 20000=20000:=by omega
      simp[eh,h2,h3,this]
      first|rfl|(refine⟨_,mj,?_⟩;rfl)|(refine⟨_,mj,?_⟩;simp;done)|(refine⟨_,mj,?_⟩;simp;rfl)
     .have:min (max n 0) 20000=n:=by omega
      simp[eh,h2,h3,this];exact⟨⟨_,mj⟩,rfl⟩
 .simp[h,nR]
  try rfl
def bW (y m d:Int):Int:=if m<3 then 365*(y-1)+(y-1)/4-(y-1)/100+(y-1)/400+(153*(m+9)+2)/5+d-1-730425 else 365*y+y/4-y/100+y/400+(153*(m-3)+2)/5+d-1-730425
def Wc (y m d:Int)(hy:1<=y/\y<=10000)(hm:1<=m/\m<=12)(hd:-1000<=d/\d<=1000):Ar y m d=bW y m d:=by
 have w:∀x:Int,-1000000000<=x->x<=1000000000->i64.wrap x=x:=λx a b=>ax (by omega);have t:∀x y:Int,0<=x->x.tdiv y=x/y:=λx y hx=>l6 hx;have h:ah T 268 [.int y,.int m,.int d] (.int (bW y m d)):=by
  refine .of_tree rfl R5 aaD ?_;unfold bW;by_cases h3:m<3
  .simp[Eo,h3];rw[w (y-1) (by omega) (by omega),w (m+12) (by omega) (by omega)];rw[w (m+12-3) (by omega) (by omega),w (365*(y-1)) (by omega) (by omega),w (153*(m+12-3)) (by omega) (by omega)];rw[w (153*(m+12-3)+2) (by omega) (by omega),t (y-1) 4 (by omega),t (y-1) 100 (by omega),t (y-1) 400 (by omega),t _ 5 (by omega)];rw[w ((y-1)/4) (by omega) (by omega),w ((y-1)/100) (by omega) (by omega),w ((y-1)/400) (by omega) (by omega),w ((153*(m+12-3)+2)/5) (by omega) (by omega)];rw[w (365*(y-1)+(y-1)/4) (by omega) (by omega),w (365*(y-1)+(y-1)/4-(y-1)/100) (by omega) (by omega),w (365*(y-1)+(y-1)/4-(y-1)/100+(y-1)/400) (by omega) (by omega)];rw[w (365*(y-1)+(y-1)/4-(y-1)/100+(y-1)/400+(153*(m+12-3)+2)/5) (by omega) (by omega),w (365*(y-1)+(y-1)/4-(y-1)/100+(y-1)/400+(153*(m+12-3)+2)/5+d) (by omega) (by omega),w (365*(y-1)+(y-1)/4-(y-1)/100+(y-1)/400+(153*(m+12-3)+2)/5+d-1) (by omega) (by omega),w _ (by omega) (by omega)];omega
  .simp[Eo,h3];rw[w (m-3) (by omega) (by omega),w (365*y) (by omega) (by omega),w (153*(m-3)) (by omega) (by omega)];rw[w (153*(m-3)+2) (by omega) (by omega),t y 4 (by omega),t y 100 (by omega),t y 400 (by omega),t _ 5 (by omega)];rw[w (y/4) (by omega) (by omega),w (y/100) (by omega) (by omega),w (y/400) (by omega) (by omega),w ((153*(m-3)+2)/5) (by omega) (by omega)];rw[w (365*y+y/4) (by omega) (by omega),w (365*y+y/4-y/100) (by omega) (by omega),w (365*y+y/4-y/100+y/400) (by omega) (by omega)];rw[w (365*y+y/4-y/100+y/400+(153*(m-3)+2)/5) (by omega) (by omega),w (365*y+y/4-y/100+y/400+(153*(m-3)+2)/5+d) (by omega) (by omega),w (365*y+y/4-y/100+y/400+(153*(m-3)+2)/5+d-1) (by omega) (by omega),w _ (by omega) (by omega)]
 have h2:=h.det (DI y m d);simpa using h2.symm
def oY (K:Int):Int:=365*(K/12)+K/12/4-K/12/100+K/12/400+(153*(K%12)+2)/5-730425
def xF (y m d:Int)(hm:1<=m/\m<=12):bW y m d=oY (12*y+m-3)+d-1:=by
 unfold bW oY;by_cases h:m<3
 .rw[if_pos h];have e1:(12*y+m-3)/12=y-1:=by omega
  have e2:(12*y+m-3)%12=m+9:=by omega
  rw[e1,e2];omega
 .rw[if_neg h];have e1:(12*y+m-3)/12=y:=by omega
  have e2:(12*y+m-3)%12=m-3:=by omega
  rw[e1,e2];omega
def azs (K:Int)(hK:0<=K):oY K+28<=oY (K+1):=by
 unfold oY;by_cases h:K%12=11
 .have e1:(K+1)/12=K/12+1:=by omega
  have e2:(K+1)%12=0:=by omega
  rw[e1,e2,h];generalize K/12=Y;omega
 .have e1:(K+1)/12=K/12:=by omega
  have e2:(K+1)%12=K%12+1:=by omega
  rw[e1,e2];generalize K/12/4=a;generalize K/12/100=b;generalize K/12/400=c;omega
def aiM (K:Int)(hK:0<=K):∀n:Nat,oY K+28*n<=oY (K+n)
 |0=>by simp
 |n+1=>by
  have h1:=aiM K hK n;have h2:=azs (K+n) (by omega);have e:K+((n+1:Nat):Int)=K+n+1:=by omega
  rw[e];omega
def azr (y m:Int)(hy:1<=y/\y<=9000)(hm:1<=m/\m<=12):uZ y m=oY (12*y+m-3+1)-oY (12*y+m-3):=by
 unfold uZ;by_cases h:m=12
 .rw[if_pos h];subst h;unfold oY;have e1:(12*y+12-3)/12=y:=by omega
  have e2:(12*y+12-3)%12=9:=by omega
  have e3:(12*y+12-3+1)/12=y:=by omega
  have e4:(12*y+12-3+1)%12=10:=by omega
  rw[e1,e2,e3,e4];omega
 .rw[if_neg h];have w1:i64.wrap (m+1)=m+1:=ax (by omega);rw[w1,Wc y (m+1) 1 (by omega) (by omega) (by omega),Wc y m 1 (by omega) (by omega) (by omega),xF _ _ _ (by omega),xF _ _ _ (by omega)];have e:12*y+(m+1)-3=12*y+m-3+1:=by omega
  rw[e];have hb:∀K:Int,0<=K->K<=200000->-10000000<=oY K/\oY K<=10000000:=by
   intro K h1 h2;unfold oY;omega
  have b1:=hb (12*y+m-3+1) (by omega) (by omega);have b2:=hb (12*y+m-3) (by omega) (by omega);rw[ax (by omega)];omega
def ae9 (R:Int)(hR:0<=R/\R<146097):(0<=(R-R/1460+R/36524-R/146096)/365/\(R-R/1460+R/36524-R/146096)/365<=399)/\
 0<=R-(365*((R-R/1460+R/36524-R/146096)/365)+(R-R/1460+R/36524-R/146096)/365/4-(R-R/1460+R/36524-R/146096)/365/100)/\
 R-(365*((R-R/1460+R/36524-R/146096)/365)+(R-R/1460+R/36524-R/146096)/365/4-(R-R/1460+R/36524-R/146096)/365/100)<=365:=by
 by_cases h4:R=146096
 .subst h4;decide
 have hc:R/146096=0:=by omega
 have hb:R/36524=0\/R/36524=1\/R/36524=2\/R/36524=3:=by omega
 obtain⟨b,zz⟩:∃b,b=R/36524:=⟨_,rfl⟩
 obtain⟨u,hu⟩:∃u,u=(R-36524*b)/1461:=⟨_,rfl⟩
 obtain⟨w,hw⟩:∃w,w=R-36524*b-1461*u:=⟨_,rfl⟩
 have eI:0<=b/\b<=3:=by omega
 have cl:0<=w/\w<=1460:=by omega
 have Vx:0<=u/\u<=24:=by omega
 have pR:R=36524*b+1461*u+w:=by omega
 rw[hc,<-zz];obtain⟨a,ha⟩:∃a,a=R/1460:=⟨_,rfl⟩
 rw[<-ha];have key:∀k:Int,0<=k->k<=3->365*k<=w->(k<3->w<365*k+365)->(R-a+b-0)/365=100*b+4*u+k:=by
  intro k k0 k3 h1 h2;by_cases hk:k=3
  .subst hk;have:a=25*b+u\/a=25*b+u+1:=by omega
   rcases this with e|e
   .by_cases G9:w=1460
    .omega
    .omega
   .omega
  .have:=h2 (by omega);have e:a=25*b+u:=by omega
   omega
 have hk:∃k:Int,0<=k/\k<=3/\365*k<=w/\(k<3->w<365*k+365):=by
  by_cases h1:w<365
  .exact⟨0,by omega⟩
  by_cases h2:w<730
  .exact⟨1,by omega⟩
  by_cases h3:w<1095
  .exact⟨2,by omega⟩
  .exact⟨3,by omega⟩
 obtain⟨k,k0,k3,h1,h2⟩:=hk;rw[key k k0 k3 h1 h2];have e1:(100*b+4*u+k)/4=25*b+u:=by omega
 have e2:(100*b+4*u+k)/100=b:=by omega
 rw[e1,e2];refine⟨by omega,by omega,?_⟩;by_cases kj:k=3
 .subst kj;omega
 .have:=h2 (by omega);omega
def FI (n:Int)(h:0<=n/\n<=100400):(1<=(bF n).2.1/\(bF n).2.1<=12)/\(1<=(bF n).2.2/\(bF n).2.2<=31)/\(1000<=(bF n).1/\(bF n).1<=3000)/\bW (bF n).1 (bF n).2.1 (bF n).2.2=n:=by
 unfold bF;simp only[];obtain⟨R,pR⟩:∃R,R=(n+730425)%146097:=⟨_,rfl⟩
 obtain⟨E,Gf⟩:∃E,E=(n+730425)/146097:=⟨_,rfl⟩
 have hn:n=146097*E+R-730425:=by omega
 have hE:E=4\/E=5:=by omega
 have hR:0<=R/\R<146097:=by omega
 rw[<-pR,<-Gf];clear pR Gf;obtain⟨⟨y0,y1⟩,d0,d1⟩:=ae9 R hR;generalize (R-R/1460+R/36524-R/146096)/365=Y at*;obtain⟨D,hD⟩:∃D,D=R-(365*Y+Y/4-Y/100):=⟨_,rfl⟩
 rw[<-hD] at d0 d1 ⊢;obtain⟨M,hM⟩:∃M,M=(5*D+2)/153:=⟨_,rfl⟩
 rw[<-hM];have hM2:0<=M/\M<=11:=by omega
 have Uz:1<=D-(153*M+2)/5+1/\D-(153*M+2)/5+1<=31:=by omega
 have q4:(Y+400*E)/4=Y/4+100*E:=by omega
 have alH:(Y+400*E)/100=Y/100+4*E:=by omega
 have alI:(Y+400*E)/400=E:=by omega
 by_cases lC:12<M+3
 .rw[if_pos lC];have h3:M+3-12<3:=by omega
  rw[if_pos h3];refine⟨by omega,Uz,by omega,?_⟩;unfold bW;rw[if_pos h3];have e:Y+400*E+1-1=Y+400*E:=by omega
  have e2:M+3-12+9=M:=by omega
  rw[e,e2,q4,alH,alI];omega
 .rw[if_neg lC];have h3:¬M+3<3:=by omega
  rw[if_neg h3];refine⟨by omega,Uz,by omega,?_⟩;unfold bW;rw[if_neg h3];have e2:M+3-3=M:=by omega
  rw[e2,q4,alH,alI];omega
end Rm
