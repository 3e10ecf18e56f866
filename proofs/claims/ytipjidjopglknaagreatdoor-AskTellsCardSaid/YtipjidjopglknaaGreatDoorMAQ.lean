/-
  Shared texts of this claim.
-/
import Derived.Test.YtipjidjopglknaaGreatDoorMAP
import Derived.Lib.Mul64
set_option linter.defProp false
set_option linter.unusedSimpArgs false
set_option linter.unusedVariables false
noncomputable section
open Go.IntKind (i64)
namespace Rm
open Go Go.Proofs Cx
def Fp (r:Realm)(k:Nat):Bool:=decide (((r.cities.getD k default).feasts.length:Int)<=70)&&decide (((r.cities.getD k default).shut.length:Int)<=210)&&decide (((r.cities.getD k default).rest.length:Int)<=8)
def Fq (r:Realm)(k:Nat):Bool:=decide (((r.orders.getD k default).choices.length:Int)<=40)&&decide (((r.orders.getD k default).rules.length:Int)<=40)
def Ll (r:Realm):Bool:=decide ((r.currencies.length:Int)<50)&&decide ((r.cities.length:Int)<50)&&decide ((r.groups.length:Int)<50)&&decide ((r.firms.length:Int)<210)&&decide ((r.orders.length:Int)<50)&&decide ((r.usances.length:Int)<110)&&decide ((r.rates.length:Int)<110)&&decide ((r.halts.length:Int)<50)
def qP (r:Realm):Bool:=fy (min r.cities.length 50) (Fp r)&&fy (min r.orders.length 50) (Fq r)&&Ll r
def axg (r:Realm)(hr:r.OK):ah T 61 [aU r] (.bool (qP r)):=by
 refine zyw 84 aAg ?_;simp[Xy];refine gX (min r.cities.length 50) (Fp r) (λk=>[.bool false,.int k]) (λ_=>[]) ?_ (λk hk ho=>?_) (λk hk ho hb=>?_) (λhj=>?_)
 .simp
 .have bN:k<r.cities.length:=by omega
  have dj:k<50:=by omega
  have hw:=bu dj (by omega);simp[Fp,bN] at ho;obtain⟨⟨a1,a2⟩,a3⟩:=ho;have b1:¬(70:Int)<r.cities[k].feasts.length:=by omega
  have b2:¬(210:Int)<r.cities[k].shut.length:=by omega
  have b3:¬(8:Int)<r.cities[k].rest.length:=by omega
  simp[HH,Ah,bN,dj,hw,b1,b2,b3];omega
 .have bN:k<r.cities.length:=by omega
  have dj:k<50:=by omega
  have hf:qP r=false:=by simp only[qP,hb,tK]
  rw[hf];simp[Fp,bN] at ho;by_cases b1:(70:Int)<r.cities[k].feasts.length
  .simp[HH,Ah,bN,dj,b1];omega
  by_cases b2:(210:Int)<r.cities[k].shut.length
  .simp[HH,Ah,bN,dj,b1,b2];omega
  have b3:(8:Int)<r.cities[k].rest.length:=by have:=ho (by omega) (by omega);omega
  simp[HH,Ah,bN,dj,b1,b2,b3];omega
 .have hn:¬((min r.cities.length 50:Nat):Int)<r.cities.length\/¬((min r.cities.length 50:Nat):Int)<50:=by omega
  simp[HH,Ah];rw[if_neg (by omega)];refine gX (min r.orders.length 50) (Fq r) (λk=>[.bool false,.int k]) (λ_=>[]) ?_ (λk hk ho=>?_) (λk hk ho hb=>?_) (λRX=>?_)
  .simp
  .have bN:k<r.orders.length:=by omega
   have dj:k<50:=by omega
   have hw:=bu dj (by omega);simp[Fq,bN] at ho;obtain⟨a1,a2⟩:=ho;have b1:¬(40:Int)<r.orders[k].choices.length:=by omega
   have b2:¬(40:Int)<r.orders[k].rules.length:=by omega
   simp[NX,Dz,bN,dj,hw,b1,b2];omega
  .have bN:k<r.orders.length:=by omega
   have dj:k<50:=by omega
   have hf:qP r=false:=by simp only[qP,hb,tK,AD]
   rw[hf];simp[Fq,bN] at ho;by_cases b1:(40:Int)<r.orders[k].choices.length
   .simp[NX,Dz,bN,dj,b1];omega
   have b2:(40:Int)<r.orders[k].rules.length:=by have:=ho (by omega);omega
   simp[NX,Dz,bN,dj,b1,b2];omega
  .have hf:qP r=Ll r:=by simp only[qP,hj,RX,AE]
   rw[hf];simp[NX,Dz];rw[if_neg (by omega)];unfold Ll;by_cases c1:(r.currencies.length:Int)<50<;>simp[c1];by_cases c2:(r.cities.length:Int)<50<;>simp[c2];by_cases c3:(r.groups.length:Int)<50<;>simp[c3];by_cases c4:(r.firms.length:Int)<210<;>simp[c4];by_cases c5:(r.orders.length:Int)<50<;>simp[c5];by_cases c6:(r.usances.length:Int)<110<;>simp[c6];by_cases c7:(r.rates.length:Int)<110<;>simp[c7]
def Q8 {r:Realm}(hr:r.OK)(h:qP r=true):Small r:=by
 simp only[qP,Ll,au,decide_eq_true_eq,ye] at h;obtain⟨⟨h1,h2⟩,⟨⟨⟨⟨⟨⟨⟨c1,c2⟩,c3⟩,c4⟩,c5⟩,c6⟩,c7⟩,c8⟩⟩:=h;obtain⟨k1,⟨k2,k2'⟩,⟨k3,k3'⟩,⟨k4,k4'⟩,⟨k5,k5'⟩,⟨k6,k6'⟩,⟨k7,k7'⟩,⟨k8,k8'⟩⟩:=hr;refine⟨by omega,by omega,by omega,by omega,by omega,by omega,by omega,by omega,λc hc=>?_,λo ho=>?_,λx hx=>?_⟩
 .obtain⟨k,hk,rfl⟩:=lE hc;have:=h1 k (by omega);simp[Fp,hk] at this;have:=k2' _ hc;exact⟨by omega,by omega,by omega,λy hy=>this.2.2.2.1.2 y hy⟩
 .obtain⟨k,hk,rfl⟩:=lE ho;have:=h2 k (by omega);simp[Fq,hk] at this;omega
 .have:=k7' x hx;exact⟨this.2.2.1,this.2.2.2.1⟩
def ui (r:Realm)(f:File):Bool:=(qP r&&Fs f)&&fy r.orders.length (λk=>sw (r.orders.getD k default))
def axL (r:Realm)(f:File)(hr:r.OK):ah T 31 [aU r,dK f] (.bool (ui r f)):=by
 refine zyw 83 aBg ?_;simp[Yl];refine⟨_,axg r hr,?_⟩;cases e1:qP r
 .simp[ui,e1]
 simp;refine⟨_,axu f,?_⟩;cases e2:Fs f
 .simp[ui,e1,e2]
 have hs:=Q8 hr e1;have ho:=hs.orders;have hf:ui r f=fy r.orders.length (λk=>sw (r.orders.getD k default)):=by simp only[ui,e1,e2,AE]
 rw[hf];simp;have hO:=hr.2.2.2.2.1.2;refine gX r.orders.length (λk=>sw (r.orders.getD k default)) (λk=>[.bool false,.int k]) (λ_=>[]) ?_ (λk hk ho=>?_) (λk hk ho hb=>?_) (λhj=>?_)
 .simp
 .have hw:=bu hk (by omega);simp[hk] at ho;simp[VQ,H9,hk];refine⟨_,ah5 _ (hO _ (bW hk)),?_⟩;simp[ho,hw]
 .simp only[aK] at hb;rw[hb];simp[hk] at ho;simp[VQ,H9,hk];refine⟨_,ah5 _ (hO _ (bW hk)),?_⟩;simp[ho]
 .simp only[aK] at hj;rw[hj];simp[VQ,H9]
def yE (r:Realm)(f:File):Bool:=ui r f&&decide (fC r=0)
def lJ (n:Int):Int:=min (max n (-1099511627776)) 1099511627776
def OJ (n:Int):ah T1 178 [.int n] (.int (lJ n)):=by
 refine .of_tree rfl amh aB7 ?_;simp[Zl,lJ];by_cases h1:-1099511627776>n
 .have:¬(1099511627776:Int)< -1099511627776:=by omega
  simp[h1];omega
 .by_cases h2:(1099511627776:Int)<n
  .simp[h1,h2];omega
  .simp[h1,h2];omega
def azm (n:Int):ah T 178 [.int n] (.int (lJ n)):=Wt rfl (OJ n)
def jR (v:Int):Int×Bool:=if v<0\/19<v then(0,false) else if v<7 then(0,true) else(1,true)
def ajk (v:Int):ah T1 176 [.int v] (.tup [.int (jR v).1,.bool (jR v).2]):=by
 refine .of_tree rfl ame aB3 ?_;simp[Zh,jR];by_cases h1:v<0
 .simp[h1]
 by_cases h2:19<v
 .simp[h1,h2]
 by_cases h3:v<7
 .simp[h1,h2,h3]
 .simp[h1,h2,h3]
def azj (v:Int):ah T 176 [.int v] (.tup [.int (jR v).1,.bool (jR v).2]):=Wt rfl (ajk v)
def sO (t:Tm):Int×Int:=
 if 0<t.args.length then(0,2) else if t.op=0 then(if lJ t.n≠t.n then(0,3) else(0,0)) else if t.op=1 then(if t.n<0\/1<t.n then(0,3) else(1,0)) else if(jR t.n).2=false then(0,10) else((jR t.n).1,0)
def azn (t:Tm):ah T 174 [cQ t] (.tup [.int (sO t).1,.int (sO t).2]):=by
 refine zyw 34 aB8 ?_;simp[Zm,sO];by_cases h0:0<t.args.length
 .have fE:(0:Int)<t.args.length:=by omega
  simp[h0,fE]
 simp[h0];by_cases h1:t.op=0
 .simp[h1];refine⟨_,azm _,?_⟩;by_cases h2:lJ t.n=t.n<;>simp[h2]
 by_cases h2:t.op=1
 .simp[h1,h2];by_cases h3:t.n<0<;>by_cases h4:1<t.n<;>simp[h3,h4]
 simp[h1,h2];refine⟨_,azj _,?_⟩;cases h3:(jR t.n).2<;>simp[h3]
def dU (op:Int):List Int×Int:=
 if op=3 then([1],1) else if op=4\/op=5 then([1,1],1) else if op=6 then([1,-1,-1],-1) else if op=7 then([0,0],1) else if op=8 then([-1,-1],1) else([0,0],0)
def Fl (s:List Int×Int):D:=.agg [ints s.1,.int s.2]
@[simp] def aEB (s:List Int×Int):(Fl s).cells=[ints s.1,.int s.2]:=zyz
@[simp] def aEz (s:List Int×Int):(Fl s).c 0=ints s.1:=zyz
@[simp] def aEA (s:List Int×Int):(Fl s).c 1=.int s.2:=zyz
@[simp] def aH4 (s:List Int×Int):D.agg [ints s.1,.int s.2]=Fl s:=zyz
@[simp] def aIS (x y:Int):vl (.int x) 0 (.int y)=.int y:=zyz
def azq (op:Int):ah T 175 [.int op] (Fl (dU op)):=by
 refine zyw 35 aCc ?_;simp[Zp,dU];by_cases h3:op=3
 .simp[h3];rfl
 by_cases h4:op=4
 .simp[h4];rfl
 by_cases h5:op=5
 .simp[h5];rfl
 by_cases h6:op=6
 .simp[h6];rfl
 by_cases h7:op=7
 .simp[h7];rfl
 by_cases h8:op=8
 .simp[h8];rfl
 simp[h3,h4,h5,h6,h7,h8];rfl
def dm (f:Tm->Int):List Tm->Int->Int
 |[],n=>n
 |a::l,n=>if 60<n+f a then n+f a else dm f l (n+f a)
def bm:Nat->Tm->Int
 |0,_=>61
 |L+1,t=>dm (bm L) t.args 1
def eK (f:Tm->Int)(l:List Tm):Int:=(l.map f).sum
def MI {f:Tm->Int}{l:List Tm}{k:Nat}(h:k<l.length):eK f (l.take (k+1))=eK f (l.take k)+f l[k]:=by
 unfold eK;rw[DS f h,List.sum_append];simp
def aeB {f:Tm->Int}:∀{l:List Tm} {n:Int} {k:Nat},(hk:k<l.length)->(∀j,j<k->n+eK f (l.take (j+1))<=60)->60<n+eK f (l.take (k+1))->dm f l n=n+eK f (l.take (k+1))
 |a::l,n,0,hk,_,h=>by
  simp[eK] at h ⊢;unfold dm;rw[if_pos (by omega)]
 |a::l,n,k+1,hk,hj,h=>by
  have h0:=hj 0 (by omega);simp[eK] at h0;unfold dm;rw[if_neg (by omega)];have e:∀j,n+eK f ((a::l).take (j+1+1))=n+f a+eK f (l.take (j+1)):=by intro j;simp[eK];omega
  rw[aeB (l:=l) (k:=k) (by simpa using hk) (λj wx=>by have:=hj (j+1) (by omega);rw[e] at this;exact this) (by rw[<-e];exact h),e]
def aeD {f:Tm->Int}:∀{l:List Tm} {n:Int},(∀j,j<l.length->n+eK f (l.take (j+1))<=60)->dm f l n=n+eK f l
 |[],n,_=>by simp[dm,eK]
 |a::l,n,hj=>by
  have h0:=hj 0 (by simp);simp[eK] at h0;unfold dm;rw[if_neg (by omega)];have e:∀j,n+eK f ((a::l).take (j+1+1))=n+f a+eK f (l.take (j+1)):=by intro j;simp[eK];omega
  rw[aeD (l:=l) (λj gT=>by have:=hj (j+1) (by simpa using gT);rw[e] at this;exact this)];simp[eK];omega
def aeC {f:Tm->Int}(hf:∀a,1<=f a):∀{l:List Tm} {n:Int},n<=dm f l n
 |[],n=>by simp[dm]
 |a::l,n=>by
  unfold dm;have:=hf a;split
  .omega
  .have:=aeC hf (l:=l) (n:=n+f a);omega
def xb:∀(L:Nat) (t:Tm),1<=bm L t
 |0,t=>by simp[bm]
 |L+1,t=>aeC (xb L)
def aeE {f:Tm->Int}{B:Int}(hf:∀a,f a<=B)(hB:0<=B):∀{l:List Tm} {n:Int},n<=60->dm f l n<=60+B
 |[],n,h=>by simp[dm];omega
 |a::l,n,h=>by
  unfold dm;have:=hf a;split
  .omega
  .exact aeE hf hB (by omega)
def aeG:∀(L:Nat) (t:Tm),bm L t<=61+60*L
 |0,t=>by simp[bm]
 |L+1,t=>by
  have:=aeE (f:=bm L) (λa=>aeG L a) (by omega) (l:=t.args) (n:=1) (by omega);show dm _ _ _<=_;omega
def aeF {f:Tm->Int}(hf:∀a,1<=f a):∀{l:List Tm} {n:Int},dm f l n<=60->(n:Int)+l.length<=60/\∀a,a∈l->f a<=60-n
 |[],n,h=>by simp[dm] at h ⊢;exact h
 |a::l,n,h=>by
  unfold dm at h;have:=hf a;split at h
  .omega
  .obtain⟨h1,h2⟩:=aeF hf h;refine⟨by simp;omega,λb hb=>?_⟩;rcases cU.1 hb with rfl|hb
   .omega
   .have:=h2 b hb;omega
def zB {L:Nat}{t:Tm}(h:bm (L+1) t<=60):t.args.length<=59/\∀a,a∈t.args->bm L a<=60:=by
 obtain⟨h1,h2⟩:=aeF (xb L) h;exact⟨by omega,λa ha=>by have:=h2 a ha;omega⟩
def WI:∀(L:Nat) (t:Tm) (lv:Int),t.OK->L<=8->lv=9-(L:Int)->ah T 152 [cQ t,.int lv] (.int (bm L t))
 |0,t,lv,ht,hL,R3=>by
  refine .of_tree rfl aaG ajt ?_;subst R3;simp[O0,bm]
 |L+1,t,lv,ht,hL,R3=>by
  refine .of_tree rfl aaG ajt ?_;have hl:=ht.len;have h8:¬(8<lv):=by omega
  have zj:i64.wrap (lv+1)=lv+1:=aW (by omega);simp[O0,h8];refine .scan t.args.length (λk=>1+eK (bm L) (t.args.take (k+1))<=60) (λk=>[.int (1+eK (bm L) (t.args.take k)),.int k]) (λ_=>[]) ?_ (λk hk hj ho=>?_) (λk hk hj ho=>?_) (λhj=>?_)
  .simp[eK]
  all_goals try rw[MI hk] at ho
  .have hw:i64.wrap ((k:Int)+1)=(k:Int)+1:=aW (by omega);have dS:=WI L t.args[k] (lv+1) (ht.arg (bW hk)) (by omega) (by omega);rw[MI hk];have hs:0<=eK (bm L) (t.args.take k):=by
    unfold eK;have:∀(l:List Tm),0<=(l.map (bm L)).sum:=by
     intro l
     induction l with
     |nil=>simp
     |cons a l ih=>have:=xb L a;simp;omega
    exact this _
   have eP:=xb L t.args[k];generalize eK (bm L) (t.args.take k)=m at*;generalize bm L t.args[k]=v at*;have uC:i64.wrap (1+m+v)=1+m+v:=aW (by omega);have eW:¬60<1+m+v:=by omega
   simp[Wg,IA,hk,zj];refine⟨_,dS,?_⟩;simp[uC,eW,hw];omega
  .have dS:=WI L t.args[k] (lv+1) (ht.arg (bW hk)) (by omega) (by omega);have hf:bm (L+1) t=1+eK (bm L) (t.args.take (k+1)):=aeB hk hj (by rw[MI hk];omega);rw[hf,MI hk];have hs:0<=eK (bm L) (t.args.take k)/\1+eK (bm L) (t.args.take k)<=60:=by
    constructor
    .unfold eK;have:∀(l:List Tm),0<=(l.map (bm L)).sum:=by
       intro l
       induction l with
       |nil=>simp
       |cons a l ih=>have:=xb L a;simp;omega
     exact this _
    .cases k with
     |zero=>simp[eK]
     |succ k=>exact hj k (by omega)
   have eP:=xb L t.args[k];have cB:=aeG L t.args[k];generalize eK (bm L) (t.args.take k)=m at*;generalize bm L t.args[k]=v at*;have uC:i64.wrap (1+m+v)=1+m+v:=aW (by omega);have eW:60<1+m+v:=by omega
   simp[Wg,IA,hk,zj];refine⟨_,dS,?_⟩;simp[uC,eW];omega
  .have hf:bm (L+1) t=1+eK (bm L) t.args:=aeD hj;rw[hf];simp[Wg,IA]
def oy (ws ts:List Int):Nat->Int
 |0=>-1
 |k+1=>if ws.getD k 0=-1/\oy ws ts k=-1 then ts.getD k 0 else oy ws ts k
def pO (ws ts:List Int)(k:Nat):Bool:=if ws.getD k 0=-1 then decide (oy ws ts k=-1)||decide (ts.getD k 0=oy ws ts k) else decide (ts.getD k 0=ws.getD k 0)
def sP (t:Tm)(ks:List Int):Int×Int:=
 if t.op<0\/13<t.op then(0,1) else if t.op=0\/t.op=1\/t.op=2 then sO t else
 if ks.length≠(dU t.op).1.length\/t.n≠0 then(0,2) else
 if fy (dU t.op).1.length (pO (dU t.op).1 ks)=false then(0,11) else if(dU t.op).2=-1 then(oy (dU t.op).1 ks (dU t.op).1.length,0) else((dU t.op).2,0)
def ba:Nat->Tm->Int×Int
 |0,_=>(0,0)
 |L+1,t=>if ml t.args.length (λk=>(ba L (t.args.getD k default)).2)≠0 then(0,ml t.args.length (λk=>(ba L (t.args.getD k default)).2)) else sP t (t.args.map λa=>(ba L a).1)
def E1 (L:Nat)(t:Tm):ba (L+1) t=if ml t.args.length (λk=>(ba L (t.args.getD k default)).2)≠0 then(0,ml t.args.length (λk=>(ba L (t.args.getD k default)).2)) else sP t (t.args.map λa=>(ba L a).1):=rfl
def Wv {α:Type}(A:List α)(z:α){k n:Nat}(hA:A.length=n)(hk:k<n):(A.take k++List.replicate (n-k) z).set k A[k]=A.take (k+1)++List.replicate (n-(k+1)) z:=by
 have h1:(A.take k).length=k:=by rw[eN];omega
 rw[List.set_append_right _ _ (by omega),h1,Pp];have:n-k=(n-(k+1))+1:=by omega
 rw[this,List.replicate_succ,List.set_cons_zero,lG (by omega),qq];rfl
def ayV (op:Int):(dU op).1.length<=3:=by
 unfold dU;repeat' split
 all_goals simp
def WH:∀(L:Nat) (t:Tm),t.OK->bm L t<=60->ah T 153 [cQ t] (.tup [.int (ba L t).1,.int (ba L t).2])
 |0,t,ht,hm=>by simp[bm] at hm
 |L+1,t,ht,hm=>by
  refine zyw 33 aB5 ?_;obtain⟨hl,hp⟩:=zB hm;simp[Zj];refine⟨by omega,?_⟩;refine vi t.args.length (λk=>(ba L (t.args.getD k default)).2) (λk=>[.int 0,.int 0,.int k]) (λk=>[ints ((t.args.map λa=>(ba L a).1).take k++List.replicate (t.args.length-k) 0)]) ?_ (λk hk ho=>?_) (λk hk ho hb=>?_) (λhj=>?_)
  .simp[ints]
  .have hw:=bu hk (by omega);have cR:=bW hk;have dS:=WH L t.args[k] (ht.arg cR) (hp _ cR);have hs:=Wv (t.args.map λa=>(ba L a).1) 0 (n:=t.args.length) (by simp) hk;rw[<-hs];have hlen:((t.args.map λa=>(ba L a).1).take k++List.replicate (t.args.length-k) (0:Int)).length=t.args.length:=by simp;omega
   have F0:(t.args.map λa=>(ba L a).1)[k]'(by simpa using hk)=(ba L t.args[k]).1:=by simp
   rw[F0];generalize (t.args.map λa=>(ba L a).1).take k++List.replicate (t.args.length-k) (0:Int)=A at*;simp[hk] at ho;rw[ho] at dS;generalize (ba L t.args[k]).1=kd at*;simp[We,Iy,hk];refine⟨_,dS,?_⟩;simp[hlen,hk,hw,ints]
  .have cR:=bW hk;have dS:=WH L t.args[k] (ht.arg cR) (hp _ cR);have hf:ba (L+1) t=(0,(ba L (t.args.getD k default)).2):=by
    rw[E1,hb,if_pos ho]
   rw[hf];simp[hk] at ho ⊢;simp[We,Iy,hk];refine⟨_,dS,?_⟩;simp[ho]
  .have hf:ba (L+1) t=sP t (t.args.map λa=>(ba L a).1):=by
    rw[E1,hj];simp
   rw[hf]
   have e0:(t.args.map λa=>(ba L a).1).take t.args.length++List.replicate (t.args.length-t.args.length) 0=t.args.map λa=>(ba L a).1:=by
    rw[Pp,Ed (by simp)];simp
   rw[e0];have hkl:(t.args.map λa=>(ba L a).1).length=t.args.length:=by simp
   generalize (t.args.map λa=>(ba L a).1)=ks at*;simp[We,Iy];unfold sP;by_cases h1:t.op<0
   .simp[h1]
   by_cases h2:13<t.op
   .simp[h1,h2]
   simp[h1,h2];by_cases h3:t.op=0\/t.op=1\/t.op=2
   .have gQ:(t.op=0\/t.op=1)\/t.op=2:=by omega
    simp[h3,gQ];refine⟨_,azn t,?_⟩;simp
   have gQ:¬((t.op=0\/t.op=1)\/t.op=2):=by omega
   simp[h3,gQ];refine⟨_,azq _,?_⟩;have Mk:=ayV t.op;generalize dU t.op=sh at*;simp;by_cases h4:ks.length=sh.1.length
   case neg=>
    have pv:¬((ks.length:Int)=sh.1.length):=by omega
    have Lw:¬t.args.length=sh.1.length:=by omega
    simp[h4,pv,Lw]
   have pv:(ks.length:Int)=sh.1.length:=by omega
   have Lw:t.args.length=sh.1.length:=by omega
   by_cases h5:t.n=0
   case neg=>simp[h4,pv,Lw,h5]
   simp[h4,pv,Lw,h5];refine gX sh.1.length (pO sh.1 ks) (λk=>[.int 0,.int 0,.int (oy sh.1 ks k),.int k]) (λ_=>[]) ?_ (λk hk ho=>?_) (λk hk ho hb=>?_) (λhj=>?_)
   .simp[oy]
   .have hw:=bu hk (by omega);have dj:k<ks.length:=by omega
    simp only[oy];unfold pO at ho;simp only[aK,bI hk,bI dj,kN] at ho ⊢;generalize oy sh.1 ks k=c at*;by_cases a1:sh.1[k]=-1
    .by_cases a2:c=-1
     .simp[DI,xx,hk,dj,hw,ints,a1,a2]
     .simp[a1,a2] at ho;simp[DI,xx,hk,dj,hw,ints,a1,a2,ho]
    .simp[a1] at ho;simp[DI,xx,hk,dj,hw,ints,a1,ho]
   .rw[hb];have dj:k<ks.length:=by omega
    unfold pO at ho;simp only[aK,bI hk,bI dj,kN] at ho;generalize oy sh.1 ks k=c at*;by_cases a1:sh.1[k]=-1
    .by_cases a2:c=-1
     .simp[a1,a2] at ho
     .simp[a1,a2] at ho;simp[DI,xx,hk,dj,ints,a1,a2,ho]
    .simp[a1] at ho;simp[DI,xx,hk,dj,ints,a1,ho]
   .rw[hj];simp[DI,xx];by_cases a1:sh.2=-1<;>simp[a1]
def jc (t:Tm):Int×Int:=if 60<bm 8 t then(0,6) else ba 8 t
def WG (t:Tm)(ht:t.OK):ah T 115 [cQ t] (.tup [.int (jc t).1,.int (jc t).2]):=by
 refine zyw 31 aB1 ?_;simp[Zf,jc];refine⟨_,WI 8 t 1 ht (by omega) (by omega),?_⟩;by_cases h:60<bm 8 t
 .simp[h]
 simp[h];refine⟨_,WH 8 t ht (by omega),?_⟩;simp
abbrev u (n:Nat):D:=.v (.int .u64 n)
def ak1 (n:Int):IntKind.u64.wrap n=n%18446744073709551616:=rfl
def I2 {n:Int}(h:0<=n/\n<18446744073709551616):IntKind.u64.wrap n=n:=by
 rw[ak1];omega
def Az {n:Nat}(h:n<18446744073709551616):IntKind.u64.wrap (n:Int)=n:=I2 (by omega)
def ayW (a s:Nat)(h:s<=64):ed .shr .u64 a s=((a/2^s:Nat):Int):=by
 show Int.fdiv (a:Int) (2^(min (s:Int).toNat 64))=_;have:min (s:Int).toNat 64=s:=by simp;omega
 rw[this,aln _ (Int.le_of_lt (Int.pow_pos (by decide)))];rw[Int.natCast_ediv,Int.natCast_pow];rfl
def PG (a:Nat)(h:a<18446744073709551616):ed .and .u64 a 4294967295=((a%4294967296:Nat):Int):=by
 show IntKind.u64.wrap ((BitVec.ofInt 64 (a:Int)&&& BitVec.ofInt 64 4294967295).toNat:Nat)=_;have e:(BitVec.ofInt 64 (a:Int)&&& BitVec.ofInt 64 4294967295).toNat=a%4294967296:=by
  rw[BitVec.toNat_and];have e1:(BitVec.ofInt 64 (a:Int)).toNat=a:=by simp[BitVec.ofInt,BitVec.toNat_ofNat];omega
  have e2:(BitVec.ofInt 64 4294967295).toNat=2^32-1:=by decide
  rw[e1,e2,Nat.and_two_pow_sub_one_eq_mod]
 rw[e,Az (by omega)]
@[simp] def DQ (a:Nat):ed .shr .u64 a 32=((a/4294967296:Nat):Int):=ayW a 32 (by decide)
set_option maxHeartbeats 2000000 in
def avM (a b:Nat)(ha:a<18446744073709551616)(hb:b<18446744073709551616):ah T1 217 [u a,u b] (.tup [u (a*b/18446744073709551616),u (a*b%18446744073709551616)]):=by
 refine .of_tree rfl amb azF ?_;obtain⟨h1,h2,h3,h4⟩:=Go.Lib.mul64_hi a b ha hb;have elo:IntKind.u64.wrap ((a:Int)*(b:Int))=((a*b%18446744073709551616:Nat):Int):=by rw[ak1,Int.natCast_emod,Int.natCast_mul];rfl
 have QZ:ed .shr .u64 (a:Int) 32=((a/4294967296:Nat):Int):=DQ a;have ea0:ed .and .u64 (a:Int) 4294967295=((a%4294967296:Nat):Int):=PG a ha;have Q0:ed .shr .u64 (b:Int) 32=((b/4294967296:Nat):Int):=DQ b;have eb0:ed .and .u64 (b:Int) 4294967295=((b%4294967296:Nat):Int):=PG b hb;have aHh:=Go.Lib.half_mul_le (a:=a/4294967296) (b:=b/4294967296) (by omega) (by omega);have aHg:=Go.Lib.half_mul_le (a:=a/4294967296) (b:=b%4294967296) (by omega) (by omega);have aHf:=Go.Lib.half_mul_le (a:=a%4294967296) (b:=b/4294967296) (by omega) (by omega);have aHe:=Go.Lib.half_mul_le (a:=a%4294967296) (b:=b%4294967296) (by omega) (by omega);have RU:a*b/18446744073709551616<18446744073709551616:=by
  have:a*b<18446744073709551616*18446744073709551616:=Nat.mul_lt_mul'' ha hb;exact Nat.div_lt_of_lt_mul this
 simp only[WX];generalize a/4294967296=a1 at*;generalize a%4294967296=a0 at*;generalize b/4294967296=b1 at*;generalize b%4294967296=b0 at*;have p11:IntKind.u64.wrap ((a1:Int)*(b1:Int))=((a1*b1:Nat):Int):=by rw[<-Int.natCast_mul];exact Az (by omega)
 have p10:IntKind.u64.wrap ((a1:Int)*(b0:Int))=((a1*b0:Nat):Int):=by rw[<-Int.natCast_mul];exact Az (by omega)
 have p01:IntKind.u64.wrap ((a0:Int)*(b1:Int))=((a0*b1:Nat):Int):=by rw[<-Int.natCast_mul];exact Az (by omega)
 have p00:IntKind.u64.wrap ((a0:Int)*(b0:Int))=((a0*b0:Nat):Int):=by rw[<-Int.natCast_mul];exact Az (by omega)
 rw[<-h4] at RU ⊢;generalize a1*b1=P at*;generalize a1*b0=Q at*;generalize a0*b1=R at*;generalize a0*b0=S at*;have s1:ed .shr .u64 (S:Int) 32=((S/4294967296:Nat):Int):=DQ S;have s2:IntKind.u64.wrap ((Q:Int)+((S/4294967296:Nat):Int))=((Q+S/4294967296:Nat):Int):=by rw[I2 (by omega)];omega
 generalize S/4294967296=S1 at*;generalize hT:Q+S1=TT at*;have s3:ed .shr .u64 (TT:Int) 32=((TT/4294967296:Nat):Int):=DQ TT;have s4:ed .and .u64 (TT:Int) 4294967295=((TT%4294967296:Nat):Int):=PG TT (by omega);have s5:IntKind.u64.wrap (((TT%4294967296:Nat):Int)+(R:Int))=((TT%4294967296+R:Nat):Int):=by rw[I2 (by omega)];omega
 generalize hU:TT%4294967296+R=U at*;have s6:ed .shr .u64 (U:Int) 32=((U/4294967296:Nat):Int):=DQ U;have s7:IntKind.u64.wrap ((P:Int)+((TT/4294967296:Nat):Int))=((P+TT/4294967296:Nat):Int):=by rw[I2 (by omega)];omega
 have s8:IntKind.u64.wrap (((P+TT/4294967296:Nat):Int)+((U/4294967296:Nat):Int))=((P+TT/4294967296+U/4294967296:Nat):Int):=by rw[I2 (by omega)];omega
 simp[-DQ,-Int.natCast_add,-Int.natCast_mul,-Int.natCast_ediv,-Int.natCast_emod,elo,QZ,ea0,Q0,eb0,p11,p10,p01,p00,s1,s2,s3,s4,s5,s6,s7,s8]
def ny (m:Nat):Int:=if m<1099511627776 then m else 1099511627776
def rC (a b:Int):Int:=if(decide (a<0)!=decide (b<0))=true then-ny (a.natAbs*b.natAbs) else ny (a.natAbs*b.natAbs)
def ahg (m:Nat):0<=ny m/\ny m<=1099511627776:=by unfold ny;split<;>omega
set_option maxHeartbeats 1000000 in
def azo (a b:Int)(ha:-1099511627776<=a/\a<=1099511627776)(hb:-1099511627776<=b/\b<=1099511627776):ah T1 209 [.int a,.int b] (.int (rC a b)):=by
 refine .of_tree rfl amk aCb ?_;have wa:IntKind.u64.wrap (a.natAbs:Int)=a.natAbs:=Az (by omega);have wb:IntKind.u64.wrap (b.natAbs:Int)=b.natAbs:=Az (by omega);have w0a:i64.wrap (0-a)=-a:=by rw[aW (by omega)];omega
 have w0b:i64.wrap (0-b)=-b:=by rw[aW (by omega)];omega
 have aCE:i64.wrap (-a)=-a:=aW (by omega);have aCF:i64.wrap (-b)=-b:=aW (by omega);have ea:(if a< -a then D.int (-a) else D.int a)=D.int a.natAbs:=by split<;>congr 1<;>omega
 have eb:(if b< -b then D.int (-b) else D.int b)=D.int b.natAbs:=by split<;>congr 1<;>omega
 have ea':(if a< -a then-a else a)=(a.natAbs:Int):=by split<;>omega
 have eb':(if b< -b then-b else b)=(b.natAbs:Int):=by split<;>omega
 simp[Zo,aCE,aCF,ea,eb,ea',eb'];rw[wa,wb];refine⟨_,avM a.natAbs b.natAbs (by omega) (by omega),?_⟩;unfold rC;generalize a.natAbs*b.natAbs=m;have hs:(decide (a<0)!=decide (b<0))=false↔(a<0↔b<0):=by
  by_cases h1:a<0<;>by_cases h2:b<0<;>simp[h1,h2]
 have key:((if((m/18446744073709551616:Nat):Int)=0/\((m%18446744073709551616:Nat):Int)<1099511627776 then i64.wrap ((m%18446744073709551616:Nat):Int) else 1099511627776):Int)=ny m:=by
  unfold ny;by_cases hm:m<1099511627776
  .have h1:m/18446744073709551616=0:=by omega
   have h2:m%18446744073709551616=m:=by omega
   rw[h1,h2,if_pos ⟨rfl,by omega⟩,if_pos hm,aW (by omega)]
  .rw[if_neg hm,if_neg];rintro⟨h1,h2⟩;omega
 have dR:=ahg m;have atO:(if((m/18446744073709551616:Nat):Int)=0/\((m%18446744073709551616:Nat):Int)<1099511627776 then D.int (i64.wrap ((m%18446744073709551616:Nat):Int)) else D.int 1099511627776)=D.int (ny m):=by
  rw[<-key];split<;>rfl
 show(if a<0↔b<0 then(if((m/18446744073709551616:Nat):Int)=0/\((m%18446744073709551616:Nat):Int)<1099511627776 then D.int (i64.wrap ((m%18446744073709551616:Nat):Int)) else D.int 1099511627776)=_ else
  i64.wrap (-(if((m/18446744073709551616:Nat):Int)=0/\((m%18446744073709551616:Nat):Int)<1099511627776 then i64.wrap ((m%18446744073709551616:Nat):Int) else 1099511627776))=_)
 rw[atO,key];generalize ny m=n at*;split
 .rename_i h;rw[hs.2 h];simp
 .rename_i h;have:(decide (a<0)!=decide (b<0))=true:=by
   cases e:(decide (a<0)!=decide (b<0)) with
   |true=>rfl
   |false=>exact absurd (hs.1 e) h
  rw[this,aW (by omega)];simp
def tT (op a b:Int):Int:=if op=9 then lJ (a+b) else if op=10 then lJ (a-b) else if op=11 then rC a b else if op=12 then min a b else max a b
def azk (op a b:Int)(ha:-1099511627776<=a/\a<=1099511627776)(hb:-1099511627776<=b/\b<=1099511627776):ah T1 179 [.int op,.int a,.int b] (.int (tT op a b)):=by
 refine .of_tree rfl amf aB4 ?_;have w1:i64.wrap (a+b)=a+b:=aW (by omega);have w2:i64.wrap (a-b)=a-b:=aW (by omega);simp[Zi,tT,w1,w2];by_cases h1:op=9
 .simp[h1];exact OJ _
 by_cases h2:op=10
 .simp[h1,h2];exact OJ _
 by_cases h3:op=11
 .simp[h1,h2,h3];exact azo a b ha hb
 by_cases h4:op=12
 .simp[h1,h2,h3,h4];by_cases h5:b<a<;>simp[h5]<;>omega
 simp[h1,h2,h3,h4];by_cases h5:b>a<;>simp[h5]<;>omega
def fb (b:Bool):Cell:=if b then⟨true,1⟩ else⟨true,0⟩
def xF (b:Bool):ah T1 177 [.bool b] (cg (fb b)):=by
 refine .of_tree rfl aml aCd ?_;cases b<;>simp[Zq,fb]<;>rfl
def db:Cell:=⟨false,0⟩
@[simp] def aH8:D.agg [.bool false,.int 0]=cg db:=zyz
@[simp] def aH9:db.known=false:=rfl
@[simp] def aIa:db.n=0:=rfl
def cellAt (cs:List Cell)(v:Int):Cell:=cs.getD v.toNat default
def iJ (cs:List Cell)(v:Int):Cell:=if cs.length<=v.toNat\/(cellAt cs v).known=false then db else if(jR v).1=1 then fb (decide ((cellAt cs v).n≠0)) else⟨true,lJ (cellAt cs v).n⟩
abbrev Lg (cs:List Cell):D:=.agg [cells cs]
def azr (cs:List Cell)(v:Int)(hv:0<=v):ah T1 154 [Lg cs,.int v] (cg (iJ cs v)):=by
 refine .of_tree rfl amj aCa ?_;obtain⟨k,rfl⟩:=vD hv;simp[Zn,iJ,cellAt];by_cases h1:cs.length<=k
 .simp[h1]
 have cA:k<cs.length:=by omega
 simp[h1,cA];cases h2:cs[k].known
 .simp[h2]
 simp[h2];refine⟨_,ajk _,?_⟩;by_cases h3:(jR k).1=1
 .simp[h3,cA];refine⟨_,xF _,?_⟩;simp;rfl
 .simp[h3,cA];refine⟨_,OJ _,?_⟩;simp;rfl
@[simp] def aHx (a b:Int):(a==b)=decide (a=b):=zyz
@[simp] def aHy (a b:Int):(a !=b)= !decide (a=b):=zyz
def aT (l:List Cell)(k:Nat):Cell:=l.getD k default
def dE (op:Int)(l:List Cell):Cell:=
 if op=3 then(if(aT l 0).known=true then fb (decide ((aT l 0).n=0)) else db)
 else if(op=4\/op=5)/\(aT l 0=fb (decide (op=5))\/aT l 1=fb (decide (op=5))) then fb (decide (op=5))
 else if op=6 then(if(aT l 1).known=true/\aT l 1=aT l 2 then aT l 1 else db)
 else if(aT l 0).known=false\/(aT l 1).known=false then db
 else if op=4\/op=5 then fb (decide (op=4))
 else if op=7 then fb (decide ((aT l 0).n<(aT l 1).n)) else if op=8 then fb (decide ((aT l 0).n=(aT l 1).n)) else⟨true,tT op (aT l 0).n (aT l 1).n⟩
def Jw (a b:Cell):a=b↔a.known=b.known/\a.n=b.n:=by cases a;cases b;simp
def azl (op:Int)(l:List Cell)(h1:1<=l.length)(h2:op≠3->2<=l.length)(h3:op=6->3<=l.length)
 (hb:9<=op->(-1099511627776<=(aT l 0).n/\(aT l 0).n<=1099511627776)/\(-1099511627776<=(aT l 1).n/\(aT l 1).n<=1099511627776)) (h9:op<3\/8<op->9<=op):
 ah T1 155 [.int op,cells l] (cg (dE op l)):=by
 refine .of_tree rfl amg aB6 ?_;have g0:0<l.length:=by omega
 have yD:l[0]=aT l 0:=by simp[aT,g0]
 simp[Zk];unfold dE;by_cases o3:op=3
 .simp[o3,g0,yD];cases e:(aT l 0).known
  .simp
  .simp[g0];refine⟨_,xF _,?_⟩;simp
 have g1:1<l.length:=by have:=h2 o3;omega
 have FB:l[1]=aT l 1:=by simp[aT,g1]
 have fD:(1:Int)<l.length:=by omega
 simp[o3];have fin:∀a b:Cell,(a=b)=(a.known=b.known/\a.n=b.n):=λa b=>propext (Jw a b);rcases I8 (op=4) with o4|o4
 .subst o4;simp;refine⟨_,xF _,?_⟩;simp[g0,g1,fD,yD,FB,fin];split
  .rfl
  .split
   .rfl
   .refine⟨_,xF _,?_⟩;simp
 rcases I8 (op=5) with o5|o5
 .subst o5;simp;refine⟨_,xF _,?_⟩;simp[g0,g1,fD,yD,FB,fin];split
  .rfl
  .split
   .rfl
   .refine⟨_,xF _,?_⟩;simp
 rcases I8 (op=6) with o6|o6
 .subst o6;have g2:2<l.length:=by have:=h3 rfl;omega
  have gg2:l[2]=aT l 2:=by simp[aT,g2]
  have mm:(2:Int)<l.length:=by omega
  simp[g1,g2,fD,mm,FB,gg2,fin];cases e1:(aT l 1).known
  .simp
  by_cases e2:(aT l 1).known=(aT l 2).known/\(aT l 1).n=(aT l 2).n
  .rw[e1] at e2;simp[e1,e2]
  .rw[e1] at e2;have vV:¬((aT l 2).known=true/\(aT l 1).n=(aT l 2).n):=λh=>e2 ⟨h.1.symm,h.2⟩;simp only[e1,true_and,if_true]
   first|(rw[if_neg vV,if_neg vV])|(simp[vV])
 simp[o4,o5,o6,g0,g1,fD,yD,FB];cases e1:(aT l 0).known
 .simp
 cases e2:(aT l 1).known
 .simp
 simp[g1,fD,FB];rcases I8 (op=7) with o7|o7
 .subst o7;simp;refine⟨_,xF _,?_⟩;simp
 rcases I8 (op=8) with o8|o8
 .subst o8;simp;refine⟨_,xF _,?_⟩;simp
 simp[o7,o8];obtain⟨b1,b2⟩:=hb (h9 (by omega));refine⟨_,azk op _ _ b1 b2,?_⟩;simp;rfl
def aH:Nat->List Cell->Tm->Cell
 |0,_,_=>db
 |L+1,cs,t=>if t.op=0\/t.op=1 then⟨true,t.n⟩ else if t.op=2 then iJ cs t.n else
   if t.op=6/\(aT (t.args.map (aH L cs)) 0).known=true then aT (t.args.map (aH L cs)) (2-(aT (t.args.map (aH L cs)) 0).n).toNat else dE t.op (t.args.map (aH L cs))
def cm:Nat->List Cell->Tm->List Int
 |0,_,_=>[]
 |L+1,cs,t=>if t.op=0\/t.op=1 then[] else if t.op=2 then(if(iJ cs t.n).known=true then[] else[t.n]) else
   if t.op=6/\(aT (t.args.map (aH L cs)) 0).known=true then(t.args.map (cm L cs)).getD (2-(aT (t.args.map (aH L cs)) 0).n).toNat [] else
   if(dE t.op (t.args.map (aH L cs))).known=true then[] else(t.args.map (cm L cs)).flatten
def uh (L:Nat)(cs:List Cell)(t:Tm):aH (L+1) cs t=if t.op=0\/t.op=1 then⟨true,t.n⟩ else if t.op=2 then iJ cs t.n else
 if t.op=6/\(aT (t.args.map (aH L cs)) 0).known=true then aT (t.args.map (aH L cs)) (2-(aT (t.args.map (aH L cs)) 0).n).toNat else dE t.op (t.args.map (aH L cs)):=rfl
def zE (L:Nat)(cs:List Cell)(t:Tm):cm (L+1) cs t=if t.op=0\/t.op=1 then[] else if t.op=2 then(if(iJ cs t.n).known=true then[] else[t.n]) else
 if t.op=6/\(aT (t.args.map (aH L cs)) 0).known=true then(t.args.map (cm L cs)).getD (2-(aT (t.args.map (aH L cs)) 0).n).toNat [] else
 if(dE t.op (t.args.map (aH L cs))).known=true then[] else(t.args.map (cm L cs)).flatten:=rfl
def yr {L:Nat}{t:Tm}{k:Int}(h:ba (L+1) t=(k,0)):(∀a,a∈t.args->(ba L a).2=0)/\sP t (t.args.map λa=>(ba L a).1)=(k,0):=by
 rw[E1] at h;by_cases e:ml t.args.length (λk=>(ba L (t.args.getD k default)).2)=0
 .rw[if_neg (by simpa using e)] at h;refine⟨λa ha=>?_,h⟩;obtain⟨j,hj,rfl⟩:=lE ha;have:=Ra.1 e j hj;simpa [hj] using this
 .rw[if_pos e] at h;injection h with _ h
  exact absurd h e
inductive Node (ks:List Int) (t:Tm):Int->Prop where
 |int (h:t.op=0) (ha:t.args=[]) (hn:-1099511627776<=t.n/\t.n<=1099511627776):Node ks t 0
 |bool (h:t.op=1) (ha:t.args=[]) (hn:t.n=0\/t.n=1):Node ks t 1
 |var (h:t.op=2) (ha:t.args=[]) (hn:0<=t.n/\t.n<=19):Node ks t (jR t.n).1
 |not (h:t.op=3) (hk:ks=[1]):Node ks t 1
 |log (h:t.op=4\/t.op=5) (hk:ks=[1,1]):Node ks t 1
 |ite (k:Int) (h:t.op=6) (hk:ks=[1,k,k]):Node ks t k
 |less (h:t.op=7) (hk:ks=[0,0]):Node ks t 1
 |equal (k:Int) (h:t.op=8) (hk:ks=[k,k]):Node ks t 1
 |num (h:9<=t.op/\t.op<=13) (hk:ks=[0,0]):Node ks t 0
def akX (v:Int):(jR v).1=0\/(jR v).1=1:=by
 unfold jR;repeat' split
 all_goals simp
def av1 {t:Tm}{ks:List Int}{k:Int}(hl:ks.length=t.args.length)(cI:∀x,x∈ks->x=0\/x=1)(h:sP t ks=(k,0)):Node ks t k:=by
 unfold sP at h;split at h
 .injection h with _ h;cases h
 rename_i bQ;split at h
 .rename_i h3;unfold sO at h;split at h
  .injection h with _ h;cases h
  rename_i ha0;have ha:t.args=[]:=Pe (by omega);split at h
  .rename_i h0;split at h
   .injection h with _ h;cases h
   .rename_i hc;injection h with h _
    subst h;refine .int h0 ha ?_;unfold lJ at hc;omega
  split at h
  .rename_i h0;split at h
   .injection h with _ h;cases h
   .rename_i hc;injection h with h _
    subst h;exact .bool h0 ha (by omega)
  split at h
  .injection h with _ h;cases h
  .rename_i g0 g1 hc;injection h with h _
   subst h;refine .var (by omega) ha ?_;unfold jR at hc;split at hc
   .simp at hc
   .omega
 rename_i h3;split at h
 .injection h with _ h;cases h
 rename_i hlen;have pC:ks.length=(dU t.op).1.length:=by
  refine vB λhh=>hlen (.inl hh)
 split at h
 .injection h with _ h;cases h
 rename_i av;have jL:∀j,j<(dU t.op).1.length->pO (dU t.op).1 ks j=true:=ye.1 (by simpa using av)
 have two:∀{n:Nat},ks.length=2->∃a b,ks=[a,b]:=λh=>by
  match ks,h with
  |[a,b],_=>exact⟨a,b,rfl⟩
 by_cases o3:t.op=3
 .have e:dU t.op=([1],1):=by simp[dU,o3]
  rw[e] at pC jL h
  match ks,pC with
  |[a],_=>
   have:=jL 0 (by simp);simp[pO] at this;simp at h;subst h this;exact .not o3 rfl
 by_cases CS:t.op=4\/t.op=5
 .have e:dU t.op=([1,1],1):=by simp[dU,o3,CS]
  rw[e] at pC jL h
  match ks,pC with
  |[a,b],_=>
   have t1:=jL 0 (by simp);have t2:=jL 1 (by simp);simp[pO] at t1 t2;simp at h;subst h t1 t2;exact .log CS rfl
 by_cases o6:t.op=6
 .have e:dU t.op=([1,-1,-1],-1):=by simp[dU,o6]
  rw[e] at pC jL h
  match ks,pC,cI with
  |[a,b,c],_,cI=>
   have t1:=jL 0 (by simp);have t3:=jL 2 (by simp);have hb:=cI b (by simp);have sB:¬b=-1:=by omega
   simp[pO] at t1;simp[pO,oy,sB] at t3;simp[oy,sB] at h;subst h t1 t3;exact .ite _ o6 rfl
 by_cases o7:t.op=7
 .have e:dU t.op=([0,0],1):=by simp[dU,o7]
  rw[e] at pC jL h
  match ks,pC with
  |[a,b],_=>
   have t1:=jL 0 (by simp);have t2:=jL 1 (by simp);simp[pO] at t1 t2;simp at h;subst h t1 t2;exact .less o7 rfl
 by_cases o8:t.op=8
 .have e:dU t.op=([-1,-1],1):=by simp[dU,o8]
  rw[e] at pC jL h
  match ks,pC,cI with
  |[a,b],_,cI=>
   have t2:=jL 1 (by simp);have ha:=cI a (by simp);have han:¬a=-1:=by omega
   simp[pO,oy,han] at t2;simp at h;subst h t2;exact .equal _ o8 rfl
 have e:dU t.op=([0,0],0):=by simp[dU,o3,CS,o6,o7,o8]
 rw[e] at pC jL h
 match ks,pC with
 |[a,b],_=>
  have t1:=jL 0 (by simp);have t2:=jL 1 (by simp);simp[pO] at t1 t2;simp at h;subst h t1 t2;exact .num (by omega) rfl
def vS:∀{L:Nat} {t:Tm} {k:Int},ba (L+1) t=(k,0)->Node (t.args.map λa=>(ba L a).1) t k/\(k=0\/k=1)
 |L,t,k,h=>by
  obtain⟨h1,h2⟩:=yr h
  have cI:∀x,x∈(t.args.map λa=>(ba L a).1)->x=0\/x=1:=by
   intro x hx;obtain⟨a,ha,rfl⟩:=dW.1 hx;cases L with
   |zero=>exact .inl rfl
   |succ L=>exact(vS (L:=L) (t:=a) (k:=(ba (L+1) a).1) (by rw[<-h1 a ha])).2
  have hn:=av1 (by simp) cI h2;refine⟨hn,?_⟩;cases hn with
  |int=>simp
  |bool=>simp
  |var=>exact akX _
  |not=>simp
  |log=>simp
  |ite k _ hk=>exact cI k (by rw[hk];simp)
  |less=>simp
  |equal=>simp
  |num=>simp
def oW (k:Int)(c:Cell):Prop:=(c.known=false->c=db)/\(c.known=true->(k=1->c.n=0\/c.n=1)/\(k=0->-1099511627776<=c.n/\c.n<=1099511627776))
def xy (k:Int):oW k db:=⟨λ_=>rfl,λh=>by cases h⟩
def DL (b:Bool):oW 1 (fb b):=⟨λh=>(by cases b<;>cases h),λ_=>⟨λ_=>(by cases b<;>simp[fb]),λh=>by cases h⟩⟩
def QS (n:Int):-1099511627776<=lJ n/\lJ n<=1099511627776:=by unfold lJ;omega
def ayw (cs:List Cell)(v:Int)(hv:0<=v/\v<=19):oW (jR v).1 (iJ cs v):=by
 unfold iJ;split
 .exact xy _
 .split
  .rename_i h;rw[h];exact DL _
  .rename_i h;refine⟨λh=>(by cases h),λ_=>⟨λh'=>absurd h' h,λ_=>QS _⟩⟩
def aw6 (a b:Int):-1099511627776<=rC a b/\rC a b<=1099511627776:=by
 unfold rC;have:=ahg (a.natAbs*b.natAbs);split<;>omega
def alU (op a b:Int)(ha:-1099511627776<=a/\a<=1099511627776)(hb:-1099511627776<=b/\b<=1099511627776):-1099511627776<=tT op a b/\tT op a b<=1099511627776:=by
 unfold tT;split
 .exact QS _
 split
 .exact QS _
 split
 .exact aw6 _ _
 split<;>omega
def Tt {α β:Type}{f:α->β}{l:List α}{x:β}(h:l.map f=[x]):∃a,l=[a]/\f a=x:=by
 match l,h with
 |[a],h=>exact⟨a,rfl,by simpa using h⟩
def uL {α β:Type}{f:α->β}{l:List α}{x y:β}(h:l.map f=[x,y]):∃a b,l=[a,b]/\f a=x/\f b=y:=by
 match l,h with
 |[a,b],h=>exact⟨a,b,rfl,by simpa using h⟩
def zx {α β:Type}{f:α->β}{l:List α}{x y z:β}(h:l.map f=[x,y,z]):∃a b c,l=[a,b,c]/\f a=x/\f b=y/\f c=z:=by
 match l,h with
 |[a,b,c],h=>exact⟨a,b,c,rfl,by simpa using h⟩
def Fo:∀{L:Nat} {t:Tm} {k:Int} (cs:List Cell),ba L t=(k,0)->oW k (aH L cs t)
 |0,t,k,cs,h=>xy _
 |L+1,t,k,cs,h=>by
  obtain⟨hn,hk⟩:=vS h;obtain⟨ha,_⟩:=yr h;have ih:∀a,a∈t.args->oW (ba L a).1 (aH L cs a):=λa hm=>Fo cs (show ba L a=((ba L a).1,0) by rw[<-ha a hm]);rw[uh];cases hn with
  |int h0 ha hn=>rw[if_pos (.inl h0)];exact⟨λh=>(by cases h),λ_=>⟨λh=>(by cases h),λ_=>hn⟩⟩
  |bool h0 ha hn=>rw[if_pos (.inr h0)];exact⟨λh=>(by cases h),λ_=>⟨λ_=>hn,λh=>by cases h⟩⟩
  |var h0 ha hn=>rw[if_neg (by omega),if_pos h0];exact ayw cs _ hn
  |not h0 hk=>
   rw[if_neg (by omega),if_neg (by omega),if_neg (by omega)];unfold dE;rw[if_pos h0];split
   .exact DL _
   .exact xy _
  |log h0 hk=>
   rw[if_neg (by omega),if_neg (by omega),if_neg (by omega)];unfold dE;rw[if_neg (by omega)];split
   .exact DL _
   rw[if_neg (by omega)];split
   .exact xy _
   exact DL _
  |ite k h0 dj=>
   obtain⟨a,b,c,hl,e1,e2,e3⟩:=zx dj;rw[hl] at ih ⊢;have r1:=ih a (by simp);have r2:=ih b (by simp);have r3:=ih c (by simp);rw[e1] at r1;rw[e2] at r2;rw[e3] at r3;rw[if_neg (by omega),if_neg (by omega)];simp only[fO,tO,aT,qs];split
   .rename_i hh;rcases(r1.2 hh.2).1 rfl with h1|h1<;>rw[h1]
    .exact r3
    .exact r2
   .unfold dE;rw[if_neg (by omega),if_neg (by omega),if_pos h0];simp only[aT,qs,vF];split
    .exact r2
    .exact xy _
  |less h0 hk=>
   rw[if_neg (by omega),if_neg (by omega),if_neg (by omega)];unfold dE;rw[if_neg (by omega),if_neg (by omega),if_neg (by omega)];split
   .exact xy _
   repeat' split
   all_goals exact DL _
  |equal k h0 hk=>
   rw[if_neg (by omega),if_neg (by omega),if_neg (by omega)];unfold dE;rw[if_neg (by omega),if_neg (by omega),if_neg (by omega)];split
   .exact xy _
   repeat' split
   all_goals exact DL _
  |num h0 dj=>
   obtain⟨a,b,hl,e1,e2⟩:=uL dj;rw[hl] at ih ⊢;have r1:=ih a (by simp);have r2:=ih b (by simp);rw[e1] at r1;rw[e2] at r2;rw[if_neg (by omega),if_neg (by omega),if_neg (by omega)];unfold dE;rw[if_neg (by omega),if_neg (by omega),if_neg (by omega)];simp only[fO,tO,aT,qs,vF];split
   .exact xy _
   rename_i ku;rw[if_neg (by omega),if_neg (by omega),if_neg (by omega)];have k1:(aH L cs a).known=true:=by
    cases e:(aH L cs a).known with
    |true=>rfl
    |false=>exact absurd (.inl e) ku
   have k2:(aH L cs b).known=true:=by
    cases e:(aH L cs b).known with
    |true=>rfl
    |false=>exact absurd (.inr e) ku
   exact⟨λh=>(by cases h),λ_=>⟨λh=>(by cases h),λ_=>alU _ _ _ ((r1.2 k1).2 rfl) ((r2.2 k2).2 rfl)⟩⟩
def MK:∀(L:Nat) (cs:List Cell) (t:Tm),bm L t<=60->((cm L cs t).length:Int)<=bm L t
 |0,cs,t,h=>by simp[bm] at h
 |L+1,cs,t,h=>by
  have h1:=xb (L+1) t;obtain⟨hl,hp⟩:=zB h;have hs:∀(l:List Tm) (n:Int),(∀a,a∈l->bm L a<=60)->dm (bm L) l n<=60->((l.map (cm L cs)).flatten.length:Int)+n<=dm (bm L) l n/\∀j,(((l.map (cm L cs)).getD j []).length:Int)+n<=dm (bm L) l n:=by
   intro l
   induction l with
   |nil=>intro n _ _;simp[dm]
   |cons a l ih=>
    intro n hp hm;have ha:=MK L cs a (hp a (by simp));unfold dm at hm ⊢;split at hm
    .omega
    .rename_i h60;rw[if_neg h60];obtain⟨i1,i2⟩:=ih (n+bm L a) (λb hb=>hp b (by simp[hb])) hm;refine⟨by rw[fO,Jb,mh];omega,λj=>?_⟩;cases j with
     |zero=>simp;omega
     |succ j=>have:=i2 j;simp at this ⊢;omega
  obtain⟨ri,gl⟩:=hs t.args 1 hp h;rw[zE];split
  .simp;omega
  split
  .split<;>simp<;>omega
  split
  .have:=gl (2-(aT (t.args.map (aH L cs)) 0).n).toNat;show _<=dm _ _ _;omega
  split
  .simp;omega
  .show _<=dm _ _ _;omega
@[simp] def aIT (x y:List Int):vl (ints x) 0 (ints y)=ints y:=zyz
@[simp] def ay5 (x y:Cell):vl (cg x) 0 (cg y)=cg y:=zyz
@[simp] def aHz (a b:List Int):D.list (a.map D.int++b.map D.int)=ints (a++b):=by simp[ints]
def lists (l:List (List Int)):D:=.list (l.map ints)
@[simp] def aHL (l:List (List Int)):(lists l).l=l.map ints:=zyz
def ala (l:List (List Int))(hl:l.length<=1000)(hs:l.flatten.length<=1000000):ah T1 156 [lists l] (ints l.flatten):=by
 refine .of_tree rfl amd aBL ?_;simp[YO];have hb:∀k,(l.take k).flatten.length<=l.flatten.length:=by
  intro k
  conv=>rhs;rw[<-Pn k l]
  rw[List.flatten_append,mh];omega
 have bN:∀k (hk:k<l.length),(l.take (k+1)).flatten=(l.take k).flatten++l[k]:=λk hk=>by
  rw[lG hk,List.flatten_append];simp
 refine aN.forRounds l.length (λk=>[.int ((l.take k).flatten.length:Nat),.int k]) (λk=>[]) ?_ (λk hk=>?_) ?_
 .simp
 .have hw:=bu hk (by omega);have h1:=bN k hk;have h2:=hb (k+1);rw[h1] at h2 ⊢;rw[mh] at h2 ⊢;generalize (l.take k).flatten.length=m at*;have uC:i64.wrap ((m:Int)+(l[k].length:Int))=(m:Int)+l[k].length:=aW (by omega);have y6:¬((m:Int)+l[k].length<0):=by omega
  simp[aiw,Od,hk,hw,uC,y6]
 .simp[aiw,Od];have acJ:ah T1 180 [.list [],.int (l.flatten.length:Nat)] (.list []):=by
   refine .of_ext (g:=λ_ ds=>B8 ds) rfl ⟨0,λ_ _=>?_⟩;show(if(0:Int)<=(l.flatten.length:Nat)/\((l.flatten.length:Nat):Int)<=4294967296 then some (D.list []) else none)=some (D.list []);rw[if_pos (by omega)]
  rw[List.length_flatten] at acJ;refine⟨_,acJ,?_⟩;refine aN.forRounds l.length (λk=>[.none,.int k]) (λk=>[ints (l.take k).flatten]) ?_ (λk hk=>?_) ?_
  .simp[ints]
  .have hw:=bu hk (by omega);have h1:=bN k hk;have h2:=hb (k+1);rw[h1] at h2 ⊢;rw[mh] at h2;generalize (l.take k).flatten=m at*;simp[aix,Oe,hk,hw];omega
  .simp[aix,Oe]
def anj {op:Int}{l:List Cell}(h:(dE op l).known=false):dE op l=db:=by
 have hy:∀b,(fb b).known=true:=λb=>by cases b<;>simp[fb]
 unfold dE at h ⊢;split<;>rename_i c1
 .rw[if_pos c1] at h;split<;>rename_i c2
  .rw[if_pos c2,hy] at h;cases h
  .rfl
 rw[if_neg c1] at h;split<;>rename_i c2
 .rw[if_pos c2,hy] at h;cases h
 rw[if_neg c2] at h;split<;>rename_i c3
 .rw[if_pos c3] at h;split<;>rename_i c4
  .rw[if_pos c4,c4.1] at h;cases h
  .rfl
 rw[if_neg c3] at h;split<;>rename_i c4
 .rfl
 rw[if_neg c4] at h
 repeat' split at h
 all_goals first|(rw[hy] at h;cases h)|cases h
def WJ:∀(L:Nat) (cs:List Cell) (t:Tm) (k:Int),t.OK->bm L t<=60->ba L t=(k,0)->ah T1 116 [Lg cs,cQ t] (.tup [cg (aH L cs t),ints (cm L cs t)])
 |0,cs,t,k,ht,hm,hc=>by simp[bm] at hm
 |L+1,cs,t,k,ht,hm,hc=>by
  refine .of_tree rfl ami aB9 ?_;obtain⟨hl,hp⟩:=zB hm;obtain⟨ha,_⟩:=yr hc;obtain⟨hn,acR⟩:=vS hc;have dS:∀a,a∈t.args->ah T1 116 [Lg cs,cQ a] (.tup [cg (aH L cs a),ints (cm L cs a)]):=λa bP=>WJ L cs a (ba L a).1 (ht.arg bP) (hp a bP) (by rw[<-ha a bP]);have lV:∀a,a∈t.args->oW (ba L a).1 (aH L cs a):=λa bP=>Fo cs (show ba L a=((ba L a).1,0) by rw[<-ha a bP]);have Sf:∀a,a∈t.args->(cm L cs a).length<=60:=λa bP=>by have:=MK L cs a (hp a bP);have:=hp a bP;omega
  by_cases cI:t.op=0\/t.op=1
  ·
   have e1:aH (L+1) cs t=⟨true,t.n⟩:=by rw[uh,if_pos cI]
   have e2:cm (L+1) cs t=[]:=by rw[zE,if_pos cI]
   rw[e1,e2];rcases cI with h|h<;>simp[IY,h]<;>exact⟨rfl,rfl⟩
  have o0:t.op≠0:=λh=>cI (.inl h);have o1:t.op≠1:=λh=>cI (.inr h);by_cases o2:t.op=2
  .have hv:0<=t.n:=by
    cases hn with
    |var h0 ha hn=>exact hn.1
    |_=>omega
   have e1:aH (L+1) cs t=iJ cs t.n:=by rw[uh,if_neg cI,if_pos o2]
   have e2:cm (L+1) cs t=if(iJ cs t.n).known=true then[] else[t.n]:=by rw[zE,if_neg cI,if_pos o2]
   rw[e1,e2];simp[IY,o2];refine⟨_,azr cs t.n hv,?_⟩;cases e:(iJ cs t.n).known
   .have:iJ cs t.n=db:=by
     unfold iJ at e ⊢;split
     .rfl
     .rename_i h;rw[if_neg h] at e;split at e
      .cases hb:decide ((cellAt cs t.n).n≠0)<;>rw[hb] at e<;>cases e
      .cases e
    rw[this];simp[ints]
   .have h:iJ cs t.n=⟨true,(iJ cs t.n).n⟩:=by rw[<-e]
    rw[h];simp[ints]
    try rfl
  have hlen:1<=t.args.length/\(t.op≠3->2<=t.args.length)/\(t.op=6->3<=t.args.length):=by
   cases hn with
   |int h0 ha hn=>omega
   |bool h0 ha hn=>omega
   |var h0 ha hn=>omega
   |not h0 hk=>obtain⟨a,hl,_⟩:=Tt hk;rw[hl];simp;omega
   |log h0 hk=>obtain⟨a,b,hl,_⟩:=uL hk;rw[hl];simp;omega
   |ite k h0 hk=>obtain⟨a,b,c,hl,_⟩:=zx hk;rw[hl];simp
   |less h0 hk=>obtain⟨a,b,hl,_⟩:=uL hk;rw[hl];simp;omega
   |equal k h0 hk=>obtain⟨a,b,hl,_⟩:=uL hk;rw[hl];simp;omega
   |num h0 hk=>obtain⟨a,b,hl,_⟩:=uL hk;rw[hl];simp;omega
  have RA:9<=t.op->(-1099511627776<=(aT (t.args.map (aH L cs)) 0).n/\(aT (t.args.map (aH L cs)) 0).n<=1099511627776)/\(-1099511627776<=(aT (t.args.map (aH L cs)) 1).n/\(aT (t.args.map (aH L cs)) 1).n<=1099511627776):=by
   intro h9;have rb:∀c:Cell,oW 0 c->-1099511627776<=c.n/\c.n<=1099511627776:=by
    intro c hr;cases e:c.known with
    |false=>rw[hr.1 e];simp
    |true=>exact(hr.2 e).2 rfl
   cases hn with
   |num h0 hk=>
    obtain⟨a,b,hl,ea,eb⟩:=uL hk;rw[hl] at lV ⊢;have r1:=lV a (by simp);have r2:=lV b (by simp);rw[ea] at r1;rw[eb] at r2;exact⟨rb _ r1,rb _ r2⟩
   |log h0 hk=>omega
   |_=>omega
  have h6:t.op=6->(aT (t.args.map (aH L cs)) 0).known=true->(aT (t.args.map (aH L cs)) 0).n=0\/(aT (t.args.map (aH L cs)) 0).n=1:=by
   intro o6 ku;cases hn with
   |ite k h0 hk=>
    obtain⟨a,b,c,hl,ea,_⟩:=zx hk;rw[hl] at lV ku ⊢;have r1:=lV a (by simp);rw[ea] at r1;exact(r1.2 ku).1 rfl
   |log h0 hk=>omega
   |num h0 hk=>omega
   |_=>omega
  have bQ:t.op<3\/8<t.op->9<=t.op:=by
   cases hn with
   |log h0 hk=>omega
   |num h0 hk=>omega
   |_=>omega
  have e1:aH (L+1) cs t=if t.op=6/\(aT (t.args.map (aH L cs)) 0).known=true then aT (t.args.map (aH L cs)) (2-(aT (t.args.map (aH L cs)) 0).n).toNat else dE t.op (t.args.map (aH L cs)):=by
   rw[uh,if_neg cI,if_neg o2]
  have e2:cm (L+1) cs t=if t.op=6/\(aT (t.args.map (aH L cs)) 0).known=true then(t.args.map (cm L cs)).getD (2-(aT (t.args.map (aH L cs)) 0).n).toNat [] else if(dE t.op (t.args.map (aH L cs))).known=true then[] else(t.args.map (cm L cs)).flatten:=by
   rw[zE,if_neg cI,if_neg o2]
  rw[e1,e2];simp[IY,o0,o1,o2];refine⟨by omega,?_⟩;refine aN.forRounds t.args.length (λk=>[.int k]) (λk=>[cells ((t.args.map (aH L cs)).take k++List.replicate (t.args.length-k) db),lists ((t.args.map (cm L cs)).take k++List.replicate (t.args.length-k) [])]) ?_ (λk hk=>?_) ?_
  .simp[cells,lists,ints]
  .have hw:=bu hk (by omega);have cR:=bW hk;have hr:=dS _ cR;have s1:=Wv (t.args.map (aH L cs)) db (n:=t.args.length) (by simp) hk;have s2:=Wv (t.args.map (cm L cs)) [] (n:=t.args.length) (by simp) hk;rw[<-s1,<-s2];have l1:((t.args.map (aH L cs)).take k++List.replicate (t.args.length-k) db).length=t.args.length:=by simp;omega
   have l2:((t.args.map (cm L cs)).take k++List.replicate (t.args.length-k) []).length=t.args.length:=by simp;omega
   have g1:(t.args.map (aH L cs))[k]'(by simpa using hk)=aH L cs t.args[k]:=by simp
   have g2:(t.args.map (cm L cs))[k]'(by simpa using hk)=cm L cs t.args[k]:=by simp
   rw[g1,g2];generalize (t.args.map (aH L cs)).take k++List.replicate (t.args.length-k) db=A at*;generalize (t.args.map (cm L cs)).take k++List.replicate (t.args.length-k) []=B at*;generalize aH L cs t.args[k]=c at*;generalize cm L cs t.args[k]=d at*;simp[Wf,Iz,hk];refine⟨_,hr,?_⟩;simp[hw,hk,l1,l2,cells,lists]
  .have hA:(t.args.map (aH L cs)).take t.args.length++List.replicate (t.args.length-t.args.length) db=t.args.map (aH L cs):=by rw[Pp,List.replicate_zero,km,Ed (by simp)]
   have hB:(t.args.map (cm L cs)).take t.args.length++List.replicate (t.args.length-t.args.length) []=t.args.map (cm L cs):=by rw[Pp,List.replicate_zero,km,Ed (by simp)]
   have lA:(t.args.map (aH L cs)).length=t.args.length:=by simp
   have lB:(t.args.map (cm L cs)).length=t.args.length:=by simp
   have jI:∀l:List Tm,(∀a,a∈l->a∈t.args)->((l.map (cm L cs)).flatten.length<=l.length*60):=by
    intro l
    induction l with
    |nil=>intro _;simp
    |cons a l ih=>
     intro h;have h1:=Sf a (h a (by simp));have h2:=ih (λb hb=>h b (by simp[hb]));rw[fO,Jb,mh,mY];omega
   have jI:=jI t.args (λa h=>h);have hBg:∀m:Nat,(Option.map (cm L cs) t.args[m]?).getD []=(t.args.map (cm L cs)).getD m []:=λm=>by simp[aK]
   rw[hA,hB];generalize t.args.map (aH L cs)=A at*;generalize t.args.map (cm L cs)=B at*;have g0:0<A.length:=by omega
   have yD:A[0]=aT A 0:=by simp[aT,g0]
   by_cases Ly:t.op=6/\(aT A 0).known=true
   .obtain⟨o6,kn⟩:=Ly;have hv:=h6 o6 kn;have hw:i64.wrap (2-(aT A 0).n)=2-(aT A 0).n:=aW (by omega);have h3:3<=t.args.length:=hlen.2.2 o6;rw[if_pos ⟨o6,kn⟩,if_pos ⟨o6,kn⟩];obtain⟨m,bP⟩:∃m:Nat,m=(2-(aT A 0).n).toNat:=⟨_,rfl⟩
    have F8:m<A.length:=by omega
    have R4:m<B.length:=by omega
    simp[Wf,Iz,o6,kn,g0,yD,hw,<-bP,F8,R4,cells,lists];refine⟨by omega,by omega,by simp[aT,F8],?_⟩;rw[hBg,aK,bI R4];rfl
   .rw[if_neg Ly,if_neg Ly];have aq8:=azl t.op A (by omega) (by omega) (by omega) RA bQ;have ara:=ala B (by omega) (by omega);simp[Wf,Iz,g0,yD];rw[if_neg Ly];refine⟨_,aq8,?_⟩;cases e:(dE t.op A).known
    .have eH:dE t.op A=db:=anj e;rw[eH];simp;exact ara
    .have h:dE t.op A=⟨true,(dE t.op A).n⟩:=by rw[<-e]
     rw[h];simp[ints]
     try rfl
def azp (L:Nat)(cs:List Cell)(t:Tm)(k:Int)(h1:t.OK)(h2:bm L t<=60)(h3:ba L t=(k,0)):ah T 116 [Lg cs,cQ t] (.tup [cg (aH L cs t),ints (cm L cs t)]):=Wt rfl (WJ L cs t k h1 h2 h3)
def l0 (n:Nat)(g:Nat->Bool):Int:=if(List.range n).findIdx g<n then((List.range n).findIdx g:Nat) else-1
def wW (n:Nat)(g:Nat->Bool):(l0 n g=-1/\∀k,k<n->g k=false)\/∃k:Nat,k<n/\l0 n g=k/\g k=true/\∀i,i<k->g i=false:=by
 unfold l0;split
 .rename_i h;refine .inr ⟨_,h,rfl,?_,λi hi=>?_⟩
  .have:=List.findIdx_getElem (p:=g) (xs:=List.range n) (w:=by simpa using h);simpa using this
  .have:=List.not_of_lt_findIdx (p:=g) (xs:=List.range n) hi;simpa using this
 .rename_i h;refine .inl ⟨rfl,λk hk=>?_⟩;have:=List.not_of_lt_findIdx (p:=g) (xs:=List.range n) (i:=k) (by omega);simpa using this
def Mr {n:Nat}{g:Nat->Bool}(h:∀k,k<n->g k=false):l0 n g=-1:=by
 rcases wW n g with⟨h1,_⟩|⟨k,hk,_,h2,_⟩
 .exact h1
 .rw[h k hk] at h2;cases h2
def Ms {n k:Nat}{g:Nat->Bool}(hk:k<n)(h:g k=true)(hj:∀i,i<k->g i=false):l0 n g=k:=by
 rcases wW n g with⟨_,h1⟩|⟨m,hm,h1,h2,h3⟩
 .rw[h1 k hk] at h;cases h
 .rcases Nat.lt_trichotomy m k with h4|h4|h4
  .rw[hj m h4] at h2;cases h2
  .rw[h1,h4]
  .rw[h3 k h4] at h;cases h
def ad3 (n:Nat)(g:Nat->Bool):decide (0<=l0 n g)=(List.range n).any g:=by
 rcases wW n g with⟨h1,h2⟩|⟨m,hm,h1,h2,h3⟩
 .rw[h1]
  symm
  simp;exact h2
 .rw[h1];simp;exact⟨m,hm,h2⟩
def ali (l:List Rule)(f:Nat)(caps:List D)(g:Nat->Bool)(hg:∀k (hk:k<l.length),ah T f (uf l[k]::caps) (.bool (g k)))(hl:l.length<=4294967296):
 ah T 113 [rules l,.clo f caps] (.int (l0 l.length g)):=by
 refine zyw 30 aBR ?_;simp[YU];refine .scan l.length (λk=>g k=false) (λk=>[.int 0,.int k]) (λ_=>[]) ?_ (λk hk hj ho=>?_) (λk hk hj ho=>?_) (λhj=>?_)
 .simp
 .have hw:=bu hk hl;simp[V9,Iu,hk,hw];refine⟨_,_,⟨rfl,rfl⟩,_,hg k hk,?_⟩;simp[ho,hw]
 .have he:=Ms hk (by simpa using ho) hj;simp[V9,Iu,hk,he];refine⟨_,_,⟨rfl,rfl⟩,_,hg k hk,?_⟩;simp[ho]
 .have he:=Mr hj;simp[V9,Iu,he]
def alj (l:List Int)(f:Nat)(caps:List D)(g:Nat->Bool)(hg:∀k (hk:k<l.length),ah T f (.int l[k]::caps) (.bool (g k)))(hl:l.length<=4294967296):
 ah T 173 [ints l,.clo f caps] (.int (l0 l.length g)):=by
 refine zyw 25 aBS ?_;simp[YV];refine .scan l.length (λk=>g k=false) (λk=>[.int 0,.int k]) (λ_=>[]) ?_ (λk hk hj ho=>?_) (λk hk hj ho=>?_) (λhj=>?_)
 .simp
 .have hw:=bu hk hl;simp[Wa,Iv,hk,hw,ints];refine⟨_,_,⟨rfl,rfl⟩,_,hg k hk,?_⟩;simp[ho,hw]
 .have he:=Ms hk (by simpa using ho) hj;simp[Wa,Iv,hk,he,ints];refine⟨_,_,⟨rfl,rfl⟩,_,hg k hk,?_⟩;simp[ho]
 .have he:=Mr hj;simp[Wa,Iv,he,ints]
def alh (l:List Alter)(f:Nat)(caps:List D)(g:Nat->Bool)(hg:∀k (hk:k<l.length),ah T f (qM l[k]::caps) (.bool (g k)))(hl:l.length<=4294967296):
 ah T 104 [alters l,.clo f caps] (.int (l0 l.length g)):=by
 refine zyw 13 aBQ ?_;simp[YT];refine .scan l.length (λk=>g k=false) (λk=>[.int 0,.int k]) (λ_=>[]) ?_ (λk hk hj ho=>?_) (λk hk hj ho=>?_) (λhj=>?_)
 .simp
 .have hw:=bu hk hl;simp[V8,It,hk,hw];refine⟨_,_,⟨rfl,rfl⟩,_,hg k hk,?_⟩;simp[ho,hw]
 .have he:=Ms hk (by simpa using ho) hj;simp[V8,It,hk,he];refine⟨_,_,⟨rfl,rfl⟩,_,hg k hk,?_⟩;simp[ho]
 .have he:=Mr hj;simp[V8,It,he]
def alc (l:List Int)(f:Nat)(caps:List D)(g:Nat->Bool)(hg:∀k (hk:k<l.length),ah T f (.int l[k]::caps) (.bool (g k)))(hl:l.length<=4294967296):
 ah T 150 [ints l,.clo f caps] (.bool ((List.range l.length).any g)):=by
 refine zyw 24 aBN ?_;simp[YQ];refine⟨_,alj l f caps g hg hl,?_⟩;have:=ad3 l.length g;simp[<-this]
def alb (l:List Alter)(f:Nat)(caps:List D)(g:Nat->Bool)(hg:∀k (hk:k<l.length),ah T f (qM l[k]::caps) (.bool (g k)))(hl:l.length<=4294967296):
 ah T 55 [alters l,.clo f caps] (.bool ((List.range l.length).any g)):=by
 refine zyw 12 aBM ?_;simp[YP];refine⟨_,alh l f caps g hg hl,?_⟩;have:=ad3 l.length g;simp[<-this]
def qO (cs:List Cell)(t:Tm):Cell:=if(jc t).2=0 then aH 8 cs t else db
def E0 {t:Tm}(h:(jc t).2=0):bm 8 t<=60/\ba 8 t=((jc t).1,0):=by
 unfold jc at h ⊢;split at h
 .cases h
 .rename_i hm;rw[if_neg hm];exact⟨by omega,by rw[<-h]⟩
def azh (t:Tm)(cs:List Cell)(ht:t.OK):ah T 72 [cQ t,cells cs] (cg (qO cs t)):=by
 refine zyw 36 aB2 ?_;simp[Zg,qO];refine⟨_,WG t ht,?_⟩;by_cases h:(jc t).2=0
 .obtain⟨h1,h2⟩:=E0 h;simp[h];refine⟨_,azp 8 cs t _ ht h1 h2,?_⟩;simp
  try rfl
 .simp[h]
  try rfl
def rv:List Int:=[6,7,10,12,13,14,15,16,20,21]
def fu (ask:Int):Int×Bool:=if ask<0\/22<=ask then(0,false) else if hasB rv ask then(0,true) else(1,true)
def Uu (ask:Int):ah T 69 [.int ask] (.tup [.int (fu ask).1,.bool (fu ask).2]):=by
 refine zyw 18 az1 ?_;simp[Xk,fu];by_cases h0:ask<0
 .simp[h0]
 by_cases h1:22<=ask
 .simp[h0,h1]
 simp[h0,h1];refine⟨_,AG rv ask (by decide),?_⟩;cases h:hasB rv ask<;>simp[h]
def MM:Tm:=⟨0,0,[]⟩
def ln (o:Order)(ask:Int)(k:Nat):Bool:=decide ((o.rules.getD k default).ask=ask)
def tq (o:Order)(i:Int):Tm:=(o.rules.getD i.toNat default).term
def findF (o:Order)(ask:Int):Tm×Int:=
 if(fu ask).2=false then(MM,1) else if l0 o.rules.length (ln o ask)<0 then(MM,4) else
    if(jc (tq o (l0 o.rules.length (ln o ask)))).2≠0\/(jc (tq o (l0 o.rules.length (ln o ask)))).1≠(fu ask).1 then(MM,11) else(tq o (l0 o.rules.length (ln o ask)),0)
def II {o:Order}(ho:o.OK){m:Nat}(hm:m<o.rules.length):o.rules[m].term.OK:=(ho.2.2 _ (bW hm)).2
def TD:MM.OK:=by
 exact .mk 0 0 [] (by unfold bl;omega) (by unfold bl;omega) (by decide) (λ_ h=>by cases h)
def abE {o:Order}(ho:o.OK)(ask:Int):(findF o ask).1.OK:=by
 unfold findF;split
 .exact TD
 split
 .exact TD
 split
 .exact TD
 .rename_i h _;rcases wW o.rules.length (ln o ask) with⟨h1,h2⟩|⟨m,hm,h1,h2,h3⟩
  .exact absurd (by rw[h1];decide) h
  .rw[h1];simp[tq,hm];exact II ho hm
def aoQ (r:Rule)(ask:Int):ah T 114 [uf r,.ref (.int ask)] (.bool (decide (r.ask=ask))):=by
 refine zyw 29 az2 ?_;simp[Xm]
def ag2 (o:Order)(ask:Int)(ho:o.OK)(hl:o.rules.length<=4294967296):ah T 71 [gz o,.int ask] (.tup [cQ (findF o ask).1,.int (findF o ask).2]):=by
 refine zyw 28 az3 ?_;simp[Xl,findF];refine⟨_,Uu ask,?_⟩;cases h0:(fu ask).2
 .simp[h0]
  try rfl
 simp[h0];refine⟨_,ali o.rules 114 [.ref (.int ask)] (ln o ask) (λk hk=>by simpa [ln,hk] using aoQ o.rules[k] ask) hl,?_⟩;rcases wW o.rules.length (ln o ask) with⟨h1,h2⟩|⟨m,hm,h1,h2,h3⟩
 .rw[h1];simp
  try rfl
 .rw[h1];have y6:¬((m:Int)<0):=by omega
  have zf:o.rules[m].term.OK:=II ho hm;simp[hm,tq,y6];refine⟨_,WG _ zf,?_⟩;by_cases h4:(jc o.rules[m].term).2=0<;>by_cases h5:(jc o.rules[m].term).1=(fu ask).1<;>simp[h4,h5]<;>try rfl
def nQ (o:Order)(ask:Int)(cs:List Cell):Cell×Int:=
 if(findF o ask).2≠0 then(db,(findF o ask).2) else
    (if(fu ask).1=0/\(qO cs (findF o ask).1).known=true then⟨true,min (max (qO cs (findF o ask).1).n 0) 20000⟩ else qO cs (findF o ask).1,0)
def awK (o:Order)(ask:Int)(cs:List Cell)(ho:o.OK)(hl:o.rules.length<=4294967296):ah T 34 [gz o,.int ask,cells cs] (.tup [cg (nQ o ask cs).1,.int (nQ o ask cs).2]):=by
 refine zyw 27 azZ ?_;simp[Xi];refine⟨_,ag2 o ask ho hl,?_⟩;have hf:(findF o ask).1.OK:=abE ho ask;by_cases h:(findF o ask).2=0
 .simp[h,nQ];refine⟨_,azh _ cs hf,_,Uu ask,?_⟩;generalize qO cs (findF o ask).1=c;obtain⟨kn,n⟩:=c;by_cases h1:(fu ask).1=0
  .cases kn
   .simp[h1,cg]
   .by_cases h2:n<0
    .have:min (max n 0) 20000=0:=by omega
     simp[h1,cg,h2,this];rfl
    .by_cases h3:20000<n
     .have:min (max n 0) 20000=20000:=by omega
      simp[h1,cg,h2,h3,this];rfl
     .have:min (max n 0) 20000=n:=by omega
      simp[h1,cg,h2,h3,this];rfl
  .simp[h1,cg]
 .simp[h,nQ]
  try rfl
def aiG (b:Bool):ah T 58 [.bool b] (cg (fb b)):=by
 refine zyw 16 aBJ ?_;cases b<;>simp[YM,fb]<;>rfl
def yC (kind sign:Int)(x:Fact):Bool:=decide (x.kind=kind)&&decide (x.at_=sign)
def jE (f:File)(kind sign:Int):Cell:=match f.facts.find? (yC kind sign) with|none=>db|some x=>fb (decide (x.n≠0))
def sy {α:Type}{p:α->Bool}:∀{l:List α} {k:Nat} (hk:k<l.length),p l[k]=true->(∀j (hj:j<k),p (l[j]'(by omega))=false)->l.find? p=some l[k]
 |a::l,0,hk,h,hj=>by simp at h;simp[h]
 |a::l,k+1,hk,h,hj=>by
  have h0:=hj 0 (by omega);simp at h0;simp only[Pg,h0,List.getElem_cons_succ];exact sy (by simpa using hk) (by simpa using h) (λj bf=>by simpa using hj (j+1) (by omega))
def uj {α:Type}{p:α->Bool}{l:List α}(h:∀j (hj:j<l.length),p l[j]=false):l.find? p=none:=by
 rw[vE];intro x hx;obtain⟨j,hj,rfl⟩:=lE hx;rw[h j hj];decide
def ID (f:File)(kind sign:Int)(hl:f.facts.length<=4294967296):ah T 59 [dK f,.int kind,.int sign] (cg (jE f kind sign)):=by
 refine zyw 17 aBF ?_;simp[YJ];refine .scan f.facts.length (λk=>yC kind sign (f.facts.getD k default)=false) (λk=>[.int k]) (λ_=>[cg db]) ?_ (λk hk hj ho=>?_) (λk hk hj ho=>?_) (λhj=>?_)
 .simp
 .have hw:=bu hk hl;simp[hk,yC] at ho;by_cases h1:f.facts[k].kind=kind<;>by_cases h2:f.facts[k].at_=sign
  .exact absurd h2 (ho h1)
  all_goals simp[V4,Iq,hk,hw,h1,h2]
 .have hw:=bu hk hl;have hf:jE f kind sign=fb (decide (f.facts[k].n≠0)):=by
   unfold jE;rw[sy hk (by simpa [hk] using ho) (λj bf=>by have:=hj j bf;simpa [show j<f.facts.length by omega] using this)]
  simp[hk,yC] at ho;simp[V4,Iq,hk,hw,ho,hf];refine⟨_,aiG _,?_⟩;simp
  try rfl
 .have hf:jE f kind sign=db:=by
   unfold jE;rw[uj (λj bf=>by have:=hj j bf;simpa [bf] using this)]
  simp[V4,Iq,hf]
  try rfl
def cV (r:Realm)(c:Int):Int:=if aG c r.cities.length=true then(r.cities.getD c.toNat default).order else-1
def rL (r:Realm)(c:Int):ah T 57 [aU r,.int c] (.int (cV r c)):=by
 refine zyw 14 aBt ?_;simp[Yw,cV];refine⟨_,gL c r.cities.length,?_⟩;cases h:aG c r.cities.length
 .simp[h]
 .simp[aG] at h;have h1:c.toNat<r.cities.length:=by omega
  simp[h,h1]
def tE (day:Int)(l:List Sign):List Sign:=l.takeWhile λs=>decide (s.day<=day)
def DZ (day:Int)(l:List Act):List Act:=l.takeWhile λs=>decide (s.day<=day)
def jC (n:Nat)(a:Alter):Bool:=decide (a.at_<=(n:Int))
def jX (n:Nat)(x:Fact):Bool:=aG x.at_ n
def dc (f:File)(day:Int):File:=
 ⟨f.bill,tE day f.signs,f.alters.filter (jC (tE day f.signs).length),DZ day f.acts,f.facts.filter (jX (tE day f.signs).length)⟩
def Ax {α:Type}(p:α->Bool):∀(l:List α),∃m,m<=l.length/\l.takeWhile p=l.take m/\(∀k (hk:k<l.length),k<m->p l[k]=true)/\(∀hk:m<l.length,p l[m]=false)
 |[]=>⟨0,by simp,by simp,λk hk=>by simp at hk,λhk=>by simp at hk⟩
 |a::l=>by
  by_cases h:p a=true
  .obtain⟨m,h1,h2,h3,h4⟩:=Ax p l;refine⟨m+1,by simp;omega,by simp[h,h2],λk hk hm=>?_,λhk=>?_⟩
   .cases k with
    |zero=>simpa using h
    |succ k=>simpa using h3 k (by simpa using hk) (by omega)
   .simpa using h4 (by simpa using hk)
  .refine⟨0,by simp,by simp[h],λk hk hm=>by omega,λhk=>by simpa using h⟩
def xE {α:Type}(p:α->Bool)(l:List α){k:Nat}(hk:k<l.length):(l.take (k+1)).filter p=(l.take k).filter p++if p l[k] then[l[k]] else[]:=by
 rw[lG hk,D9]
 congr 1
 cases h:p l[k]<;>simp[h]
def m5 (b:Bill)(w x y z:D):D:=.agg [.int b.drawer,.int b.drawee,.int b.payee,.int b.sum,.int b.currency,.int b.tenor.kind,.int b.tenor.n,.int b.tenor.unit,.int b.day,.int b.city,.int b.pay,.int b.need,.int b.rate,.int b.flags,.int b.parts,w,x,y,z]
@[simp] def aEY (b:Bill)(w x y z:D):D.agg (eU (m5 b w x y z).cells 16 [D.none])=m5 b w .none y z:=zyz
@[simp] def aEZ (b:Bill)(w x y z:D):D.agg (eU (m5 b w x y z).cells 18 [D.none])=m5 b w x y .none:=zyz
def mD {α:Type}(l:List α):D:=match l with|[]=>.list []|_=>.none
@[simp] def aHl {α:Type}:mD ([]:List α)=.list []:=rfl
@[simp] def adb {α:Type}(l:List α)(x:α):mD (l++[x])=.none:=by cases l<;>rfl
def aiF (f:File)(day:Int)(h1:f.signs.length<=4294967295)(h2:f.acts.length<=4294967295)(h3:f.alters.length<=4294967295)(h4:f.facts.length<=4294967295):ah T 24 [dK f,.int day] (dK (dc f day)):=by
 refine zyw 8 aBE ?_;simp[YI];obtain⟨m,hm,hS,LA,wg⟩:=Ax (λs:Sign=>decide (s.day<=day)) f.signs;obtain⟨n,hn,hA,Rl,Rm⟩:=Ax (λs:Act=>decide (s.day<=day)) f.acts;refine aN.forRounds m (λk=>[.int k]) (λk=>[signs (f.signs.take k),m5 f.bill (mD (f.signs.take k)) (.list []) (.list []) (.list [])]) ?_ (λk hk=>?_) ?_
 .simp[m5,signs]
  try rfl
 .have br:k<f.signs.length:=by omega
  have hw:=bu br (by omega);have hd:=LA k br hk;simp at hd;have ej:¬day<f.signs[k].day:=by omega
  have hle:(k:Int)+1<=4294967296:=by omega
  have ht:=lG br;rw[ht];have hlen:(f.signs.take k).length=k:=by simp;omega
  generalize f.signs.take k=A at*;simp[V0,Ik,br,hw,ej,hlen];exact⟨hle,by simp[signs],rfl⟩
 have hSl:(f.signs.take m).length<=4294967295:=by rw[eN];omega
 have Rn:dc f day=⟨f.bill,f.signs.take m,f.alters.filter (jC (f.signs.take m).length),f.acts.take n,f.facts.filter (jX (f.signs.take m).length)⟩:=by
  unfold dc tE DZ;rw[hS,hA]
 rw[Rn];generalize f.signs.take m=S at*;have hAl:(f.acts.take n).length<=4294967295:=by rw[eN];omega
 by_cases bP:m<f.signs.length
 case' pos=>
  have hd:=wg bP;simp at hd;simp[V0,Ik,bP,hd];generalize D.bool true=bb
 case' neg=>
  have y4:m=f.signs.length:=by omega
  simp[V0,Ik,bP,y4];generalize D.bool false=bb
 all_goals
  refine aN.forRounds n (λk=>[.int k]) (λk=>[acts (f.acts.take k),m5 f.bill (mD S) (.list []) (mD (f.acts.take k)) (.list [])]) ?_ (λk hk=>?_) ?_
  .simp[acts]
  .have br:k<f.acts.length:=by omega
   have hw:=bu br (by omega);have hd:=Rl k br hk;simp at hd;have ej:¬day<f.acts[k].day:=by omega
   have hle:(k:Int)+1<=4294967296:=by omega
   have ht:=lG br;rw[ht];have hlen:(f.acts.take k).length=k:=by simp;omega
   generalize f.acts.take k=A at*;simp[V1,Il,br,hw,ej,hlen];exact⟨hle,by simp[acts],rfl⟩
  generalize f.acts.take n=A at*;by_cases gE:n<f.acts.length
  case' pos=>
   have hd:=Rm gE;simp at hd;simp[V1,Il,gE,hd];generalize D.bool true=bc
  case' neg=>
   have wD:n=f.acts.length:=by omega
   simp[V1,Il,gE,wD];generalize D.bool false=bc
  all_goals
   refine aN.forRounds f.alters.length (λk=>[.int k]) (λk=>[m5 f.bill (mD S) (mD ((f.alters.take k).filter (jC S.length))) (mD A) (.list []),alters ((f.alters.take k).filter (jC S.length))]) ?_ (λk hk=>?_) ?_
   .simp[alters]
   .have hw:=bu hk (by omega);have ht:=xE (jC S.length) f.alters hk;rw[ht];have hlen:((f.alters.take k).filter (jC S.length)).length<=k:=ij (qt _ _) (by simp;omega);generalize (f.alters.take k).filter (jC S.length)=B at*;by_cases hd:f.alters[k].at_<=(S.length:Int)
    .simp[V2,Io,jC,hk,hw,hd];exact⟨by omega,rfl,by simp[alters]⟩
    .simp[V2,Io,jC,hk,hw,hd]
   simp[V2,Io];generalize f.alters.filter (jC S.length)=B at*;refine aN.forRounds f.facts.length (λk=>[.int k]) (λk=>[m5 f.bill (mD S) (mD B) (mD A) (mD ((f.facts.take k).filter (jX S.length))),facts ((f.facts.take k).filter (jX S.length))]) ?_ (λk hk=>?_) ?_
   .simp[facts]
   .have hw:=bu hk (by omega);have ht:=xE (jX S.length) f.facts hk;rw[ht];have hlen:((f.facts.take k).filter (jX S.length)).length<=k:=ij (qt _ _) (by simp;omega);generalize (f.facts.take k).filter (jX S.length)=C at*;cases hd:aG f.facts[k].at_ S.length
    .simp[V3,Ip,jX,hk,hw,hd];refine⟨_,rM _ _,?_⟩;simp[hd,hw]
    .simp[V3,Ip,jX,hk,hw,hd];refine⟨_,rM _ _,?_⟩;simp[hd,hw];exact⟨by omega,rfl,by simp[facts]⟩
   simp[V3,Ip];rfl
def zD:List Int->Int
 |[]=>-1
 |x::l=>l.foldl min x
def alv (x:Int)(l:List Int)(hl:l.length<4294967296):ah T 90 [ints (x::l)] (.int (zD (x::l))):=by
 refine zyw 47 aBV ?_;have h0:¬((l.length:Int)+1<1):=by omega
 simp[YY,h0,zD,ints];refine aN.forRounds l.length (λk=>[.int ((l.take k).foldl min x),.int ((k:Int)+1)]) (λk=>[]) ?_ (λk hk=>?_) ?_
 .simp
 .have hw:i64.wrap ((k:Int)+1+1)=(k:Int)+1+1:=aW (by omega);rw[lG hk,Ea];generalize (l.take k).foldl min x=y;have ht:((k:Int)+1).toNat=k+1:=by omega
  have ak:(k:Int)+1<(l.length:Int)+1:=by omega
  simp[aiy,Of,hk,hw,ht,ak];refine⟨by omega,?_⟩;by_cases h:l[k]<y
  .simp[h];omega
  .simp[h];omega
 .simp[aiy,Of]
def ki (f:File)(n:Nat):List Int:=if f.bill.tenor.kind=1 then((f.signs.take n).filter (λs=>decide (s.kind=1))).map (·.day) else[]
def jx (f:File)(n:Nat):List Int:=if f.bill.tenor.kind=1 then((f.acts.take n).filter (λs=>decide (s.kind=1))).map (·.day) else[]
def vk (f:File)(a:Act):Bool:=decide (f.bill.tenor.kind=0)&&decide (a.kind=2)
def oM (f:File):Int:=match f.acts.find? (vk f) with|some a=>a.day|none=>zD (ki f f.signs.length++jx f f.acts.length)
def ayj (f:File)(h1:f.signs.length<=100000)(h2:f.acts.length<=100000):ah T 45 [dK f] (.int (oM f)):=by
 refine zyw 46 aBG ?_;simp[YK];refine aN.forRounds f.signs.length (λk=>[.none,.int k]) (λk=>[ints (ki f k)]) ?_ (λk hk=>?_) ?_
 .simp[ki,ints]
 .have hw:=bu hk (by omega);have hs:ki f (k+1)=ki f k++if f.bill.tenor.kind=1/\f.signs[k].kind=1 then[f.signs[k].day] else[]:=by
   unfold ki;by_cases h:f.bill.tenor.kind=1
   .simp only[if_pos h,xE _ _ hk,mi,h,true_and]
    congr 1
    by_cases h':f.signs[k].kind=1<;>simp[h']
   .simp[h]
  have hlen:(ki f k).length<=k:=by
   unfold ki;split
   .rw[fw];exact ij (qt _ _) (by simp;omega)
   .simp
  rw[hs];generalize ki f k=A at*;by_cases hc:f.bill.tenor.kind=1/\f.signs[k].kind=1
  .simp[V5,Ir,hk,hw,hc];exact⟨by omega,by simp[ints]⟩
  .simp[V5,Ir,hk,hw,hc]
 .have hlS:(ki f f.signs.length).length<=100000:=by
   unfold ki;split
   .rw[fw];exact ij (qt _ _) (by simp;omega)
   .simp
  have hE:oM f=match f.acts.find? (vk f) with|some a=>a.day|none=>zD (ki f f.signs.length++jx f f.acts.length):=rfl
  generalize ki f f.signs.length=A at*;simp[V5,Ir];refine aN.scan f.acts.length (λk=>vk f (f.acts.getD k default)=false) (λk=>[.int 0,.none,.int k]) (λk=>[ints (A++jx f k)]) ?_ (λk hk hj ho=>?_) (λk hk hj ho=>?_) (λhj=>?_)
  .simp[jx,ints]
  .have hw:=bu hk (by omega);have hs:jx f (k+1)=jx f k++if f.bill.tenor.kind=1/\f.acts[k].kind=1 then[f.acts[k].day] else[]:=by
        unfold jx;by_cases h:f.bill.tenor.kind=1
        .simp only[if_pos h,xE _ _ hk,mi,h,true_and]
         congr 1
         by_cases h':f.acts[k].kind=1<;>simp[h']
        .simp[h]
   have hlen:(jx f k).length<=k:=by
        unfold jx;split
        .rw[fw];exact ij (qt _ _) (by simp;omega)
        .simp
   rw[hs];generalize jx f k=B at*;simp[vk,hk] at ho;by_cases hc:f.bill.tenor.kind=1/\f.acts[k].kind=1
   .simp[Is,Ak,hk,hw,hc];exact⟨by omega,by simp[ints]⟩
   .have hn:¬(f.bill.tenor.kind=0/\f.acts[k].kind=2):=λh=>ho h.1 h.2;simp[Is,Ak,hk,hw,hc,hn]
  .have hf:oM f=f.acts[k].day:=by
        rw[hE,sy hk (by simpa [hk] using ho) (λj bf=>by have:=hj j bf;simpa [show j<f.acts.length by omega] using this)]
   simp[vk,hk] at ho;simp[Is,Ak,hk,ho,hf]
  .have hf:oM f=zD (A++jx f f.acts.length):=by
        rw[hE,uj (λj bf=>by have:=hj j bf;simpa [bf] using this)]
   have hlA:(jx f f.acts.length).length<=100000:=by
        unfold jx;split
        .rw[fw];exact ij (qt _ _) (by simp;omega)
        .simp
   rw[hf];have hL:(A++jx f f.acts.length).length<=200000:=by rw[mh];omega
   generalize A++jx f f.acts.length=L at*;cases L with
   |nil=>simp[Is,Ak,zD,ints]
   |cons x l=>
    have aB:¬((l.length:Int)+1=0):=by omega
    simp[Is,Ak,aB];exact alv x l (by simp at hL;omega)
def jb (g:Nat->Cell):D:=.list ((List.range 20).map λi=>cg (g i))
def aaW {g g':Nat->Cell}(h:∀i,i<20->g i=g' i):jb g=jb g':=by
 unfold jb
 congr 1
 exact AN λi hi=>by rw[h i (by simpa using hi)]
def aaX (g:Nat->Cell)(k:Nat)(c:Cell):D.list ((jb g).l.set k (cg c))=jb (λi=>if i=k then c else g i):=by
 unfold jb
 congr 1
 show((List.range 20).map λi=>cg (g i)).set k (cg c)=_;apply Pf
 .simp
 .intro i h1 h2;simp at h2;rw[List.getElem_set];by_cases h:k=i
  .simp[h]
  .have h':¬i=k:=λe=>h e.symm;simp[h,h']
@[simp] def aFs (g:Nat->Cell):(jb g).l.length=20:=by
  show((List.range 20).map λi=>cg (g i)).length=20;simp
def Jx (g:Nat->Cell){k:Nat}(hk:k<20):(jb g).l[k]?.getD D.none=cg (g k):=by
 show((List.range 20).map λi=>cg (g i))[k]?.getD D.none=cg (g k);simp[hk]
def amV (g:Nat->Cell){k:Nat}(hk:k<(jb g).l.length):(jb g).l[k]=cg (g k):=by
 have h:=Jx g (k:=k) (by simpa using hk);rw[bI hk] at h;exact h
def amX (g:Nat->Cell)(k:Nat)(c:Cell):(jb g).l.set k (cg c)=(jb (λi=>if i=k then c else g i)).l:=congrArg D.l (aaX g k c)
def amW (g:Nat->Cell):D.list (jb g).l=jb g:=rfl
@[simp] def aIR (x:Cell)(b:Bool)(n:Int):vl (cg x) 0 (D.agg [D.bool b,D.int n])=cg ⟨b,n⟩:=zyz
def BZ {α:Type}(l:List (Int×α))(val:α->Cell)(g0:Nat->Cell)(i:Nat):Cell:=match l.find? (λp=>decide (p.1=(i:Int))) with|some p=>val p.2|none=>g0 i
def sT {α:Type}(enc:α->D)(p:Int×α):D:=.tup [.int p.1,enc p.2]
def aev {α:Type}{J o:Nat}{ps dC:List Nat}{a:PC}{O:Env}{Q:Out->Prop}(l:List (Int×α))(enc:α->D)(val:α->Cell)(g0:Nat->Cell)
 (nd:∀p q,p∈l->q∈l->p.1=q.1->p=q) (Wo:∀p,p∈l->0<=p.1) (he:O.o J=.tup [.list [],.map (l.map λp=>(.int p.1,enc p.2))]) (h0:O.o o=jb g0)
 (step:∀p,p∈l->∀g done,aJ T (rP [o] a) ((O.put ps (dC.map (sT enc p).tget) [o] [jb g]).setO J (.tup [.list (done++[sT enc p]),.map (l.map λp=>(.int p.1,enc p.2))])) (λy=>∃O',y=.next O'/\O'.o o=.list ((jb g).l.set p.1.toNat (cg (val p.2)))))
 (last:Q (.next (O.put [] [] [o] [jb (BZ l val g0)]))):aN T (.meach J ps dC [o] a) O Q:=by
 have oh:jr (.map (l.map λp=>((D.int p.1,enc p.2):D×D)))=l.map (sT enc):=by
  simp[jr,sT]
 refine .meachR _ he (λdone vo=>∃g:Nat->Cell,vo=[jb g]/\(∀p,p∈l->sT enc p∈done->g p.1.toNat=val p.2)/\∀i:Nat,(∀p,p∈l->sT enc p∈done->p.1≠i)->g i=g0 i) ⟨g0,by simp[h0],(λp _ h=>by cases h),λi _=>rfl⟩ (λdone x rest vo hp ⟨g,hv,nZ,iQ⟩=>?_) ⟨_,λdone hp vo ⟨g,hv,nZ,iQ⟩=>?_,last⟩
 .subst hv;rw[oh] at hp;have hx:x∈l.map (sT enc):=hp.subset (by simp);obtain⟨p,dM,rfl⟩:=dW.mp hx;refine AP _ (λy ⟨O',e,ho⟩=>⟨O',e,λi=>if i=p.1.toNat then val p.2 else g i,by simp[ho,aaX],λq hq Sy=>?_,λi hi=>?_⟩) (step p dM g done)
  .have Sz:=Wo q hq;have rh:=Wo p dM;by_cases h:q.1=p.1
   .rw[nd q p hq dM h];simp
   .show(if q.1.toNat=p.1.toNat then val p.2 else g q.1.toNat)=val q.2;rw[if_neg (by omega)];rcases dH.mp Sy with h1|h1
    .exact nZ q hq h1
    .simp[sT] at h1;exact absurd h1.1 h
  .have rh:=Wo p dM;have dG:=hi p dM (by simp);show(if i=p.1.toNat then val p.2 else g i)=g0 i;rw[if_neg (by omega)];exact iQ i λq hq Sy=>hi q hq (by simp[Sy])
 .rw[hv,oh] at*
  congr 1
  refine aaW λi hi=>?_;unfold BZ;cases hf:l.find? (λp=>decide (p.1=(i:Int))) with
  |some p=>
   have dM:=vI hf;have Mf:p.1=(i:Int):=by simpa using Ph hf
   have:=nZ p dM (hp.symm.subset (List.mem_map_of_mem dM));simp only;rw[<-this,Mf];rfl
  |none=>
   refine iQ i λp dM _=>?_;have:=vE.mp hf p dM;simpa using this
@[simp] def aHJ (a b:Int):fj (D.int a) (D.int b)=decide (a=b):=by
  show((a==b)&&true)=decide (a=b);rw[Bool.and_true];by_cases h:a=b<;>simp[h]
def v7 (n k:Int):Bool:=decide (ed .and .i64 n k≠0)
def wZ (s:Sign)(due:Int):Int:=if due=-1 then 0 else s.day-due
def PD (f:File)(sign:Int):Bool:=(List.range f.alters.length).any λk=>decide ((f.alters.getD k default).at_<=sign)
def mC (c:Case):Int:=if c.holder<0 then 0 else c.holder
def tn (c:Case)(s:Sign):List (Int×Int):=[(0,c.file.bill.sum),(1,c.file.bill.parts),(2,c.file.bill.tenor.kind),(3,c.file.bill.rate),(4,s.kind),(5,c.defence),(6,wZ s c.due)]
def tp (r:Realm)(c:Case)(s:Sign):List (Int×Bool):=[(7,v7 c.file.bill.flags 1),(8,decide (c.file.bill.payee=-1)),(9,v7 c.file.bill.flags 4),(10,v7 c.file.bill.flags 2),(11,decide (cV r c.file.bill.city≠cV r c.file.bill.pay)),(12,PD c.file c.sign),(13,v7 s.flags 1),(14,decide (0<wZ s c.due))]
def B6 (r:Realm)(c:Case)(s:Sign):List Cell:=
 (tn c s).map (λp=>⟨true,p.2⟩)++(tp r c s).map (λp=>fb p.2)++
    [jE c.file 0 c.sign,jE c.file 1 c.sign,jE c.file 2 c.sign,jE c.file 3 (mC c),jE c.file 4 (mC c)]
@[simp] def aE3 (x:Case):lH 19 (dJ x)=dK x.file:=zyz
@[simp] def aE1 (x:Case):lH 15 (dJ x)=eh x.file.bill:=zyz
@[simp] def aE2 (x:File):lH 15 (dK x)=eh x.bill:=zyz
def nR (c:Case):Bool:=aG c.sign c.file.signs.length&&decide (-1<=c.holder)&&decide (mC c<c.file.signs.length)&&(decide (c.due=-1)||aG c.due 100001)
def dD (r:Realm)(c:Case):List Cell:=if nR c=true/\aG (c.file.signs.getD c.sign.toNat default).day 100001=true then B6 r c (c.file.signs.getD c.sign.toNat default) else[]
def ayk (r:Realm)(c:Case)(h2:c.file.facts.length<=100000)(h3:c.file.alters.length<=100000):ah T 26 [aU r,dJ c] (cells (dD r c)):=by
 refine zyw 10 aBI ?_;cases hs:aG c.sign c.file.signs.length
 .have hv:dD r c=[]:=by unfold dD nR;rw[hs];simp
  rw[hv];simp[xK];refine⟨_,rM _ _,?_⟩;simp[hs];rfl
 by_cases hh:c.holder< -1
 .have hv:dD r c=[]:=by unfold dD nR;rw[hs];simp;intros;omega
  rw[hv];simp[xK,hh];exact⟨⟨_,rM _ _⟩,rfl⟩
 by_cases hm:(c.file.signs.length:Int)<=mC c
 .have hv:dD r c=[]:=by unfold dD nR;rw[hs];simp;intros;omega
  rw[hv];unfold mC at hm;simp[xK,hm];exact⟨⟨_,rM _ _⟩,rfl⟩
 by_cases hd:c.due≠-1/\aG c.due 100001=false
 .have hv:dD r c=[]:=by unfold dD nR;rw[hs];simp[hd]
  rw[hv];unfold mC at hm;obtain⟨bA,dX⟩:=hd;simp[xK,hh,hm,bA];refine⟨_,rM _ _,?_⟩;simp[hs,hh,hm,bA];refine⟨_,rM _ _,?_⟩;simp[hs,hh,hm,bA,dX];rfl
 have hcb:nR c=true:=by
  unfold nR;rw[hs];simp;refine⟨⟨by omega,by omega⟩,?_⟩;by_cases h:c.due=-1
  .exact .inl h
  .right;cases hb:aG c.due 100001
   .exact absurd ⟨h,hb⟩ hd
   .rfl
 have hlen:c.sign.toNat<c.file.signs.length:=by simp[aG] at hs;omega
 have gl:0<=c.sign/\c.sign<(c.file.signs.length:Int):=by simpa [aG] using hs
 obtain⟨s,dz⟩:∃s:Sign,s=c.file.signs[c.sign.toNat]:=⟨_,rfl⟩
 have j5:c.file.signs.getD c.sign.toNat default=s:=by rw[dz];simp[hlen]
 have hv:dD r c=if aG s.day 100001=true then B6 r c s else[]:=by
  unfold dD;rw[j5,hcb];simp
 rw[hv];unfold mC at hm;by_cases wq:c.due=-1
 case' pos=>
  have acx:(c.due=-1)=True:=eq_true wq;simp[xK,hh,hm,acx];refine⟨_,rM _ _,?_⟩;simp[hs,hh,hm,acx,hlen,<-dz,gl]
 case' neg=>
  have FT:aG c.due 100001=true:=by
   cases hb:aG c.due 100001
   .exact absurd ⟨wq,hb⟩ hd
   .rfl
  simp[xK,hh,hm,wq];refine⟨_,rM _ _,?_⟩;simp[hs,hh,hm,wq];refine⟨_,rM _ _,?_⟩;simp[hs,hh,hm,wq,FT,hlen,<-dz,gl]
 all_goals
  refine⟨_,rM _ _,?_⟩;cases LO:aG s.day 100001
  .simp[LO];rfl
  simp[LO,l9];refine aev (tn c s) D.int (λn=>⟨true,n⟩) (λ_=>db) ?_ ?_ ?_ ?_ (λp hp g done=>?_) ?_
  .intro p q hp hq h;simp[tn] at hp hq;rcases hp with rfl|rfl|rfl|rfl|rfl|rfl|rfl<;>rcases hq with rfl|rfl|rfl|rfl|rfl|rfl|rfl<;>first|rfl|(simp at h)
  .intro p hp;simp[tn] at hp;rcases hp with rfl|rfl|rfl|rfl|rfl|rfl|rfl<;>simp
  .have Co:(if c.due=-1 then(0:Int) else i64.wrap (s.day-c.due))=wZ s c.due:=by
        unfold wZ;by_cases h:c.due=-1
        .simp[h]
        .have FT:aG c.due 100001=true:=by
          cases hb:aG c.due 100001
          .exact absurd ⟨h,hb⟩ hd
          .rfl
         simp[aG] at FT LO;rw[if_neg h,if_neg h];exact aW (by omega)
   simp[tn,l9,hlen,<-dz];rw[<-Co];by_cases h:c.due=-1<;>simp[h]
  .simp[jb];rfl
  .have hr:0<=p.1/\p.1<20:=by
        simp[tn] at hp;rcases hp with rfl|rfl|rfl|rfl|rfl|rfl|rfl<;>simp
   have hk:p.1.toNat<20:=by omega
   simp[ax3,V6,sT,Jx g hk];exact hr
  have ar0:∀k (hk:k<c.file.alters.length),ah T 56 (qM c.file.alters[k]::[.ref (dJ c)]) (.bool (decide ((c.file.alters.getD k default).at_<=c.sign))):=λk hk=>by
   refine zyw 11 aBH ?_;simp[YL,hk]
  simp;refine⟨_,alb c.file.alters _ _ _ ar0 (by omega),_,rL r _,_,rL r _,?_⟩;have Co:(if c.due=-1 then(0:Int) else i64.wrap (s.day-c.due))=wZ s c.due:=by
   unfold wZ;by_cases h:c.due=-1
   .simp[h]
   .have FT:aG c.due 100001=true:=by
     cases hb:aG c.due 100001
     .exact absurd ⟨h,hb⟩ hd
     .rfl
    simp[aG] at FT LO;rw[if_neg h,if_neg h];exact aW (by omega)
  have RS:cells (B6 r c s)=jb (λi=>if i=15 then jE c.file 0 c.sign else if i=16 then jE c.file 1 c.sign else if i=17 then jE c.file 2 c.sign else if i=18 then jE c.file 3 (mC c) else if i=19 then jE c.file 4 (mC c) else BZ (tp r c s) fb (BZ (tn c s) (λn=>⟨true,n⟩) (λ_=>db)) i):=by
   rfl
  generalize BZ (tn c s) (λn=>(⟨true,n⟩:Cell)) (λ_=>db)=g1 at*;refine aev (tp r c s) D.bool fb g1 ?_ ?_ ?_ ?_ (λp hp g done=>?_) ?_
  .intro p q hp hq h;simp[tp] at hp hq;rcases hp with rfl|rfl|rfl|rfl|rfl|rfl|rfl|rfl<;>rcases hq with rfl|rfl|rfl|rfl|rfl|rfl|rfl|rfl<;>first|rfl|(simp at h)
  .intro p hp;simp[tp] at hp;rcases hp with rfl|rfl|rfl|rfl|rfl|rfl|rfl|rfl<;>simp
  .simp[tp,l9,hlen,<-dz,v7];rw[<-Co];by_cases h:c.due=-1<;>simp[h,PD]
  .simp
  .have hr:0<=p.1/\p.1<20:=by
        simp[tp] at hp;rcases hp with rfl|rfl|rfl|rfl|rfl|rfl|rfl|rfl<;>simp
   have hk:p.1.toNat<20:=by omega
   simp[ax4,V7,sT,Jx g hk];refine⟨_,aiG _,?_⟩;simp[Jx g hk];exact hr
  simp;generalize BZ (tp r c s) fb g1=g2 at*;have yS:(if c.holder<0 then D.int 0 else D.int c.holder)=D.int (mC c):=by
   unfold mC;split<;>rfl
  rw[yS];refine⟨_,ID _ _ _ (by omega),_,ID _ _ _ (by omega),_,ID _ _ _ (by omega),_,ID _ _ _ (by omega),_,ID _ _ _ (by omega),?_⟩;rw[RS];simp only[amV,ay5,amX,amW];refine aaW λi hi=>?_;by_cases Lr:i=15
  .subst Lr;simp
  by_cases Ls:i=16
  .subst Ls;simp
  by_cases Lt:i=17
  .subst Lt;simp
  by_cases Lu:i=18
  .subst Lu;simp
  by_cases Lv:i=19
  .subst Lv;simp
  simp[Lr,Ls,Lt,Lu,Lv]
def G2 (n:Nat)(x:Int):Bool:=decide (x<0)||decide ((n:Int)<=x)
def jY (r:Realm)(a q:Int)(l:List Int):Bool:=
 !(decide (a<0)||decide ((r.orders.length:Int)<=a)||decide (q<0)||decide (22<=q)||decide (l.length≠5))&& !((List.range l.length).any λk=>G2 r.orders.length (l.getD k 0))
def aoS (x n:Int):ah T 151 [.int x,.ref (.int n)] (.bool (decide (x<0)||decide (n<=x))):=by
 refine zyw 23 azP ?_;by_cases h:x<0<;>simp[Xb,h]
def abG (r:Realm)(a q:Int)(l:List Int)(hl:l.length<=100000):ah T 111 [aU r,.int a,.int q,ints l] (.bool (jY r a q l)):=by
 refine zyw 22 azQ ?_;by_cases h1:a<0
 .simp[xH,jY,h1]
 by_cases h2:(r.orders.length:Int)<=a
 .simp[xH,jY,h1,h2]
 by_cases h3:q<0
 .simp[xH,jY,h1,h2,h3]
 by_cases h4:22<=q
 .simp[xH,jY,h1,h2,h3,h4]
 by_cases h5:(l.length:Int)=5
 .have Lx:l.length=5:=by omega
  simp[xH,h1,h2,h3,h4,Lx];refine⟨_,alc l 151 [.ref (.int r.orders.length)] (λk=>G2 r.orders.length (l.getD k 0)) (λk hk=>by simpa [G2,hk] using aoS l[k] r.orders.length) (by omega),?_⟩;simp only[jY,Lx];simp[h1,h2,h3,h4]
 .have Lx:¬l.length=5:=by omega
  simp[xH,jY,h1,h2,h3,h4,Lx];intro h;omega
def B0 {r:Realm}{a q:Int}{l:List Int}(h:jY r a q l=true):(0<=a/\a<r.orders.length)/\l.length=5/\(∀x,x∈l->0<=x/\x<r.orders.length)/\∀b:Int,0<=b->b<r.orders.length->jY r b q l=true:=by
 unfold jY at h ⊢;rw[au] at h;obtain⟨h1,h2⟩:=h;simp at h1;refine⟨by omega,h1.2,λx hx=>?_,λb eP cB=>?_⟩
 .obtain⟨k,hk,rfl⟩:=lE hx;simp[G2] at h2;have:=h2 k hk;simp[hk] at this;omega
 .rw[h2];simp;omega
def xV (r:Realm):Prop:=∀o,o∈r.orders->o.choices.length<=100000/\∀ch,ch∈o.choices->0<=ch.by_/\ch.by_<5
def mG (q:Int)(ch:Choice):Bool:=decide (ch.ask=q)&&decide (ch.by_≠0)
def fT (r:Realm)(a:Int):Order:=r.orders.getD a.toNat default
def fJ (r:Realm)(a q:Int)(l:List Int):Int×Bool:=
 (match(fT r a).choices.find? (mG q) with|some ch=>l.getD ch.by_.toNat 0|none=>a,match(fT r a).choices.find? (mG q) with|some ch=>ch.whole|none=>false)
def Pd (r:Realm)(lN:xV r)(a q:Int)(l:List Int)(hl:l.length<=100000)(hf:jY r a q l=true):
 ah T 112 [aU r,.int a,.int q,ints l] (.tup [.int (fJ r a q l).1,.bool (fJ r a q l).2])/\0<=(fJ r a q l).1/\(fJ r a q l).1<r.orders.length:=by
 obtain⟨ha,wB,hx,_⟩:=B0 hf;have nW:a.toNat<r.orders.length:=by omega
 obtain⟨bh,lO⟩:=lN _ (bW nW);obtain⟨o,ho⟩:∃o,o=r.orders[a.toNat]:=⟨_,rfl⟩
 rw[<-ho] at bh lO;have y7:fT r a=o:=by rw[ho];simp[fT,nW]
 unfold fJ;rw[y7];refine⟨?_,?_⟩
 .refine zyw 26 azO ?_;simp[Xa];refine⟨_,abG r a q l hl,?_⟩;simp[hf,nW,<-ho,ha];refine aN.scan o.choices.length (λk=>mG q (o.choices.getD k default)=false) (λk=>[.int 0,.bool false,.int k]) (λ_=>[]) ?_ (λk hk hj av=>?_) (λk hk hj av=>?_) (λhj=>?_)
  .simp
  .have hw:=bu hk (by omega);have hn:¬(o.choices[k].ask=q/\¬o.choices[k].by_=0):=by simpa [mG,hk] using av
   simp[Vm,HD,nW,<-ho,hk,hw,hn]
  .have fQ:=sy hk (by simpa [hk] using av) (λj bf=>by have:=hj j bf;simpa [show j<o.choices.length by omega] using this);rw[fQ];have hc:o.choices[k].ask=q/\¬o.choices[k].by_=0:=by simpa [mG,hk] using av
   have hb:=lO _ (bW hk);have qW:o.choices[k].by_.toNat<l.length:=by omega
   simp[Vm,HD,nW,<-ho,hk,hc,ints,qW];omega
  .have fQ:=uj (l:=o.choices) (p:=mG q) (λj bf=>by have:=hj j bf;simpa [bf] using this);rw[fQ];simp[Vm,HD,nW,<-ho]
 .cases fQ:o.choices.find? (mG q) with
  |none=>exact ha
  |some ch=>
   have hb:=lO _ (vI fQ);have qW:ch.by_.toNat<l.length:=by omega
   simp[qW];exact hx _ (bW qW)
def Nh:∀(N:Nat) (l:List Int),l.Nodup->(∀x,x∈l->0<=x/\x<(N:Int))->l.length<=N
 |0,l,hn,h=>by
  cases l with
  |nil=>simp
  |cons a l=>have:=h a (by simp);omega
 |N+1,l,hn,h=>by
  by_cases hm:(N:Int)∈l
  .have h1:=Nh N (l.erase (N:Int)) (hn.erase _) (λx hx=>by
    have dN:=(hn.mem_erase_iff).mp hx;have:=h x dN.2;have aB:=dN.1;omega)
   rw[List.length_erase_of_mem hm] at h1;omega
  .have h1:=Nh N l hn (λx hx=>by
    have:=h x hx;have aB:x≠(N:Int):=λe=>hm (e▸hx);omega)
   omega
def cD (l:List Int):Int:=l.getD (l.length-1) 0
def jm (r:Realm)(q:Int)(l:List Int):Nat->List Int->List Int×Int
 |0,p=>(p,0)
 |n+1,p=>
  if(fJ r (cD p) q l).1=cD p then(p,0)
  else if(fJ r (cD p) q l).2=false\/(hasB p (fJ r (cD p) q l).1=true/\(fT r (fJ r (cD p) q l).1).accepts=true) then(p++[(fJ r (cD p) q l).1],0)
  else if hasB p (fJ r (cD p) q l).1=true then(p++[(fJ r (cD p) q l).1],12)
  else jm r q l n (p++[(fJ r (cD p) q l).1])
def GL (r:Realm)(q:Int)(l:List Int)(n:Nat)(p:List Int):jm r q l (n+1) p=
 if(fJ r (cD p) q l).1=cD p then(p,0)
 else if(fJ r (cD p) q l).2=false\/(hasB p (fJ r (cD p) q l).1=true/\(fT r (fJ r (cD p) q l).1).accepts=true) then(p++[(fJ r (cD p) q l).1],0)
 else if hasB p (fJ r (cD p) q l).1=true then(p++[(fJ r (cD p) q l).1],12)
 else jm r q l n (p++[(fJ r (cD p) q l).1]):=rfl
def dg (r:Realm)(a q:Int)(l:List Int):List Int×Int:=if jY r a q l=true/\l.getD 0 0=a then jm r q l r.orders.length [a] else([],1)
def alp (r:Realm)(lN:xV r)(hn:r.orders.length<=100000)(a q:Int)(l:List Int)(hl:l.length<=100000):ah T 70 [aU r,.int a,.int q,ints l] (.tup [ints (dg r a q l).1,.int (dg r a q l).2]):=by
 refine zyw 21 azN ?_;simp[W9];refine⟨_,abG r a q l hl,?_⟩;cases hf:jY r a q l
 .simp[dg,hf];rfl
 obtain⟨ha,wB,hx,qU⟩:=B0 hf;have h0:0<l.length:=by omega
 by_cases yW:l[0]=a
 .have hE:dg r a q l=jm r q l r.orders.length [a]:=by unfold dg;rw[if_pos ⟨hf,by simp[h0,yW]⟩]
  rw[hE];simp[h0,yW,ints];refine aN.forLoop (α:=Nat×List Int) (λs vr vo=>vr=[.list [],.int 0,.none]/\vo=[ints s.2]/\s.2.Nodup/\(∀x,x∈s.2->0<=x/\x<(r.orders.length:Int))/\s.2≠[]/\s.1+s.2.length=r.orders.length+1/\jm r q l s.1 s.2=jm r q l r.orders.length [a]) (λs=>s.1) (r.orders.length,[a]) ?_ ?_
  .simp[ints];exact ha
  .rintro⟨n,p⟩ vr vo ⟨rfl,rfl,bC,bG,aB,hlen,uw⟩;simp only at*;have dM:p.length<=r.orders.length:=Nh _ p bC bG;have Mg:0<p.length:=AM.mpr aB;obtain⟨m,rfl⟩:∃m,n=m+1:=⟨n-1,by omega⟩
   have ak:p.length-1<p.length:=by omega
   have jJ:cD p=p[p.length-1]:=by simp[cD,ak]
   have oc:=bG _ (bW ak);rw[<-jJ] at oc;obtain⟨yJ,fh,fi⟩:=Pd r lN (cD p) q l hl (qU _ oc.1 oc.2);have y2:((p.length:Int)-1).toNat=p.length-1:=by omega
   have zk:i64.wrap ((p.length:Int)-1)=(p.length:Int)-1:=aW (by omega);rw[<-uw,GL];obtain⟨L,hL⟩:∃L,L=fJ r (cD p) q l:=⟨_,rfl⟩
   rw[<-hL] at yJ fh fi ⊢;obtain⟨to,whole⟩:=L;simp only at yJ fh fi;have sL:to.toNat<r.orders.length:=by omega
   have y7:fT r to=r.orders[to.toNat]:=by simp[fT,sL]
   simp only[y7];simp[ax0,Vl,zk,y2,ak,<-jJ,ints];refine⟨by omega,_,yJ,?_⟩;by_cases h1:to=cD p
   .simp[h1]
   simp[h1];refine⟨_,AG p to (by omega),by omega,?_⟩;cases whole
   .simp
   cases h2:hasB p to
   .have cY:to∉p:=λhm=>by
     have:hasB p to=true:=by simp[hasB,hm]
     rw[h2] at this;cases this
    simp[h2];refine⟨m,by omega,p++[to],by simp,?_,?_,by simp,by simp;omega,rfl⟩
    .exact AO.mpr ⟨bC,by simp,λx hx y hy=>by simp at hy;subst hy;exact λe=>cY (e▸hx)⟩
    .intro x hx;rcases dH.mp hx with h|h
     .exact bG x h
     .simp at h;subst h;exact⟨fh,fi⟩
   .cases h3:r.orders[to.toNat].accepts<;>simp[h2,h3,sL]<;>omega
 .have hE:dg r a q l=([],1):=by unfold dg;rw[if_neg (by simp[h0,yW])]
  rw[hE];simp[h0,yW];rfl
def kI (f:File)(i:Int):Sign:=f.signs.getD i.toNat default
def fl (r:Realm)(forum:Int)(c:Case):List Int:=[forum,cV r (kI c.file c.sign).city,cV r c.file.bill.pay,cV r c.file.bill.city,cV r (r.firms.getD (kI c.file c.sign).who.toNat default).city]
def kR (r:Realm)(forum:Int)(c:Case):Prop:=(kI c.file c.sign).who<0\/(r.firms.length:Int)<=(kI c.file c.sign).who\/forum<0\/(r.orders.length:Int)<=forum
instance (r:Realm) (forum:Int) (c:Case):Decidable (kR r forum c):=by unfold kR;infer_instance
def fU (r:Realm)(forum:Int)(c:Case):List Int:=if kR r forum c then[] else if hasB (fl r forum c) (-1)=true then[] else fl r forum c
@[simp] def aFl (r:Realm)(x:Int):AQ (aU r) x=cV r x:=by
  unfold AQ cV aG;by_cases h:0<=x/\x<(r.cities.length:Int)
  .have hx:x.toNat<r.cities.length:=by omega
   rw[if_pos (by simpa using h),if_pos (by simpa using h)];simp[hx]
  .rw[if_neg (by simpa using h),if_neg (by simpa using h)]
def ahe (r:Realm)(forum:Int)(c:Case)(h1:c.sign.toNat<c.file.signs.length):Uz [aU r,.int forum,dJ c]=ints (fU r forum c):=by
 have hs:kI c.file c.sign=c.file.signs[c.sign.toNat]:=by simp[kI,h1]
 unfold Uz fU;simp[h1];by_cases hb:kR r forum c
 .rw[if_pos (by simpa [kR,hs] using hb),if_pos hb];rfl
 .rw[if_neg (by simpa [kR,hs] using hb),if_neg hb];have atk:(kI c.file c.sign).who.toNat<r.firms.length:=by unfold kR at hb;omega
  have adH:c.file.signs[c.sign.toNat].who.toNat<r.firms.length:=by rw[<-hs];exact atk
  have kX:fl r forum c=[forum,cV r c.file.signs[c.sign.toNat].city,cV r c.file.bill.pay,cV r c.file.bill.city,cV r r.firms[c.file.signs[c.sign.toNat].who.toNat].city]:=by
   simp[fl,hs,adH]
  have cR:∀l:List Int,hasB l (-1)=true↔-1∈l:=λl=>by simp[hasB]
  rw[kX];simp[adH];split
  .rename_i h;rw[if_pos ((cR _).mpr (by simpa using h))];rfl
  .rename_i h;rw[if_neg (λh'=>h (by simpa using(cR _).mp h'))]
def ahf (r:Realm)(forum:Int)(c:Case)(h1:0<=c.sign/\c.sign<c.file.signs.length):ah T 40 [aU r,.int forum,dJ c] (ints (fU r forum c)):=by
 have cA:c.sign.toNat<c.file.signs.length:=by omega
 rw[<-ahe r forum c cA];have hs:kI c.file c.sign=c.file.signs[c.sign.toNat]:=by simp[kI,cA]
 refine ah.of_nsl rfl azD azE ?_;rw[ahe r forum c cA];by_cases hb:kR r forum c
 .refine .inr ⟨by simp[fU,hb];rfl,?_⟩;have dR:=hb;simp[kR,hs] at dR;simp[OO,h1,cA]
  intros;omega
 have sB:fU r forum c=if hasB (fl r forum c) (-1)=true then[] else fl r forum c:=by unfold fU;rw[if_neg hb]
 have dR:=hb;simp[kR,hs] at dR;have hw:c.file.signs[c.sign.toNat].who.toNat<r.firms.length:=by omega
 have hC:=AG (fl r forum c) (-1) (by simp[fl]);cases hh:hasB (fl r forum c) (-1)<;>rw[hh] at hC<;>simp[fl,ints,hs,hw] at hC
 .refine .inl ⟨(fl r forum c).map .int,by simp[fl],by rw[sB,hh];rfl,?_⟩;simp[WW,h1,cA,hw];rw[if_neg (by omega)];refine⟨_,rL r _,_,rL r _,_,rL r _,by omega,_,rL r _,_,by simpa using hC,?_⟩;simp[fl,hs,hw]
 .refine .inr ⟨by rw[sB,hh];rfl,?_⟩;simp[OO,h1,cA,hw]
  intros
  refine⟨_,rL r _,_,rL r _,_,rL r _,by omega,_,rL r _,_,by simpa using hC,?_⟩;simp
structure Right (r:Realm):Prop where
 by_:xV r
 len:r.orders.length<=100000
 ok:∀o,o∈r.orders->o.OK/\o.rules.length<=100000
structure FewS (f:File):Prop where
 signs:f.signs.length<=1000
 alters:f.alters.length<=1000
 acts:f.acts.length<=1000
 facts:f.facts.length<=1000
def ajw {α:Type}(p:α->Bool)(l:List α):(l.takeWhile p).length<=l.length:=by
 obtain⟨m,h1,h2,_⟩:=Ax p l;rw[h2,eN];omega
def FewS.at_ {f:File}(h:FewS f)(day:Int):FewS (dc f day):=
 ⟨ij (ajw _ _) h.1,ij (qt _ _) h.2,ij (ajw _ _) h.3,ij (qt _ _) h.4⟩
def bH (c:Case):Case:={c with file:=dc c.file c.day}
@[simp] def aFc (x:File)(a0 a1 a2 a3 a4 a5 a6 a7 a8 a9 m0 oX a12 oY oZ rZ sc sd tR:D)(s h d u y:Int):lH 24 (D.agg (eU [a0,a1,a2,a3,a4,a5,a6,a7,a8,a9,m0,oX,a12,oY,oZ,rZ,sc,sd,tR,.int s,.int h,.int d,.int u,.int y] 0 [.int x.bill.drawer,.int x.bill.drawee,.int x.bill.payee,.int x.bill.sum,.int x.bill.currency,.int x.bill.tenor.kind,.int x.bill.tenor.n,.int x.bill.tenor.unit,.int x.bill.day,.int x.bill.city,.int x.bill.pay,.int x.bill.need,.int x.bill.rate,.int x.bill.flags,.int x.bill.parts,signs x.signs,alters x.alters,acts x.acts,facts x.facts]))=dJ ⟨x,s,h,d,u,y⟩:=zyz
def aaA (r:Realm)(c:Case)(hf:FewS c.file):ah T 39 [aU r,dJ c] (.tup [dJ (bH c),cells (dD r (bH c))]):=by
 refine zyw 7 azC ?_;simp[WV];have h1:=hf.1;have h2:=hf.2;have h3:=hf.3;have h4:=hf.4;refine⟨_,aiF c.file c.day (by omega) (by omega) (by omega) (by omega),?_⟩;have LS:=hf.at_ c.day;have h5:=LS.4;have h6:=LS.2;simp;exact⟨ayk r (bH c) (by show(dc c.file c.day).facts.length<=_;omega) (by show(dc c.file c.day).alters.length<=_;omega),(congrArg (lH 24) (awO (bH c) _ _ _ _ _ _ _ _ _ _ _ _ _ _ _ _ _ _ _ _ _ _ _ _)).trans (alP (bH c))⟩
def O3 {r:Realm}{c:Case}(h:dD r c≠[]):0<=c.sign/\c.sign<c.file.signs.length:=by
 unfold dD at h;split at h
 .rename_i hh;have h1:=hh.1;unfold nR at h1;simp[aG] at h1;omega
 .exact absurd rfl h
def aeb (r:Realm)(lN:xV r)(q:Int)(l:List Int)(hl:l.length<=100000)(qU:∀b:Int,0<=b->b<r.orders.length->jY r b q l=true):∀(n:Nat) (p:List Int),p≠[]->(∀x,x∈p->0<=x/\x<(r.orders.length:Int))->
 (jm r q l n p).1≠[]/\∀x,x∈(jm r q l n p).1->0<=x/\x<(r.orders.length:Int)
 |0,p,aB,hp=>⟨aB,hp⟩
 |n+1,p,aB,hp=>by
  have ak:p.length-1<p.length:=by have:=AM.mpr aB;omega
  have jJ:cD p=p[p.length-1]:=by simp[cD,ak]
  have oc:=hp _ (bW ak);rw[<-jJ] at oc;obtain⟨_,ht⟩:=Pd r lN (cD p) q l hl (qU _ oc.1 oc.2)
  have aY:∀x,x∈p++[(fJ r (cD p) q l).1]->0<=x/\x<(r.orders.length:Int):=λx hx=>by
   rcases dH.mp hx with h|h
   .exact hp x h
   .simp at h;subst h;exact ht
  rw[GL];split
  .exact⟨aB,hp⟩
  split
  .exact⟨by simp,aY⟩
  split
  .exact⟨by simp,aY⟩
  .exact aeb r lN q l hl qU n _ (by simp) aY
def Mx {r:Realm}(hr:Right r){a q:Int}{l:List Int}(hl:l.length<=100000)(h:(dg r a q l).2=0):(dg r a q l).1≠[]/\0<=cD (dg r a q l).1/\cD (dg r a q l).1<r.orders.length:=by
 unfold dg at h ⊢;split at h
 .rename_i hh;rw[if_pos hh];obtain⟨ha,wB,hx,qU⟩:=B0 hh.1;obtain⟨h1,h2⟩:=aeb r hr.by_ q l hl qU r.orders.length [a] (by simp) (λx hx=>by simp at hx;subst hx;exact ha);refine⟨h1,?_⟩;have ak:(jm r q l r.orders.length [a]).1.length-1<(jm r q l r.orders.length [a]).1.length:=by have:=AM.mpr h1;omega
  have jJ:cD (jm r q l r.orders.length [a]).1=(jm r q l r.orders.length [a]).1[(jm r q l r.orders.length [a]).1.length-1]:=by simp[cD,ak]
  rw[jJ];exact h2 _ (bW ak)
 .cases h
def aec (r:Realm)(q:Int)(l:List Int):∀(n:Nat) (p:List Int),(jm r q l n p).1.length<=p.length+n
 |0,p=>by simp[jm]
 |n+1,p=>by
  rw[GL];split
  .simp
  split
  .simp
  split
  .simp
  .have:=aec r q l n (p++[(fJ r (cD p) q l).1]);simp at this;omega
def Ti (r:Realm)(a q:Int)(l:List Int):(dg r a q l).1.length<=1+r.orders.length:=by
 unfold dg;split
 .exact aec r q l _ [a]
 .simp
@[simp] def aIN (a b c d e x:D):eU [a,b,c,d,e] 2 [x]=[a,b,x,d,e]:=zyz
@[simp] def aIO (a b c d e x:D):eU [a,b,c,d,e] 3 [x]=[a,b,c,x,e]:=zyz
@[simp] def aIP (a b c d e x:D):eU [a,b,c,d,e] 4 [x]=[a,b,c,d,x]:=zyz
def xd:Said:=⟨db,-1,[],1⟩
def cO (r:Realm)(forum q:Int)(c:Case):Said×List Cell:=
 if dD r (bH c)=[] then(xd,[]) else if(fu q).2=false then(xd,[]) else if fU r forum (bH c)=[] then(xd,[]) else
    (⟨db,if(dg r forum q (fU r forum (bH c))).2=0 then cD (dg r forum q (fU r forum (bH c))).1 else-1,(dg r forum q (fU r forum (bH c))).1,(dg r forum q (fU r forum (bH c))).2⟩,dD r (bH c))
def UA (r:Realm)(forum:Int)(c:Case):(fU r forum c).length<=5:=by
 unfold fU;split
 .simp
 split<;>simp[fl]
def PN (r:Realm)(hr:Right r)(forum q:Int)(c:Case)(hf:FewS c.file):ah T 33 [aU r,.int forum,.int q,dJ c] (.tup [iO (cO r forum q c).1,cells (cO r forum q c).2]):=by
 refine zyw 6 azB ?_;simp[WU];refine⟨_,aaA r c hf,?_⟩;by_cases hv:dD r (bH c)=[]
 .simp[hv,cO];exact⟨rfl,rfl⟩
 simp[hv,cO];refine⟨_,Uu q,?_⟩;cases hq:(fu q).2
 .simp[hq];exact⟨rfl,rfl⟩
 simp[hq];refine⟨_,ahf r forum (bH c) (O3 hv),?_⟩;by_cases hp:fU r forum (bH c)=[]
 .simp[hp];exact⟨rfl,rfl⟩
 have dM:=UA r forum (bH c);have aB:ints (fU r forum (bH c))≠.list []:=λe=>hp (by simpa [ints] using e);simp[hp];generalize fU r forum (bH c)=l at*;refine⟨_,alp r hr.by_ hr.len forum q l (by omega),?_⟩;have hlen:=Ti r forum q l;have uw:=Mx hr (a:=forum) (q:=q) (l:=l) (by omega);have Md:=hr.len;generalize dg r forum q l=L at*;obtain⟨path,err⟩:=L;simp only at*;by_cases he:err=0
 .obtain⟨h1,h2⟩:=uw he;have Mg:=AM.mpr h1;have zk:i64.wrap ((path.length:Int)-1)=(path.length:Int)-1:=aW (by omega);have y2:((path.length:Int)-1).toNat=path.length-1:=by omega
  have ak:path.length-1<path.length:=by omega
  have jJ:cD path=path[path.length-1]:=by simp[cD,ak]
  simp[he,zk,y2,ak,<-jJ];exact⟨by omega,rfl⟩
 .simp[he];rfl
def fB (r:Realm)(forum q:Int)(c:Case):Said:=
 if(cO r forum q c).1.order=-1 then(cO r forum q c).1
 else⟨(nQ (fT r (cO r forum q c).1.order) q (cO r forum q c).2).1,(cO r forum q c).1.order,(cO r forum q c).1.path,(nQ (fT r (cO r forum q c).1.order) q (cO r forum q c).2).2⟩
def PK {r:Realm}(hr:Right r)(forum q:Int)(c:Case):(cO r forum q c).1.order=-1\/(0<=(cO r forum q c).1.order/\(cO r forum q c).1.order<r.orders.length):=by
 unfold cO;split
 .exact .inl rfl
 split
 .exact .inl rfl
 split
 .exact .inl rfl
 .have dM:=UA r forum (bH c);have uw:=Mx hr (a:=forum) (q:=q) (l:=fU r forum (bH c)) (by omega);show(if _ then _ else _)=_\/_;split
  .rename_i h;exact .inr (uw h).2
  .exact .inl rfl
def PL (r:Realm)(hr:Right r)(forum q:Int)(c:Case)(hf:FewS c.file):ah T 8 [aU r,.int forum,.int q,dJ c] (iO (fB r forum q c)):=by
 refine zyw 5 azv ?_;simp[WN];refine⟨_,PN r hr forum q c hf,?_⟩;have ho:=PK hr forum q c;unfold fB;generalize cO r forum q c=S at*;obtain⟨s,cs⟩:=S;simp only at*;by_cases h:s.order=-1
 .obtain⟨⟨kn,n⟩,o,pth,e⟩:=s;simp only at h;subst h;simp;rfl
 .have h1:0<=s.order/\s.order<r.orders.length:=by omega
  have h2:s.order.toNat<r.orders.length:=by omega
  have h3:fT r s.order=r.orders[s.order.toNat]:=by simp[fT,h2]
  obtain⟨av,hlen⟩:=hr.ok _ (bW h2);simp[h,h1,h2,h3];refine⟨_,awK _ q cs av (by omega),?_⟩;simp;rfl
def il (r:Realm)(forum q:Int)(f:File)(day:Int):Said:=fB r forum q ⟨{f with facts:=[]},0,-1,-1,-1,day⟩
def aay (r:Realm)(hr:Right r)(forum q:Int)(f:File)(day:Int)(hf:FewS f):ah T 10 [aU r,.int forum,.int q,dK f,.int day] (iO (il r forum q f day)):=by
 refine zyw 45 azw ?_;simp[WO];refine⟨iO (il r forum q f day),PL r hr forum q ⟨{f with facts:=[]},0,-1,-1,-1,day⟩ ⟨hf.1,hf.2,hf.3,by simp⟩,?_⟩;simp
 try rfl
def IZ (s:Said):Int:=if s.err≠0 then 0 else if s.cell.known=false then 2 else if s.cell.n≠0 then 1 else 0
def Jp (s:Said):ah T 13 [iO s] (.int (IZ s)):=by
 refine zyw 38 azA ?_;unfold IZ;by_cases h1:s.err=0<;>cases h2:s.cell.known<;>by_cases h3:s.cell.n=0<;>simp[WT,h1,h2,h3]
def kc (s:Said):Int:=if s.err≠0\/s.cell.known=false then-1 else s.cell.n
def PM (s:Said):ah T 15 [iO s] (.int (kc s)):=by
 refine zyw 39 azy ?_;unfold kc;by_cases h1:s.err=0<;>cases h2:s.cell.known<;>simp[WR,h1,h2]
def CI (r:Realm)(c:Int):ah T 85 [aU r,.int c] (.bool (aG c r.cities.length)):=by
 refine zyw 65 aBX ?_;by_cases h1:0<=c<;>by_cases h2:c<r.cities.length<;>simp[Zb,h1,h2,aG]
def bz (n:Int):Bool:=decide (0<=n)&&decide (n<=100000)
def wV (n:Int):ah T 86 [.int n] (.bool (bz n)):=by
 refine zyw 66 aBY ?_;by_cases h1:0<=n<;>by_cases h2:n<=100000<;>simp[Zc,h1,h2,bz]
def xP (n:Int):ah T 166 [.int n] (.bool (bz n)):=by
 refine zyw 71 azM ?_;by_cases h1:0<=n<;>by_cases h2:n<=100000<;>simp[W8,h1,h2,bz]
def rR (t:Tenor):Bool:=decide (t.kind=0)||decide (t.kind=1)
def Ef (t:Tenor):ah T 87 [lK t] (.bool (rR t)):=by
 refine zyw 67 aBW ?_;by_cases h1:t.kind=0<;>simp[Za,h1,rR]
def aeX (y m d:Int):∃n:Int,ah T 216 [.int y,.int m,.int d] (.int n):=by
 by_cases h:m<3
 .refine⟨?w,?h⟩
  case h=>
   refine ah.of_tree (d:=.int ?w) rfl PO W6 ?_;simp[DX,h];exact rfl
 .refine⟨?v,?g⟩
  case g=>
   refine ah.of_tree (d:=.int ?v) rfl PO W6 ?_;simp[DX,h];exact rfl
def zF (y m d:Int):Int:=(aeX y m d).choose
def CR (y m d:Int):ah T 216 [.int y,.int m,.int d] (.int (zF y m d)):=(aeX y m d).choose_spec
def uK (y m:Int):Int:=if m=12 then 31 else i64.wrap (zF y (i64.wrap (m+1)) 1-zF y m 1)
def CM (y m:Int):ah T 203 [.int y,.int m] (.int (uK y m)):=by
 refine zyw 73 azK ?_;unfold uK;by_cases h:m=12
 .simp[OQ,h]
 .simp[OQ,h];refine⟨_,CR _ _ _,_,CR _ _ _,?_⟩;simp
def alf (y m d:Int):∃n e:Int,ah T 202 [.int y,.int m,.int d] (.tup [.int n,.int e])/\(e=0->0<=n/\n<=100000):=by
 by_cases h0:(((2000<=y/\y<=2300)/\1<=m)/\m<=12)/\1<=d
 .by_cases h2:d<=uK y m
  .cases h1:bz (zF y m d)
   .refine⟨0,3,.of_tree rfl Ek IV ?_,by simp⟩;simp[xG];rw[if_pos h0];refine⟨_,CM y m,?_⟩;simp[h0,h2];refine⟨_,CR _ _ _,_,xP _,?_⟩;simp[h1]
   .refine⟨zF y m d,0,.of_tree rfl Ek IV ?_,λ_=>by simpa [bz] using h1⟩;simp[xG];rw[if_pos h0];exact⟨_,CM y m,⟨h0,h2⟩,_,CR _ _ _,_,xP _,h1,rfl⟩
  .refine⟨0,3,.of_tree rfl Ek IV ?_,by simp⟩;simp[xG];rw[if_pos h0];refine⟨_,CM y m,?_⟩;simp[h0,h2]
 .refine⟨0,3,.of_tree rfl Ek IV ?_,by simp⟩;simp[xG];rw[if_neg h0];intro a1 a2 a3 a4 a5;exact absurd ⟨⟨⟨⟨a1,a2⟩,a3⟩,a4⟩,a5⟩ h0
def alC (r:Realm)(fr to:Int)(hl:r.usances.length<=100000):∃n e:Int,ah T 99 [aU r,.int fr,.int to] (.tup [.int n,.int e])/\(e=0->∃u,u∈r.usances/\n=u.days)/\(e=0↔∃u,u∈r.usances/\u.fr=fr/\u.to=to):=by
 let p:Usance->Bool:=λu=>decide (u.fr=fr)&&decide (u.to=to)
 refine⟨match r.usances.find? p with|some u=>u.days|none=>0,match r.usances.find? p with|some u=>0|none=>4,?_,?_⟩
 .refine .of_tree rfl aaF ajs ?_;simp[OZ];refine aN.scan r.usances.length (λk=>p (r.usances.getD k default)=false) (λk=>[.int 0,.int 0,.int k]) (λ_=>[]) ?_ (λk hk hj av=>?_) (λk hk hj av=>?_) (λhj=>?_)
  .simp
  .have hw:=bu hk (by omega);have hn:¬(r.usances[k].fr=fr/\r.usances[k].to=to):=by simpa [p,hk] using av
   simp[DE,xu,hk,hw,hn]
  .have fQ:=sy hk (by simpa [hk] using av) (λj bf=>by have:=hj j bf;simpa [show j<r.usances.length by omega] using this);have hc:r.usances[k].fr=fr/\r.usances[k].to=to:=by simpa [p,hk] using av
   rw[fQ];simp[DE,xu,hk,hc]
  .have fQ:=uj (l:=r.usances) (p:=p) (λj bf=>by have:=hj j bf;simpa [bf] using this);rw[fQ];simp[DE,xu]
 .cases h:r.usances.find? p with
  |none=>
   refine⟨λh=>(by cases h),λh=>(by cases h),λ⟨u,hu,h1,h2⟩=>?_⟩;have:=vE.1 h u hu;simp[p,h1,h2] at this
  |some u=>
   have h2:u.fr=fr/\u.to=to:=by simpa [p] using Ph h
   exact⟨λ_=>⟨u,vI h,rfl⟩,λ_=>⟨u,vI h,h2⟩,λ_=>rfl⟩
def alB (r:Realm)(fr to:Int)(hl:r.usances.length<=100000):∃n e:Int,ah T 99 [aU r,.int fr,.int to] (.tup [.int n,.int e])/\(e=0->∃u,u∈r.usances/\n=u.days):=by
 obtain⟨n,e,h1,h2,_⟩:=alC r fr to hl;exact⟨n,e,h1,h2⟩
def aa2 (R Y:Int)(hR:0<=R/\R<146097)(h1:365*Y<=R-R/1460+R/36524-R/146096)(h2:R-R/1460+R/36524-R/146096<365*Y+365):0<=R-(365*Y+Y/4-Y/100)/\R-(365*Y+Y/4-Y/100)<=500:=by
 have k0:R/36524<=R/1460:=by omega
 have k1:Y/4<=R/1460:=by omega
 have hY:0<=Y:=by omega
 have hc:R/36524=0\/R/36524=1\/R/36524=2\/R/36524=3\/R/36524=4:=by omega
 have k2:25*(R/36524)<=R/1460:=by omega
 refine⟨?_,?_⟩
 .rcases Int.lt_or_le Y (100*(R/36524)) with hy|hy
  .have k3:Y/4<=25*(R/36524)-1:=by omega
   have k4:R/36524-1<=Y/100:=by omega
   omega
  .have k3:R/36524<=Y/100:=by omega
   omega
 .omega
def QM (n:Int)(h:0<=n/\n<=100400):ah T 201 [.int n] (.tup [.int (bD n).1,.int (bD n).2.1,.int (bD n).2.2]):=by
 refine zyw 72 azH ?_;have w:∀x:Int,-1000000000<=x->x<=1000000000->i64.wrap x=x:=λx a b=>aW (by omega);have t:∀x y:Int,0<=x->x.tdiv y=x/y:=λx y hx=>AK hx;have u:∀x y:Int,0<=x->x.tmod y=x%y:=λx y hx=>xW hx;simp[WZ];unfold bD;simp only[];rw[w (n+730425) (by omega) (by omega),u (n+730425) 146097 (by omega),t (n+730425) 146097 (by omega)];have hR:0<=(n+730425)%146097/\(n+730425)%146097<146097:=by omega
 have hE:0<=(n+730425)/146097/\(n+730425)/146097<100:=by omega
 generalize (n+730425)%146097=R at*;generalize (n+730425)/146097=e at*;rw[t R 1460 (by omega),t R 36524 (by omega),t R 146096 (by omega),w (R/1460) (by omega) (by omega),w (R-R/1460) (by omega) (by omega),w (R/36524) (by omega) (by omega),w (R-R/1460+R/36524) (by omega) (by omega),w (R/146096) (by omega) (by omega),w (R-R/1460+R/36524-R/146096) (by omega) (by omega),t (R-R/1460+R/36524-R/146096) 365 (by omega)];have hY:0<=(R-R/1460+R/36524-R/146096)/365/\(R-R/1460+R/36524-R/146096)/365<400:=by omega
 have hD:0<=R-(365*((R-R/1460+R/36524-R/146096)/365)+(R-R/1460+R/36524-R/146096)/365/4-(R-R/1460+R/36524-R/146096)/365/100)/\R-(365*((R-R/1460+R/36524-R/146096)/365)+(R-R/1460+R/36524-R/146096)/365/4-(R-R/1460+R/36524-R/146096)/365/100)<=500:=by
  exact aa2 R _ hR (by omega) (by omega)
 generalize (R-R/1460+R/36524-R/146096)/365=Y at*;rw[w Y (by omega) (by omega),w (365*Y) (by omega) (by omega),t Y 4 (by omega),t Y 100 (by omega),w (Y/4) (by omega) (by omega),w (Y/100) (by omega) (by omega),w (365*Y+Y/4) (by omega) (by omega),w (365*Y+Y/4-Y/100) (by omega) (by omega),w (R-(365*Y+Y/4-Y/100)) (by omega) (by omega)];generalize R-(365*Y+Y/4-Y/100)=D at*;rw[w (5*D) (by omega) (by omega),w (5*D+2) (by omega) (by omega),t (5*D+2) 153 (by omega)];have hM:0<=(5*D+2)/153/\(5*D+2)/153<=20:=by omega
 generalize (5*D+2)/153=M at*;rw[w M (by omega) (by omega),w (M+3) (by omega) (by omega),w (M+3-12) (by omega) (by omega),w e (by omega) (by omega),w (400*e) (by omega) (by omega),w (Y+400*e) (by omega) (by omega),w (Y+400*e+1) (by omega) (by omega)];rw[w (153*M) (by omega) (by omega),w (153*M+2) (by omega) (by omega),t (153*M+2) 5 (by omega),w ((153*M+2)/5) (by omega) (by omega),w (D-(153*M+2)/5) (by omega) (by omega),w (D-(153*M+2)/5+1) (by omega) (by omega)];refine⟨?_,?_,rfl⟩
 .generalize (if 12<M+3 then M+3-12 else M+3)=m;split<;>rfl
 .split<;>rfl
def ak7 (d n:Int):∃x e:Int,ah T 165 [.int d,.int n] (.tup [.int x,.int e])/\(e=0->0<=x/\x<=100000):=by
 by_cases h0:bz d=true/\-5000<=n/\n<=5000
 .have hd:0<=d/\d<=100400:=by have:=h0.1;simp[bz] at this;omega
  obtain⟨A,hA⟩:∃A,A=i64.wrap (i64.wrap (i64.wrap (i64.wrap (12*(bD d).1)+(bD d).2.1)-1)+n):=⟨_,rfl⟩
  obtain⟨Y,hY⟩:∃Y,Y=i64.wrap (A.tdiv 12):=⟨_,rfl⟩
  obtain⟨M,hM⟩:∃M,M=i64.wrap (A.tmod 12+1):=⟨_,rfl⟩
  obtain⟨x,e,hD,hb⟩:=alf Y M (if uK Y M<(bD d).2.2 then uK Y M else(bD d).2.2);refine⟨x,e,.of_tree rfl Jr OP ?_,hb⟩;have n1:¬n< -5000:=by omega
  have n2:¬5000<n:=by omega
  simp[DW,n1,n2];refine⟨_,xP d,?_⟩;simp[h0.1];refine⟨_,QM d hd,?_⟩;simp[<-hA,<-hY,<-hM];refine⟨_,CM Y M,?_⟩;by_cases hl:uK Y M<(bD d).2.2
  .simp only[if_pos hl] at hD;simp[hl];refine⟨_,hD,?_⟩;simp
  .simp only[if_neg hl] at hD;simp[hl];refine⟨_,hD,?_⟩;simp
 .refine⟨0,3,.of_tree rfl Jr OP ?_,by simp⟩;simp[DW];refine⟨_,xP d,?_⟩;simp;intro a b c;exact absurd ⟨a,b,c⟩ h0
end Rm
