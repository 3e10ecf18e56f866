/-
  Shared texts of this claim.
-/
import Derived.Test.YtmnnipoiigfapaaGreatDoorHAO
import Derived.Lib.Mul64
set_option linter.unusedSimpArgs false
set_option linter.unusedVariables false
namespace Rm
open Go Go.Proofs Cx
def CE (r:Realm)(k:Nat):Bool:=decide (((r.cities.getD k default).feasts.length:Int)≤70)&&decide (((r.cities.getD k default).shut.length:Int)≤210)&&decide (((r.cities.getD k default).rest.length:Int)≤8)
def CF (r:Realm)(k:Nat):Bool:=decide (((r.orders.getD k default).choices.length:Int)≤40)&&decide (((r.orders.getD k default).rules.length:Int)≤40)
def HQ (r:Realm):Bool:=decide ((r.currencies.length:Int)<50)&&decide ((r.cities.length:Int)<50)&&decide ((r.groups.length:Int)<50)&&decide ((r.firms.length:Int)<210)&&decide ((r.orders.length:Int)<50)&&decide ((r.usances.length:Int)<110)&&decide ((r.rates.length:Int)<110)&&decide ((r.halts.length:Int)<50)
def pE (r:Realm):Bool:=eD (min r.cities.length 50) (CE r)&&eD (min r.orders.length 50) (CF r)&&HQ r
theorem apA (r:Realm)(hr:r.OK):aq T 48 [aZ r] (.bool (pE r)):=by
 refine .of_tree rfl (lA 100 (by kernel_rfl)) asq ?_;simp[Te];refine gh (min r.cities.length 50) (CE r) (fun k=>[.bool false,.int k]) (fun _=>[]) ?_ (fun k hk ho=>?_) (fun k hk ho hb=>?_) (fun hj=>?_)
 ·simp
 ·have bl:k<r.cities.length:=by omega
  have bE:k<50:=by omega
  have hw:=bn bE (by omega);simp[CE,bl] at ho;obtain⟨⟨a1,a2⟩,a3⟩:=ho;have b1:¬(70:Int)<r.cities[k].feasts.length:=by omega
  have b2:¬(210:Int)<r.cities[k].shut.length:=by omega
  have b3:¬(8:Int)<r.cities[k].rest.length:=by omega
  simp[EH,xS,bl,bE,hw,b1,b2,b3];omega
 ·have bl:k<r.cities.length:=by omega
  have bE:k<50:=by omega
  have hf:pE r=false:=by simp only[pE,hb,rP]
  rw[hf];simp[CE,bl] at ho;by_cases b1:(70:Int)<r.cities[k].feasts.length
  ·simp[EH,xS,bl,bE,b1];omega
  by_cases b2:(210:Int)<r.cities[k].shut.length
  ·simp[EH,xS,bl,bE,b1,b2];omega
  have b3:(8:Int)<r.cities[k].rest.length:=by have:=ho (by omega) (by omega);omega
  simp[EH,xS,bl,bE,b1,b2,b3];omega
 ·have hn:¬((min r.cities.length 50:Nat):Int)<r.cities.length∨¬((min r.cities.length 50:Nat):Int)<50:=by omega
  simp[EH,xS];rw[if_neg (by omega)];refine gh (min r.orders.length 50) (CF r) (fun k=>[.bool false,.int k]) (fun _=>[]) ?_ (fun k hk ho=>?_) (fun k hk ho hb=>?_) (fun wO=>?_)
  ·simp
  ·have bl:k<r.orders.length:=by omega
   have bE:k<50:=by omega
   have hw:=bn bE (by omega);simp[CF,bl] at ho;obtain⟨a1,a2⟩:=ho;have b1:¬(40:Int)<r.orders[k].choices.length:=by omega
   have b2:¬(40:Int)<r.orders[k].rules.length:=by omega
   simp[Kp,Bf,bl,bE,hw,b1,b2];omega
  ·have bl:k<r.orders.length:=by omega
   have bE:k<50:=by omega
   have hf:pE r=false:=by simp only[pE,hb,rP,tL]
   rw[hf];simp[CF,bl] at ho;by_cases b1:(40:Int)<r.orders[k].choices.length
   ·simp[Kp,Bf,bl,bE,b1];omega
   have b2:(40:Int)<r.orders[k].rules.length:=by have:=ho (by omega);omega
   simp[Kp,Bf,bl,bE,b1,b2];omega
  ·have hf:pE r=HQ r:=by simp only[pE,hj,wO,vO]
   rw[hf];simp[Kp,Bf];rw[if_neg (by omega)];unfold HQ;by_cases c1:(r.currencies.length:Int)<50<;>simp[c1];by_cases c2:(r.cities.length:Int)<50<;>simp[c2];by_cases c3:(r.groups.length:Int)<50<;>simp[c3];by_cases c4:(r.firms.length:Int)<210<;>simp[c4];by_cases c5:(r.orders.length:Int)<50<;>simp[c5];by_cases c6:(r.usances.length:Int)<110<;>simp[c6];by_cases c7:(r.rates.length:Int)<110<;>simp[c7]
theorem M4 {r:Realm}(hr:r.OK)(h:pE r=true):Small r:=by
 simp only[pE,HQ,ao,decide_eq_true_eq,yr] at h;obtain⟨⟨h1,h2⟩,⟨⟨⟨⟨⟨⟨⟨c1,c2⟩,c3⟩,c4⟩,c5⟩,c6⟩,c7⟩,c8⟩⟩:=h;obtain⟨k1,⟨k2,k2'⟩,⟨k3,k3'⟩,⟨k4,k4'⟩,⟨k5,k5'⟩,⟨k6,k6'⟩,⟨k7,k7'⟩,⟨k8,k8'⟩⟩:=hr;refine⟨by omega,by omega,by omega,by omega,by omega,by omega,by omega,by omega,fun c hc=>?_,fun o ho=>?_,fun x hx=>?_⟩
 ·obtain⟨k,hk,rfl⟩:=j7 hc;have:=h1 k (by omega);simp[CE,hk] at this;have:=k2' _ hc;exact⟨by omega,by omega,by omega,fun y hy=>this.2.2.2.1.2 y hy⟩
 ·obtain⟨k,hk,rfl⟩:=j7 ho;have:=h2 k (by omega);simp[CF,hk] at this;omega
 ·have:=k7' x hx;exact⟨this.2.2.1,this.2.2.2.1⟩
def sD (r:Realm)(f:File):Bool:=(pE r&&CG f)&&eD r.orders.length (fun k=>qL (r.orders.getD k default))
theorem ap4 (r:Realm)(f:File)(hr:r.OK):aq T 21 [aZ r,aX f] (.bool (sD r f)):=by
 refine .of_tree rfl (lA 99 (by kernel_rfl)) asV ?_;simp[TJ];refine⟨_,apA r hr,?_⟩;cases e1:pE r
 ·simp[sD,e1]
 simp;refine⟨_,ap3 f,?_⟩;cases e2:CG f
 ·simp[sD,e1,e2]
 have hs:=M4 hr e1;have ho:=hs.orders;have hf:sD r f=eD r.orders.length (fun k=>qL (r.orders.getD k default)):=by simp only[sD,e1,e2,vO]
 rw[hf];simp;have hO:=hr.2.2.2.2.1.2;refine gh r.orders.length (fun k=>qL (r.orders.getD k default)) (fun k=>[.bool false,.int k]) (fun _=>[]) ?_ (fun k hk ho=>?_) (fun k hk ho hb=>?_) (fun hj=>?_)
 ·simp
 ·have hw:=bn hk (by omega);simp[hk] at ho;simp[Rt,EZ,hk];refine⟨_,acx _ (hO _ (de hk)),?_⟩;simp[ho,hw]
 ·simp only[aJ] at hb;rw[hb];simp[hk] at ho;simp[Rt,EZ,hk];refine⟨_,acx _ (hO _ (de hk)),?_⟩;simp[ho]
 ·simp only[aJ] at hj;rw[hj];simp[Rt,EZ]
def HZ (r:Realm)(f:File):Bool:=sD r f&&decide (jd r=0)
def pw (n:Int):Int:=min (max n (-1099511627776)) 1099511627776
theorem K1 (n:Int):aq T 162 [.int n] (.int (pw n)):=by
 refine .of_tree rfl (lA 78 (by kernel_rfl)) atC ?_;simp[Ur,pw];by_cases h1:-1099511627776>n
 ·have:¬(1099511627776:Int)< -1099511627776:=by omega
  simp[h1];omega
 ·by_cases h2:(1099511627776:Int)<n
  ·simp[h1,h2];omega
  ·simp[h1,h2];omega
def mK (v:Int):Int×Bool:=if v<0∨19<v then(0,false) else if v<7 then(0,true) else(1,true)
theorem adJ (v:Int):aq T 160 [.int v] (.tup [.int (mK v).1,.bool (mK v).2]):=by
 refine .of_tree rfl (lA 79 (by kernel_rfl)) atx ?_;simp[Un,mK];by_cases h1:v<0
 ·simp[h1]
 by_cases h2:19<v
 ·simp[h1,h2]
 by_cases h3:v<7
 ·simp[h1,h2,h3]
 ·simp[h1,h2,h3]
def D2 (t:Tm):Int×Int:=
 if 0<t.args.length then(0,2) else if t.op=0 then(if pw t.n≠t.n then(0,3) else(0,0)) else if t.op=1 then(if t.n<0∨1<t.n then(0,3) else(1,0)) else if(mK t.n).2=false then(0,10) else((mK t.n).1,0)
theorem arv (t:Tm):aq T 158 [dO t] (.tup [.int (D2 t).1,.int (D2 t).2]):=by
 refine .of_tree rfl (lA 77 (by kernel_rfl)) atD ?_;simp[Us,D2];by_cases h0:0<t.args.length
 ·have fT:(0:Int)<t.args.length:=by omega
  simp[h0,fT]
 simp[h0];by_cases h1:t.op=0
 ·simp[h1];refine⟨_,K1 _,?_⟩;by_cases h2:pw t.n=t.n<;>simp[h2]
 by_cases h2:t.op=1
 ·simp[h1,h2];by_cases h3:t.n<0<;>by_cases h4:1<t.n<;>simp[h3,h4]
 simp[h1,h2];refine⟨_,adJ _,?_⟩;cases h3:(mK t.n).2<;>simp[h3]
def eU (op:Int):List Int×Int:=
 if op=3 then([1],1) else if op=4∨op=5 then([1,1],1) else if op=6 then([1,-1,-1],-1) else if op=7 then([0,0],1) else if op=8 then([-1,-1],1) else([0,0],0)
def CB (s:List Int×Int):D:=.agg [ints s.1,.int s.2]
@[simp] theorem awy (s:List Int×Int):(CB s).cells=[ints s.1,.int s.2]:=_root_.id rfl
@[simp] theorem aww (s:List Int×Int):(CB s).c 0=ints s.1:=_root_.id rfl
@[simp] theorem awx (s:List Int×Int):(CB s).c 1=.int s.2:=_root_.id rfl
@[simp] theorem az7 (s:List Int×Int):D.agg [ints s.1,.int s.2]=CB s:=_root_.id rfl
@[simp] theorem aAX (x y:Int):vA (.int x) 0 (.int y)=.int y:=_root_.id rfl
theorem arx (op:Int):aq T 159 [.int op] (CB (eU op)):=by
 refine .of_tree rfl (lA 80 (by kernel_rfl)) atI ?_;simp[Uv,eU];by_cases h3:op=3
 ·simp[h3];rfl
 by_cases h4:op=4
 ·simp[h4];rfl
 by_cases h5:op=5
 ·simp[h5];rfl
 by_cases h6:op=6
 ·simp[h6];rfl
 by_cases h7:op=7
 ·simp[h7];rfl
 by_cases h8:op=8
 ·simp[h8];rfl
 simp[h3,h4,h5,h6,h7,h8];rfl
end Rm
namespace Rm
open Go Go.Proofs Cx
def fM (f:Tm→Int):List Tm→Int→Int
 |[],n=>n
 |a::l,n=>if 60<n+f a then n+f a else fM f l (n+f a)
def cV:Nat→Tm→Int
 |0,_=>61
 |L+1,t=>fM (cV L) t.args 1
def dS (f:Tm→Int)(l:List Tm):Int:=(l.map f).sum
theorem Jj {f:Tm→Int}{l:List Tm}{k:Nat}(h:k<l.length):dS f (l.take (k+1))=dS f (l.take k)+f l[k]:=by
 unfold dS;rw[Bv f h,List.sum_append];simp
theorem ZH {f:Tm→Int}:∀{l:List Tm} {n:Int} {k:Nat},(hk:k<l.length)→(∀j,j<k→n+dS f (l.take (j+1))≤60)→60<n+dS f (l.take (k+1))→fM f l n=n+dS f (l.take (k+1))
 |a::l,n,0,hk,_,h=>by
  simp[dS] at h ⊢;unfold fM;rw[if_pos (by omega)]
 |a::l,n,k+1,hk,hj,h=>by
  have h0:=hj 0 (by omega);simp[dS] at h0;unfold fM;rw[if_neg (by omega)];have e:∀j,n+dS f ((a::l).take (j+1+1))=n+f a+dS f (l.take (j+1)):=by intro j;simp[dS];omega
  rw[ZH (l:=l) (k:=k) (by simpa using hk) (fun j Iy=>by have:=hj (j+1) (by omega);rw[e] at this;exact this) (by rw[←e];exact h),e]
theorem ZJ {f:Tm→Int}:∀{l:List Tm} {n:Int},(∀j,j<l.length→n+dS f (l.take (j+1))≤60)→fM f l n=n+dS f l
 |[],n,_=>by simp[fM,dS]
 |a::l,n,hj=>by
  have h0:=hj 0 (by simp);simp[dS] at h0;unfold fM;rw[if_neg (by omega)];have e:∀j,n+dS f ((a::l).take (j+1+1))=n+f a+dS f (l.take (j+1)):=by intro j;simp[dS];omega
  rw[ZJ (l:=l) (fun j fW=>by have:=hj (j+1) (by simpa using fW);rw[e] at this;exact this)];simp[dS];omega
theorem ZI {f:Tm→Int}(hf:∀a,1≤f a):∀{l:List Tm} {n:Int},n≤fM f l n
 |[],n=>by simp[fM]
 |a::l,n=>by
  unfold fM;have:=hf a;split
  ·omega
  ·have:=ZI hf (l:=l) (n:=n+f a);omega
theorem xr:∀(L:Nat) (t:Tm),1≤cV L t
 |0,t=>by simp[cV]
 |L+1,t=>ZI (xr L)
theorem ZK {f:Tm→Int}{B:Int}(hf:∀a,f a≤B)(hB:0≤B):∀{l:List Tm} {n:Int},n≤60→fM f l n≤60+B
 |[],n,h=>by simp[fM];omega
 |a::l,n,h=>by
  unfold fM;have:=hf a;split
  ·omega
  ·exact ZK hf hB (by omega)
theorem ZM:∀(L:Nat) (t:Tm),cV L t≤61+60*L
 |0,t=>by simp[cV]
 |L+1,t=>by
  have:=ZK (f:=cV L) (fun a=>ZM L a) (by omega) (l:=t.args) (n:=1) (by omega);show fM _ _ _≤_;omega
theorem ZL {f:Tm→Int}(hf:∀a,1≤f a):∀{l:List Tm} {n:Int},fM f l n≤60→(n:Int)+l.length≤60∧∀a,a∈l→f a≤60-n
 |[],n,h=>by simp[fM] at h ⊢;exact h
 |a::l,n,h=>by
  unfold fM at h;have:=hf a;split at h
  ·omega
  ·obtain⟨h1,h2⟩:=ZL hf h;refine⟨by simp;omega,fun b hb=>?_⟩;rcases cD.1 hb with rfl|hb
   ·omega
   ·have:=h2 b hb;omega
theorem Ps {L:Nat}{t:Tm}(h:cV (L+1) t≤60):t.args.length≤59∧∀a,a∈t.args→cV L a≤60:=by
 obtain⟨h1,h2⟩:=ZL (xr L) h;exact⟨by omega,fun a ha=>by have:=h2 a ha;omega⟩
theorem Sl:∀(L:Nat) (t:Tm) (lv:Int),t.OK→L≤8→lv=9-(L:Int)→aq T 146 [dO t,.int lv] (.int (cV L t))
 |0,t,lv,ht,hL,NW=>by
  refine .of_tree rfl VO adQ ?_;subst NW;simp[Lb,cV]
 |L+1,t,lv,ht,hL,NW=>by
  refine .of_tree rfl VO adQ ?_;have hl:=ht.len;have h8:¬(8<lv):=by omega
  have I0:IntKind.i64.wrap (lv+1)=lv+1:=bL (by omega);simp[Lb,h8];refine .scan t.args.length (fun k=>1+dS (cV L) (t.args.take (k+1))≤60) (fun k=>[.int (1+dS (cV L) (t.args.take k)),.int k]) (fun _=>[]) ?_ (fun k hk hj ho=>?_) (fun k hk hj ho=>?_) (fun hj=>?_)
  ·simp[dS]
  all_goals try rw[Jj hk] at ho
  ·have hw:IntKind.i64.wrap ((k:Int)+1)=(k:Int)+1:=bL (by omega);have iQ:=Sl L t.args[k] (lv+1) (ht.arg (de hk)) (by omega) (by omega);rw[Jj hk];have hs:0≤dS (cV L) (t.args.take k):=by
    unfold dS;have:∀(l:List Tm),0≤(l.map (cV L)).sum:=by
     intro l
     induction l with
     |nil=>simp
     |cons a l ih=>have:=xr L a;simp;omega
    exact this _
   have gZ:=xr L t.args[k];generalize dS (cV L) (t.args.take k)=m at*;generalize cV L t.args[k]=v at*;have sV:IntKind.i64.wrap (1+m+v)=1+m+v:=bL (by omega);have dZ:¬60<1+m+v:=by omega
   simp[RT,Fo,hk,I0];refine⟨_,iQ,?_⟩;simp[sV,dZ,hw];omega
  ·have iQ:=Sl L t.args[k] (lv+1) (ht.arg (de hk)) (by omega) (by omega);have hf:cV (L+1) t=1+dS (cV L) (t.args.take (k+1)):=ZH hk hj (by rw[Jj hk];omega);rw[hf,Jj hk];have hs:0≤dS (cV L) (t.args.take k)∧1+dS (cV L) (t.args.take k)≤60:=by
    constructor
    ·unfold dS;have:∀(l:List Tm),0≤(l.map (cV L)).sum:=by
       intro l
       induction l with
       |nil=>simp
       |cons a l ih=>have:=xr L a;simp;omega
     exact this _
    ·cases k with
     |zero=>simp[dS]
     |succ k=>exact hj k (by omega)
   have gZ:=xr L t.args[k];have dk:=ZM L t.args[k];generalize dS (cV L) (t.args.take k)=m at*;generalize cV L t.args[k]=v at*;have sV:IntKind.i64.wrap (1+m+v)=1+m+v:=bL (by omega);have dZ:60<1+m+v:=by omega
   simp[RT,Fo,hk,I0];refine⟨_,iQ,?_⟩;simp[sV,dZ];omega
  ·have hf:cV (L+1) t=1+dS (cV L) t.args:=ZJ hj;rw[hf];simp[RT,Fo]
def nm (ws ts:List Int):Nat→Int
 |0=>-1
 |k+1=>if ws.getD k 0=-1∧nm ws ts k=-1 then ts.getD k 0 else nm ws ts k
def ot (ws ts:List Int)(k:Nat):Bool:=if ws.getD k 0=-1 then decide (nm ws ts k=-1)||decide (ts.getD k 0=nm ws ts k) else decide (ts.getD k 0=ws.getD k 0)
def xu (t:Tm)(ks:List Int):Int×Int:=
 if t.op<0∨13<t.op then(0,1) else if t.op=0∨t.op=1∨t.op=2 then D2 t else
 if ks.length≠(eU t.op).1.length∨t.n≠0 then(0,2) else
 if eD (eU t.op).1.length (ot (eU t.op).1 ks)=false then(0,11) else if(eU t.op).2=-1 then(nm (eU t.op).1 ks (eU t.op).1.length,0) else((eU t.op).2,0)
def cB:Nat→Tm→Int×Int
 |0,_=>(0,0)
 |L+1,t=>if cK t.args.length (fun k=>(cB L (t.args.getD k default)).2)≠0 then(0,cK t.args.length (fun k=>(cB L (t.args.getD k default)).2)) else xu t (t.args.map fun a=>(cB L a).1)
theorem MG (L:Nat)(t:Tm):cB (L+1) t=if cK t.args.length (fun k=>(cB L (t.args.getD k default)).2)≠0 then(0,cK t.args.length (fun k=>(cB L (t.args.getD k default)).2)) else xu t (t.args.map fun a=>(cB L a).1):=rfl
theorem R9 {α:Type}(A:List α)(z:α){k n:Nat}(hA:A.length=n)(hk:k<n):(A.take k++List.replicate (n-k) z).set k A[k]=A.take (k+1)++List.replicate (n-(k+1)) z:=by
 have h1:(A.take k).length=k:=by rw[dE];omega
 rw[List.set_append_right _ _ (by omega),h1,Ly];have:n-k=(n-(k+1))+1:=by omega
 rw[this,List.replicate_succ,List.set_cons_zero,nJ (by omega),qv];rfl
theorem aq3 (op:Int):(eU op).1.length≤3:=by
 unfold eU;repeat' split
 all_goals simp
theorem Sk:∀(L:Nat) (t:Tm),t.OK→cV L t≤60→aq T 147 [dO t] (.tup [.int (cB L t).1,.int (cB L t).2])
 |0,t,ht,hm=>by simp[cV] at hm
 |L+1,t,ht,hm=>by
  refine .of_tree rfl (lA 76 (by kernel_rfl)) atz ?_;obtain⟨hl,hp⟩:=Ps hm;simp[Up];refine⟨by omega,?_⟩;refine oN t.args.length (fun k=>(cB L (t.args.getD k default)).2) (fun k=>[.int 0,.int 0,.int k]) (fun k=>[ints ((t.args.map fun a=>(cB L a).1).take k++List.replicate (t.args.length-k) 0)]) ?_ (fun k hk ho=>?_) (fun k hk ho hb=>?_) (fun hj=>?_)
  ·simp[ints]
  ·have hw:=bn hk (by omega);have cQ:=de hk;have iQ:=Sk L t.args[k] (ht.arg cQ) (hp _ cQ);have hs:=R9 (t.args.map fun a=>(cB L a).1) 0 (n:=t.args.length) (by simp) hk;rw[←hs];have hlen:((t.args.map fun a=>(cB L a).1).take k++List.replicate (t.args.length-k) (0:Int)).length=t.args.length:=by simp;omega
   have NM:(t.args.map fun a=>(cB L a).1)[k]'(by simpa using hk)=(cB L t.args[k]).1:=by simp
   rw[NM];generalize (t.args.map fun a=>(cB L a).1).take k++List.replicate (t.args.length-k) (0:Int)=A at*;simp[hk] at ho;rw[ho] at iQ;generalize (cB L t.args[k]).1=kd at*;simp[RR,Fl,hk];refine⟨_,iQ,?_⟩;simp[hlen,hk,hw,ints]
  ·have cQ:=de hk;have iQ:=Sk L t.args[k] (ht.arg cQ) (hp _ cQ);have hf:cB (L+1) t=(0,(cB L (t.args.getD k default)).2):=by
    rw[MG,hb,if_pos ho]
   rw[hf];simp[hk] at ho ⊢;simp[RR,Fl,hk];refine⟨_,iQ,?_⟩;simp[ho]
  ·have hf:cB (L+1) t=xu t (t.args.map fun a=>(cB L a).1):=by
    rw[MG,hj];simp
   rw[hf]
   have e0:(t.args.map fun a=>(cB L a).1).take t.args.length++List.replicate (t.args.length-t.args.length) 0=t.args.map fun a=>(cB L a).1:=by
    rw[Ly,BO (by simp)];simp
   rw[e0];have XS:(t.args.map fun a=>(cB L a).1).length=t.args.length:=by simp
   generalize (t.args.map fun a=>(cB L a).1)=ks at*;simp[RR,Fl];unfold xu;by_cases h1:t.op<0
   ·simp[h1]
   by_cases h2:13<t.op
   ·simp[h1,h2]
   simp[h1,h2];by_cases h3:t.op=0∨t.op=1∨t.op=2
   ·have eF:(t.op=0∨t.op=1)∨t.op=2:=by omega
    simp[h3,eF];refine⟨_,arv t,?_⟩;simp
   have eF:¬((t.op=0∨t.op=1)∨t.op=2):=by omega
   simp[h3,eF];refine⟨_,arx _,?_⟩;have hsl:=aq3 t.op;generalize eU t.op=sh at*;simp;by_cases h4:ks.length=sh.1.length
   case neg=>
    have m3:¬((ks.length:Int)=sh.1.length):=by omega
    have H7:¬t.args.length=sh.1.length:=by omega
    simp[h4,m3,H7]
   have m3:(ks.length:Int)=sh.1.length:=by omega
   have H7:t.args.length=sh.1.length:=by omega
   by_cases h5:t.n=0
   case neg=>simp[h4,m3,H7,h5]
   simp[h4,m3,H7,h5];refine gh sh.1.length (ot sh.1 ks) (fun k=>[.int 0,.int 0,.int (nm sh.1 ks k),.int k]) (fun _=>[]) ?_ (fun k hk ho=>?_) (fun k hk ho hb=>?_) (fun hj=>?_)
   ·simp[nm]
   ·have hw:=bn hk (by omega);have bE:k<ks.length:=by omega
    simp only[nm];unfold ot at ho;simp only[aJ,bA hk,bA bE,iz] at ho ⊢;generalize nm sh.1 ks k=c at*;by_cases a1:sh.1[k]=-1
    ·by_cases a2:c=-1
     ·simp[Bk,vl,hk,bE,hw,ints,a1,a2]
     ·simp[a1,a2] at ho;simp[Bk,vl,hk,bE,hw,ints,a1,a2,ho]
    ·simp[a1] at ho;simp[Bk,vl,hk,bE,hw,ints,a1,ho]
   ·rw[hb];have bE:k<ks.length:=by omega
    unfold ot at ho;simp only[aJ,bA hk,bA bE,iz] at ho;generalize nm sh.1 ks k=c at*;by_cases a1:sh.1[k]=-1
    ·by_cases a2:c=-1
     ·simp[a1,a2] at ho
     ·simp[a1,a2] at ho;simp[Bk,vl,hk,bE,ints,a1,a2,ho]
    ·simp[a1] at ho;simp[Bk,vl,hk,bE,ints,a1,ho]
   ·rw[hj];simp[Bk,vl];by_cases a1:sh.2=-1<;>simp[a1]
def nN (t:Tm):Int×Int:=if 60<cV 8 t then(0,6) else cB 8 t
theorem adI (t:Tm)(ht:t.OK):aq T 133 [dO t] (.tup [.int (nN t).1,.int (nN t).2]):=by
 refine .of_tree rfl (lA 74 (by kernel_rfl)) atv ?_;simp[Ul,nN];refine⟨_,Sl 8 t 1 ht (by omega) (by omega),?_⟩;by_cases h:60<cV 8 t
 ·simp[h]
 simp[h];refine⟨_,Sk 8 t ht (by omega),?_⟩;simp
end Rm
namespace Rm
open Go Go.Proofs Cx
abbrev u (n:Nat):D:=.v (.int .u64 n)
theorem ad1 (n:Int):IntKind.u64.wrap n=n%18446744073709551616:=rfl
theorem FO {n:Int}(h:0≤n∧n<18446744073709551616):IntKind.u64.wrap n=n:=by
 rw[ad1];omega
theorem yd {n:Nat}(h:n<18446744073709551616):IntKind.u64.wrap (n:Int)=n:=FO (by omega)
theorem aq4 (a s:Nat)(h:s≤64):cP .shr .u64 a s=((a/2^s:Nat):Int):=by
 show Int.fdiv (a:Int) (2^(min (s:Int).toNat 64))=_;have:min (s:Int).toNat 64=s:=by simp;omega
 rw[this,aef _ (Int.le_of_lt (Int.pow_pos (by decide)))];rw[Int.natCast_ediv,Int.natCast_pow];rfl
theorem LM (a:Nat)(h:a<18446744073709551616):cP .and .u64 a 4294967295=((a%4294967296:Nat):Int):=by
 show IntKind.u64.wrap ((BitVec.ofInt 64 (a:Int)&&& BitVec.ofInt 64 4294967295).toNat:Nat)=_;have e:(BitVec.ofInt 64 (a:Int)&&& BitVec.ofInt 64 4294967295).toNat=a%4294967296:=by
  rw[BitVec.toNat_and];have e1:(BitVec.ofInt 64 (a:Int)).toNat=a:=by simp[BitVec.ofInt,BitVec.toNat_ofNat];omega
  have e2:(BitVec.ofInt 64 4294967295).toNat=2^32-1:=by decide
  rw[e1,e2,Nat.and_two_pow_sub_one_eq_mod]
 rw[e,yd (by omega)]
@[simp] theorem Bs (a:Nat):cP .shr .u64 a 32=((a/4294967296:Nat):Int):=aq4 a 32 (by decide)
set_option maxHeartbeats 2000000 in
theorem an1 (a b:Nat)(ha:a<18446744073709551616)(hb:b<18446744073709551616):aq T 173 [u a,u b] (.tup [u (a*b/18446744073709551616),u (a*b%18446744073709551616)]):=by
 refine .of_tree rfl (lA 88 (by kernel_rfl)) arL ?_;obtain⟨h1,h2,h3,h4⟩:=Go.Lib.mul64_hi a b ha hb;have elo:IntKind.u64.wrap ((a:Int)*(b:Int))=((a*b%18446744073709551616:Nat):Int):=by rw[ad1,Int.natCast_emod,Int.natCast_mul];rfl
 have MV:cP .shr .u64 (a:Int) 32=((a/4294967296:Nat):Int):=Bs a;have ea0:cP .and .u64 (a:Int) 4294967295=((a%4294967296:Nat):Int):=LM a ha;have MW:cP .shr .u64 (b:Int) 32=((b/4294967296:Nat):Int):=Bs b;have eb0:cP .and .u64 (b:Int) 4294967295=((b%4294967296:Nat):Int):=LM b hb;have azh:=Go.Lib.half_mul_le (a:=a/4294967296) (b:=b/4294967296) (by omega) (by omega);have azg:=Go.Lib.half_mul_le (a:=a/4294967296) (b:=b%4294967296) (by omega) (by omega);have azf:=Go.Lib.half_mul_le (a:=a%4294967296) (b:=b/4294967296) (by omega) (by omega);have aze:=Go.Lib.half_mul_le (a:=a%4294967296) (b:=b%4294967296) (by omega) (by omega);have NQ:a*b/18446744073709551616<18446744073709551616:=by
  have:a*b<18446744073709551616*18446744073709551616:=Nat.mul_lt_mul'' ha hb;exact Nat.div_lt_of_lt_mul this
 simp only[Sy];generalize a/4294967296=a1 at*;generalize a%4294967296=a0 at*;generalize b/4294967296=b1 at*;generalize b%4294967296=b0 at*;have p11:IntKind.u64.wrap ((a1:Int)*(b1:Int))=((a1*b1:Nat):Int):=by rw[←Int.natCast_mul];exact yd (by omega)
 have p10:IntKind.u64.wrap ((a1:Int)*(b0:Int))=((a1*b0:Nat):Int):=by rw[←Int.natCast_mul];exact yd (by omega)
 have p01:IntKind.u64.wrap ((a0:Int)*(b1:Int))=((a0*b1:Nat):Int):=by rw[←Int.natCast_mul];exact yd (by omega)
 have p00:IntKind.u64.wrap ((a0:Int)*(b0:Int))=((a0*b0:Nat):Int):=by rw[←Int.natCast_mul];exact yd (by omega)
 rw[←h4] at NQ ⊢;generalize a1*b1=P at*;generalize a1*b0=Q at*;generalize a0*b1=R at*;generalize a0*b0=S at*;have s1:cP .shr .u64 (S:Int) 32=((S/4294967296:Nat):Int):=Bs S;have s2:IntKind.u64.wrap ((Q:Int)+((S/4294967296:Nat):Int))=((Q+S/4294967296:Nat):Int):=by rw[FO (by omega)];omega
 generalize S/4294967296=S1 at*;generalize hT:Q+S1=TT at*;have s3:cP .shr .u64 (TT:Int) 32=((TT/4294967296:Nat):Int):=Bs TT;have s4:cP .and .u64 (TT:Int) 4294967295=((TT%4294967296:Nat):Int):=LM TT (by omega);have s5:IntKind.u64.wrap (((TT%4294967296:Nat):Int)+(R:Int))=((TT%4294967296+R:Nat):Int):=by rw[FO (by omega)];omega
 generalize hU:TT%4294967296+R=U at*;have s6:cP .shr .u64 (U:Int) 32=((U/4294967296:Nat):Int):=Bs U;have s7:IntKind.u64.wrap ((P:Int)+((TT/4294967296:Nat):Int))=((P+TT/4294967296:Nat):Int):=by rw[FO (by omega)];omega
 have s8:IntKind.u64.wrap (((P+TT/4294967296:Nat):Int)+((U/4294967296:Nat):Int))=((P+TT/4294967296+U/4294967296:Nat):Int):=by rw[FO (by omega)];omega
 simp[-Bs,-Int.natCast_add,-Int.natCast_mul,-Int.natCast_ediv,-Int.natCast_emod,elo,MV,ea0,MW,eb0,p11,p10,p01,p00,s1,s2,s3,s4,s5,s6,s7,s8]
def tj (m:Nat):Int:=if m<1099511627776 then m else 1099511627776
def AT (a b:Int):Int:=if(decide (a<0)!=decide (b<0))=true then-tj (a.natAbs*b.natAbs) else tj (a.natAbs*b.natAbs)
theorem abK (m:Nat):0≤tj m∧tj m≤1099511627776:=by unfold tj;split<;>omega
set_option maxHeartbeats 1000000 in
theorem arw (a b:Int)(ha:-1099511627776≤a∧a≤1099511627776)(hb:-1099511627776≤b∧b≤1099511627776):aq T 171 [.int a,.int b] (.int (AT a b)):=by
 refine .of_tree rfl (lA 87 (by kernel_rfl)) atH ?_;have wa:IntKind.u64.wrap (a.natAbs:Int)=a.natAbs:=yd (by omega);have wb:IntKind.u64.wrap (b.natAbs:Int)=b.natAbs:=yd (by omega);have w0a:IntKind.i64.wrap (0-a)=-a:=by rw[bL (by omega)];omega
 have w0b:IntKind.i64.wrap (0-b)=-b:=by rw[bL (by omega)];omega
 have aui:IntKind.i64.wrap (-a)=-a:=bL (by omega);have auj:IntKind.i64.wrap (-b)=-b:=bL (by omega);have ea:(if a< -a then D.int (-a) else D.int a)=D.int a.natAbs:=by split<;>congr 1<;>omega
 have eb:(if b< -b then D.int (-b) else D.int b)=D.int b.natAbs:=by split<;>congr 1<;>omega
 have ea':(if a< -a then-a else a)=(a.natAbs:Int):=by split<;>omega
 have eb':(if b< -b then-b else b)=(b.natAbs:Int):=by split<;>omega
 simp[Uu,aui,auj,ea,eb,ea',eb'];rw[wa,wb];refine⟨_,an1 a.natAbs b.natAbs (by omega) (by omega),?_⟩;unfold AT;generalize a.natAbs*b.natAbs=m;have hs:(decide (a<0)!=decide (b<0))=false↔(a<0↔b<0):=by
  by_cases h1:a<0<;>by_cases h2:b<0<;>simp[h1,h2]
 have key:((if((m/18446744073709551616:Nat):Int)=0∧((m%18446744073709551616:Nat):Int)<1099511627776 then IntKind.i64.wrap ((m%18446744073709551616:Nat):Int) else 1099511627776):Int)=tj m:=by
  unfold tj;by_cases hm:m<1099511627776
  ·have h1:m/18446744073709551616=0:=by omega
   have h2:m%18446744073709551616=m:=by omega
   rw[h1,h2,if_pos ⟨rfl,by omega⟩,if_pos hm,bL (by omega)]
  ·rw[if_neg hm,if_neg];rintro⟨h1,h2⟩;omega
 have gr:=abK m;have al4:(if((m/18446744073709551616:Nat):Int)=0∧((m%18446744073709551616:Nat):Int)<1099511627776 then D.int (IntKind.i64.wrap ((m%18446744073709551616:Nat):Int)) else D.int 1099511627776)=D.int (tj m):=by
  rw[←key];split<;>rfl
 show(if a<0↔b<0 then(if((m/18446744073709551616:Nat):Int)=0∧((m%18446744073709551616:Nat):Int)<1099511627776 then D.int (IntKind.i64.wrap ((m%18446744073709551616:Nat):Int)) else D.int 1099511627776)=_ else
  IntKind.i64.wrap (-(if((m/18446744073709551616:Nat):Int)=0∧((m%18446744073709551616:Nat):Int)<1099511627776 then IntKind.i64.wrap ((m%18446744073709551616:Nat):Int) else 1099511627776))=_)
 rw[al4,key];generalize tj m=n at*;split
 ·rename_i h;rw[hs.2 h];simp
 ·rename_i h;have:(decide (a<0)!=decide (b<0))=true:=by
   cases e:(decide (a<0)!=decide (b<0)) with
   |true=>rfl
   |false=>exact absurd (hs.1 e) h
  rw[this,bL (by omega)];simp
def yt (op a b:Int):Int:=if op=9 then pw (a+b) else if op=10 then pw (a-b) else if op=11 then AT a b else if op=12 then min a b else max a b
theorem art (op a b:Int)(ha:-1099511627776≤a∧a≤1099511627776)(hb:-1099511627776≤b∧b≤1099511627776):aq T 163 [.int op,.int a,.int b] (.int (yt op a b)):=by
 refine .of_tree rfl (lA 86 (by kernel_rfl)) aty ?_;have w1:IntKind.i64.wrap (a+b)=a+b:=bL (by omega);have w2:IntKind.i64.wrap (a-b)=a-b:=bL (by omega);simp[Uo,yt,w1,w2];by_cases h1:op=9
 ·simp[h1];exact K1 _
 by_cases h2:op=10
 ·simp[h1,h2];exact K1 _
 by_cases h3:op=11
 ·simp[h1,h2,h3];exact arw a b ha hb
 by_cases h4:op=12
 ·simp[h1,h2,h3,h4];by_cases h5:b<a<;>simp[h5]<;>omega
 simp[h1,h2,h3,h4];by_cases h5:b>a<;>simp[h5]<;>omega
def gQ (b:Bool):Cell:=if b then⟨true,1⟩ else⟨true,0⟩
theorem vE (b:Bool):aq T 161 [.bool b] (df (gQ b)):=by
 refine .of_tree rfl (lA 84 (by kernel_rfl)) atJ ?_;cases b<;>simp[Uw,gQ]<;>rfl
def eA:Cell:=⟨false,0⟩
@[simp] theorem aAb:D.agg [.bool false,.int 0]=df eA:=_root_.id rfl
@[simp] theorem aAc:eA.known=false:=rfl
@[simp] theorem aAd:eA.n=0:=rfl
def cellAt (cs:List Cell)(v:Int):Cell:=cs.getD v.toNat default
def lS (cs:List Cell)(v:Int):Cell:=if cs.length≤v.toNat∨(cellAt cs v).known=false then eA else if(mK v).1=1 then gQ (decide ((cellAt cs v).n≠0)) else⟨true,pw (cellAt cs v).n⟩
abbrev MY (cs:List Cell):D:=.agg [cells cs]
theorem ary (cs:List Cell)(v:Int)(hv:0≤v):aq T 148 [MY cs,.int v] (df (lS cs v)):=by
 refine .of_tree rfl (lA 83 (by kernel_rfl)) atG ?_;obtain⟨k,rfl⟩:=vQ hv;simp[Ut,lS,cellAt];by_cases h1:cs.length≤k
 ·simp[h1]
 have cE:k<cs.length:=by omega
 simp[h1,cE];cases h2:cs[k].known
 ·simp[h2]
 simp[h2];refine⟨_,adJ _,?_⟩;by_cases h3:(mK k).1=1
 ·simp[h3,cE];refine⟨_,vE _,?_⟩;simp;rfl
 ·simp[h3,cE];refine⟨_,K1 _,?_⟩;simp;rfl
@[simp] theorem azx (a b:Int):(a==b)=decide (a=b):=_root_.id rfl
@[simp] theorem azy (a b:Int):(a !=b)= !decide (a=b):=_root_.id rfl
def bt (l:List Cell)(k:Nat):Cell:=l.getD k default
def gX (op:Int)(l:List Cell):Cell:=
 if op=3 then(if(bt l 0).known=true then gQ (decide ((bt l 0).n=0)) else eA)
 else if(op=4∨op=5)∧(bt l 0=gQ (decide (op=5))∨bt l 1=gQ (decide (op=5))) then gQ (decide (op=5))
 else if op=6 then(if(bt l 1).known=true∧bt l 1=bt l 2 then bt l 1 else eA)
 else if(bt l 0).known=false∨(bt l 1).known=false then eA
 else if op=4∨op=5 then gQ (decide (op=4))
 else if op=7 then gQ (decide ((bt l 0).n<(bt l 1).n)) else if op=8 then gQ (decide ((bt l 0).n=(bt l 1).n)) else⟨true,yt op (bt l 0).n (bt l 1).n⟩
theorem afl (a b:Cell):a=b↔a.known=b.known∧a.n=b.n:=by cases a;cases b;simp
theorem aru (op:Int)(l:List Cell)(h1:1≤l.length)(h2:op≠3→2≤l.length)(h3:op=6→3≤l.length)
 (hb:9≤op→(-1099511627776≤(bt l 0).n∧(bt l 0).n≤1099511627776)∧(-1099511627776≤(bt l 1).n∧(bt l 1).n≤1099511627776)) (h9:op<3∨8<op→9≤op):
 aq T 149 [.int op,cells l] (df (gX op l)):=by
 refine .of_tree rfl (lA 85 (by kernel_rfl)) atA ?_;have g0:0<l.length:=by omega
 have wA:l[0]=bt l 0:=by simp[bt,g0]
 simp[Uq];unfold gX;by_cases o3:op=3
 ·simp[o3,g0,wA];cases e:(bt l 0).known
  ·simp
  ·simp[g0];refine⟨_,vE _,?_⟩;simp
 have g1:1<l.length:=by have:=h2 o3;omega
 have CR:l[1]=bt l 1:=by simp[bt,g1]
 have fc:(1:Int)<l.length:=by omega
 simp[o3];have fin:∀a b:Cell,(a=b)=(a.known=b.known∧a.n=b.n):=fun a b=>propext (afl a b);rcases FV (op=4) with o4|o4
 ·subst o4;simp;refine⟨_,vE _,?_⟩;simp[g0,g1,fc,wA,CR,fin];split
  ·rfl
  ·split
   ·rfl
   ·refine⟨_,vE _,?_⟩;simp
 rcases FV (op=5) with o5|o5
 ·subst o5;simp;refine⟨_,vE _,?_⟩;simp[g0,g1,fc,wA,CR,fin];split
  ·rfl
  ·split
   ·rfl
   ·refine⟨_,vE _,?_⟩;simp
 rcases FV (op=6) with o6|o6
 ·subst o6;have g2:2<l.length:=by have:=h3 rfl;omega
  have gg2:l[2]=bt l 2:=by simp[bt,g2]
  have nT:(2:Int)<l.length:=by omega
  simp[g1,g2,fc,nT,CR,gg2,fin];cases e1:(bt l 1).known
  ·simp
  by_cases e2:(bt l 1).known=(bt l 2).known∧(bt l 1).n=(bt l 2).n
  ·rw[e1] at e2;simp[e1,e2]
  ·rw[e1] at e2;have ub:¬((bt l 2).known=true∧(bt l 1).n=(bt l 2).n):=fun h=>e2 ⟨h.1.symm,h.2⟩;simp only[e1,true_and,if_true]
   first|(rw[if_neg ub,if_neg ub])|(simp[ub])
 simp[o4,o5,o6,g0,g1,fc,wA,CR];cases e1:(bt l 0).known
 ·simp
 cases e2:(bt l 1).known
 ·simp
 simp[g1,fc,CR];rcases FV (op=7) with o7|o7
 ·subst o7;simp;refine⟨_,vE _,?_⟩;simp
 rcases FV (op=8) with o8|o8
 ·subst o8;simp;refine⟨_,vE _,?_⟩;simp
 simp[o7,o8];obtain⟨b1,b2⟩:=hb (h9 (by omega));refine⟨_,art op _ _ b1 b2,?_⟩;simp;rfl
end Rm
namespace Rm
open Go Go.Proofs Cx
def bV:Nat→List Cell→Tm→Cell
 |0,_,_=>eA
 |L+1,cs,t=>if t.op=0∨t.op=1 then⟨true,t.n⟩ else if t.op=2 then lS cs t.n else
   if t.op=6∧(bt (t.args.map (bV L cs)) 0).known=true then bt (t.args.map (bV L cs)) (2-(bt (t.args.map (bV L cs)) 0).n).toNat else gX t.op (t.args.map (bV L cs))
def ed:Nat→List Cell→Tm→List Int
 |0,_,_=>[]
 |L+1,cs,t=>if t.op=0∨t.op=1 then[] else if t.op=2 then(if(lS cs t.n).known=true then[] else[t.n]) else
   if t.op=6∧(bt (t.args.map (bV L cs)) 0).known=true then(t.args.map (ed L cs)).getD (2-(bt (t.args.map (bV L cs)) 0).n).toNat [] else
   if(gX t.op (t.args.map (bV L cs))).known=true then[] else(t.args.map (ed L cs)).flatten
theorem HN (L:Nat)(cs:List Cell)(t:Tm):bV (L+1) cs t=if t.op=0∨t.op=1 then⟨true,t.n⟩ else if t.op=2 then lS cs t.n else
 if t.op=6∧(bt (t.args.map (bV L cs)) 0).known=true then bt (t.args.map (bV L cs)) (2-(bt (t.args.map (bV L cs)) 0).n).toNat else gX t.op (t.args.map (bV L cs)):=rfl
theorem Jm (L:Nat)(cs:List Cell)(t:Tm):ed (L+1) cs t=if t.op=0∨t.op=1 then[] else if t.op=2 then(if(lS cs t.n).known=true then[] else[t.n]) else
 if t.op=6∧(bt (t.args.map (bV L cs)) 0).known=true then(t.args.map (ed L cs)).getD (2-(bt (t.args.map (bV L cs)) 0).n).toNat [] else
 if(gX t.op (t.args.map (bV L cs))).known=true then[] else(t.args.map (ed L cs)).flatten:=rfl
theorem MH {L:Nat}{t:Tm}{k:Int}(h:cB (L+1) t=(k,0)):(∀a,a∈t.args→(cB L a).2=0)∧xu t (t.args.map fun a=>(cB L a).1)=(k,0):=by
 rw[MG] at h;by_cases e:cK t.args.length (fun k=>(cB L (t.args.getD k default)).2)=0
 ·rw[if_neg (by simpa using e)] at h;refine⟨fun a ha=>?_,h⟩;obtain⟨j,hj,rfl⟩:=j7 ha;have:=ug.1 e j hj;simpa [hj] using this
 ·rw[if_pos e] at h;injection h with _ h
  exact absurd h e
inductive Node (ks:List Int) (t:Tm):Int→Prop where
 |int (h:t.op=0) (ha:t.args=[]) (hn:-1099511627776≤t.n∧t.n≤1099511627776):Node ks t 0
 |bool (h:t.op=1) (ha:t.args=[]) (hn:t.n=0∨t.n=1):Node ks t 1
 |var (h:t.op=2) (ha:t.args=[]) (hn:0≤t.n∧t.n≤19):Node ks t (mK t.n).1
 |not (h:t.op=3) (hk:ks=[1]):Node ks t 1
 |log (h:t.op=4∨t.op=5) (hk:ks=[1,1]):Node ks t 1
 |ite (k:Int) (h:t.op=6) (hk:ks=[1,k,k]):Node ks t k
 |less (h:t.op=7) (hk:ks=[0,0]):Node ks t 1
 |equal (k:Int) (h:t.op=8) (hk:ks=[k,k]):Node ks t 1
 |num (h:9≤t.op∧t.op≤13) (hk:ks=[0,0]):Node ks t 0
theorem auf (v:Int):(mK v).1=0∨(mK v).1=1:=by
 unfold mK;repeat' split
 all_goals simp
theorem aoc {t:Tm}{ks:List Int}{k:Int}(hl:ks.length=t.args.length)(ji:∀x,x∈ks→x=0∨x=1)(h:xu t ks=(k,0)):Node ks t k:=by
 unfold xu at h;split at h
 ·injection h with _ h;cases h
 rename_i cd;split at h
 ·rename_i h3;unfold D2 at h;split at h
  ·injection h with _ h;cases h
  rename_i ha0;have ha:t.args=[]:=Lm (by omega);split at h
  ·rename_i h0;split at h
   ·injection h with _ h;cases h
   ·rename_i hc;injection h with h _
    subst h;refine .int h0 ha ?_;unfold pw at hc;omega
  split at h
  ·rename_i h0;split at h
   ·injection h with _ h;cases h
   ·rename_i hc;injection h with h _
    subst h;exact .bool h0 ha (by omega)
  split at h
  ·injection h with _ h;cases h
  ·rename_i g0 g1 hc;injection h with h _
   subst h;refine .var (by omega) ha ?_;unfold mK at hc;split at hc
   ·simp at hc
   ·omega
 rename_i h3;split at h
 ·injection h with _ h;cases h
 rename_i hlen;have od:ks.length=(eU t.op).1.length:=by
  refine rR fun hh=>hlen (.inl hh)
 split at h
 ·injection h with _ h;cases h
 rename_i aB;have jU:∀j,j<(eU t.op).1.length→ot (eU t.op).1 ks j=true:=yr.1 (by simpa using aB)
 have two:∀{n:Nat},ks.length=2→∃a b,ks=[a,b]:=fun h=>by
  match ks,h with
  |[a,b],_=>exact⟨a,b,rfl⟩
 by_cases o3:t.op=3
 ·have e:eU t.op=([1],1):=by simp[eU,o3]
  rw[e] at od jU h
  match ks,od with
  |[a],_=>
   have:=jU 0 (by simp);simp[ot] at this;simp at h;subst h this;exact .not o3 rfl
 by_cases Jq:t.op=4∨t.op=5
 ·have e:eU t.op=([1,1],1):=by simp[eU,o3,Jq]
  rw[e] at od jU h
  match ks,od with
  |[a,b],_=>
   have t1:=jU 0 (by simp);have t2:=jU 1 (by simp);simp[ot] at t1 t2;simp at h;subst h t1 t2;exact .log Jq rfl
 by_cases o6:t.op=6
 ·have e:eU t.op=([1,-1,-1],-1):=by simp[eU,o6]
  rw[e] at od jU h
  match ks,od,ji with
  |[a,b,c],_,ji=>
   have t1:=jU 0 (by simp);have t3:=jU 2 (by simp);have hb:=ji b (by simp);have qO:¬b=-1:=by omega
   simp[ot] at t1;simp[ot,nm,qO] at t3;simp[nm,qO] at h;subst h t1 t3;exact .ite _ o6 rfl
 by_cases o7:t.op=7
 ·have e:eU t.op=([0,0],1):=by simp[eU,o7]
  rw[e] at od jU h
  match ks,od with
  |[a,b],_=>
   have t1:=jU 0 (by simp);have t2:=jU 1 (by simp);simp[ot] at t1 t2;simp at h;subst h t1 t2;exact .less o7 rfl
 by_cases o8:t.op=8
 ·have e:eU t.op=([-1,-1],1):=by simp[eU,o8]
  rw[e] at od jU h
  match ks,od,ji with
  |[a,b],_,ji=>
   have t2:=jU 1 (by simp);have ha:=ji a (by simp);have han:¬a=-1:=by omega
   simp[ot,nm,han] at t2;simp at h;subst h t2;exact .equal _ o8 rfl
 have e:eU t.op=([0,0],0):=by simp[eU,o3,Jq,o6,o7,o8]
 rw[e] at od jU h
 match ks,od with
 |[a,b],_=>
  have t1:=jU 0 (by simp);have t2:=jU 1 (by simp);simp[ot] at t1 t2;simp at h;subst h t1 t2;exact .num (by omega) rfl
theorem MI:∀{L:Nat} {t:Tm} {k:Int},cB (L+1) t=(k,0)→Node (t.args.map fun a=>(cB L a).1) t k∧(k=0∨k=1)
 |L,t,k,h=>by
  obtain⟨h1,h2⟩:=MH h
  have ji:∀x,x∈(t.args.map fun a=>(cB L a).1)→x=0∨x=1:=by
   intro x hx;obtain⟨a,ha,rfl⟩:=dM.1 hx;cases L with
   |zero=>exact .inl rfl
   |succ L=>exact(MI (L:=L) (t:=a) (k:=(cB (L+1) a).1) (by rw[←h1 a ha])).2
  have hn:=aoc (by simp) ji h2;refine⟨hn,?_⟩;cases hn with
  |int=>simp
  |bool=>simp
  |var=>exact auf _
  |not=>simp
  |log=>simp
  |ite k _ hk=>exact ji k (by rw[hk];simp)
  |less=>simp
  |equal=>simp
  |num=>simp
end Rm
namespace Rm
open Go Go.Proofs Cx
def vW (k:Int)(c:Cell):Prop:=(c.known=false→c=eA)∧(c.known=true→(k=1→c.n=0∨c.n=1)∧(k=0→-1099511627776≤c.n∧c.n≤1099511627776))
theorem vm (k:Int):vW k eA:=⟨fun _=>rfl,fun h=>by cases h⟩
theorem Bn (b:Bool):vW 1 (gQ b):=⟨fun h=>(by cases b<;>cases h),fun _=>⟨fun _=>(by cases b<;>simp[gQ]),fun h=>by cases h⟩⟩
theorem MN (n:Int):-1099511627776≤pw n∧pw n≤1099511627776:=by unfold pw;omega
theorem aqL (cs:List Cell)(v:Int)(hv:0≤v∧v≤19):vW (mK v).1 (lS cs v):=by
 unfold lS;split
 ·exact vm _
 ·split
  ·rename_i h;rw[h];exact Bn _
  ·rename_i h;refine⟨fun h=>(by cases h),fun _=>⟨fun h'=>absurd h' h,fun _=>MN _⟩⟩
theorem apt (a b:Int):-1099511627776≤AT a b∧AT a b≤1099511627776:=by
 unfold AT;have:=abK (a.natAbs*b.natAbs);split<;>omega
theorem aeJ (op a b:Int)(ha:-1099511627776≤a∧a≤1099511627776)(hb:-1099511627776≤b∧b≤1099511627776):-1099511627776≤yt op a b∧yt op a b≤1099511627776:=by
 unfold yt;split
 ·exact MN _
 split
 ·exact MN _
 split
 ·exact apt _ _
 split<;>omega
theorem anO {α β:Type}{f:α→β}{l:List α}{x:β}(h:l.map f=[x]):∃a,l=[a]∧f a=x:=by
 match l,h with
 |[a],h=>exact⟨a,rfl,by simpa using h⟩
theorem As {α β:Type}{f:α→β}{l:List α}{x y:β}(h:l.map f=[x,y]):∃a b,l=[a,b]∧f a=x∧f b=y:=by
 match l,h with
 |[a,b],h=>exact⟨a,b,rfl,by simpa using h⟩
theorem Pp {α β:Type}{f:α→β}{l:List α}{x y z:β}(h:l.map f=[x,y,z]):∃a b c,l=[a,b,c]∧f a=x∧f b=y∧f c=z:=by
 match l,h with
 |[a,b,c],h=>exact⟨a,b,c,rfl,by simpa using h⟩
theorem WB:∀{L:Nat} {t:Tm} {k:Int} (cs:List Cell),cB L t=(k,0)→vW k (bV L cs t)
 |0,t,k,cs,h=>vm _
 |L+1,t,k,cs,h=>by
  obtain⟨hn,hk⟩:=MI h;obtain⟨ha,_⟩:=MH h;have ih:∀a,a∈t.args→vW (cB L a).1 (bV L cs a):=fun a hm=>WB cs (show cB L a=((cB L a).1,0) by rw[←ha a hm]);rw[HN];cases hn with
  |int h0 ha hn=>rw[if_pos (.inl h0)];exact⟨fun h=>(by cases h),fun _=>⟨fun h=>(by cases h),fun _=>hn⟩⟩
  |bool h0 ha hn=>rw[if_pos (.inr h0)];exact⟨fun h=>(by cases h),fun _=>⟨fun _=>hn,fun h=>by cases h⟩⟩
  |var h0 ha hn=>rw[if_neg (by omega),if_pos h0];exact aqL cs _ hn
  |not h0 hk=>
   rw[if_neg (by omega),if_neg (by omega),if_neg (by omega)];unfold gX;rw[if_pos h0];split
   ·exact Bn _
   ·exact vm _
  |log h0 hk=>
   rw[if_neg (by omega),if_neg (by omega),if_neg (by omega)];unfold gX;rw[if_neg (by omega)];split
   ·exact Bn _
   rw[if_neg (by omega)];split
   ·exact vm _
   exact Bn _
  |ite k h0 bE=>
   obtain⟨a,b,c,hl,e1,e2,e3⟩:=Pp bE;rw[hl] at ih ⊢;have r1:=ih a (by simp);have r2:=ih b (by simp);have r3:=ih c (by simp);rw[e1] at r1;rw[e2] at r2;rw[e3] at r3;rw[if_neg (by omega),if_neg (by omega)];simp only[gU,F4,bt,tN];split
   ·rename_i hh;rcases(r1.2 hh.2).1 rfl with h1|h1<;>rw[h1]
    ·exact r3
    ·exact r2
   ·unfold gX;rw[if_neg (by omega),if_neg (by omega),if_pos h0];simp only[bt,tN,BL];split
    ·exact r2
    ·exact vm _
  |less h0 hk=>
   rw[if_neg (by omega),if_neg (by omega),if_neg (by omega)];unfold gX;rw[if_neg (by omega),if_neg (by omega),if_neg (by omega)];split
   ·exact vm _
   repeat' split
   all_goals exact Bn _
  |equal k h0 hk=>
   rw[if_neg (by omega),if_neg (by omega),if_neg (by omega)];unfold gX;rw[if_neg (by omega),if_neg (by omega),if_neg (by omega)];split
   ·exact vm _
   repeat' split
   all_goals exact Bn _
  |num h0 bE=>
   obtain⟨a,b,hl,e1,e2⟩:=As bE;rw[hl] at ih ⊢;have r1:=ih a (by simp);have r2:=ih b (by simp);rw[e1] at r1;rw[e2] at r2;rw[if_neg (by omega),if_neg (by omega),if_neg (by omega)];unfold gX;rw[if_neg (by omega),if_neg (by omega),if_neg (by omega)];simp only[gU,F4,bt,tN,BL];split
   ·exact vm _
   rename_i Dn;rw[if_neg (by omega),if_neg (by omega),if_neg (by omega)];have k1:(bV L cs a).known=true:=by
    cases e:(bV L cs a).known with
    |true=>rfl
    |false=>exact absurd (.inl e) Dn
   have k2:(bV L cs b).known=true:=by
    cases e:(bV L cs b).known with
    |true=>rfl
    |false=>exact absurd (.inr e) Dn
   exact⟨fun h=>(by cases h),fun _=>⟨fun h=>(by cases h),fun _=>aeJ _ _ _ ((r1.2 k1).2 rfl) ((r2.2 k2).2 rfl)⟩⟩
theorem ZV:∀(L:Nat) (cs:List Cell) (t:Tm),cV L t≤60→((ed L cs t).length:Int)≤cV L t
 |0,cs,t,h=>by simp[cV] at h
 |L+1,cs,t,h=>by
  have h1:=xr (L+1) t;obtain⟨hl,hp⟩:=Ps h;have hs:∀(l:List Tm) (n:Int),(∀a,a∈l→cV L a≤60)→fM (cV L) l n≤60→((l.map (ed L cs)).flatten.length:Int)+n≤fM (cV L) l n∧∀j,(((l.map (ed L cs)).getD j []).length:Int)+n≤fM (cV L) l n:=by
   intro l
   induction l with
   |nil=>intro n _ _;simp[fM]
   |cons a l ih=>
    intro n hp hm;have ha:=ZV L cs a (hp a (by simp));unfold fM at hm ⊢;split at hm
    ·omega
    ·rename_i h60;rw[if_neg h60];obtain⟨i1,i2⟩:=ih (n+cV L a) (fun b hb=>hp b (by simp[hb])) hm;refine⟨by rw[gU,Vp,jG];omega,fun j=>?_⟩;cases j with
     |zero=>simp;omega
     |succ j=>have:=i2 j;simp at this ⊢;omega
  obtain⟨pU,fj⟩:=hs t.args 1 hp h;rw[Jm];split
  ·simp;omega
  split
  ·split<;>simp<;>omega
  split
  ·have:=fj (2-(bt (t.args.map (bV L cs)) 0).n).toNat;show _≤fM _ _ _;omega
  split
  ·simp;omega
  ·show _≤fM _ _ _;omega
@[simp] theorem aAY (x y:List Int):vA (ints x) 0 (ints y)=ints y:=_root_.id rfl
@[simp] theorem aq9 (x y:Cell):vA (df x) 0 (df y)=df y:=_root_.id rfl
@[simp] theorem azz (a b:List Int):D.list (a.map D.int++b.map D.int)=ints (a++b):=by simp[ints]
def lists (l:List (List Int)):D:=.list (l.map ints)
@[simp] theorem azL (l:List (List Int)):(lists l).l=l.map ints:=_root_.id rfl
theorem ad4 (l:List (List Int))(hl:l.length≤1000)(hs:l.flatten.length≤1000000):aq T 150 [lists l] (ints l.flatten):=by
 refine .of_tree rfl (lA 89 (by kernel_rfl)) atj ?_;simp[T9];have hb:∀k,(l.take k).flatten.length≤l.flatten.length:=by
  intro k
  conv=>rhs;rw[←Lw k l]
  rw[List.flatten_append,jG];omega
 have bl:∀k (hk:k<l.length),(l.take (k+1)).flatten=(l.take k).flatten++l[k]:=fun k hk=>by
  rw[nJ hk,List.flatten_append];simp
 refine aP.forRounds l.length (fun k=>[.int ((l.take k).flatten.length:Nat),.int k]) (fun k=>[]) ?_ (fun k hk=>?_) ?_
 ·simp
 ·have hw:=bn hk (by omega);have h1:=bl k hk;have h2:=hb (k+1);rw[h1] at h2 ⊢;rw[jG] at h2 ⊢;generalize (l.take k).flatten.length=m at*;have sV:IntKind.i64.wrap ((m:Int)+(l[k].length:Int))=(m:Int)+l[k].length:=bL (by omega);have wX:¬((m:Int)+l[k].length<0):=by omega
  simp[acQ,KD,hk,hw,sV,wX]
 ·simp[acQ,KD];have XN:aq T 164 [.list [],.int (l.flatten.length:Nat)] (.list []):=by
   refine .of_ext (g:=fun _ ds=>H0 ds) rfl ⟨0,fun _ _=>?_⟩;show(if(0:Int)≤(l.flatten.length:Nat)∧((l.flatten.length:Nat):Int)≤4294967296 then some (D.list []) else none)=some (D.list []);rw[if_pos (by omega)]
  rw[List.length_flatten] at XN;refine⟨_,XN,?_⟩;refine aP.forRounds l.length (fun k=>[.none,.int k]) (fun k=>[ints (l.take k).flatten]) ?_ (fun k hk=>?_) ?_
  ·simp[ints]
  ·have hw:=bn hk (by omega);have h1:=bl k hk;have h2:=hb (k+1);rw[h1] at h2 ⊢;rw[jG] at h2;generalize (l.take k).flatten=m at*;simp[acR,KE,hk,hw];omega
  ·simp[acR,KE]
theorem afF {op:Int}{l:List Cell}(h:(gX op l).known=false):gX op l=eA:=by
 have hy:∀b,(gQ b).known=true:=fun b=>by cases b<;>simp[gQ]
 unfold gX at h ⊢;split<;>rename_i c1
 ·rw[if_pos c1] at h;split<;>rename_i c2
  ·rw[if_pos c2,hy] at h;cases h
  ·rfl
 rw[if_neg c1] at h;split<;>rename_i c2
 ·rw[if_pos c2,hy] at h;cases h
 rw[if_neg c2] at h;split<;>rename_i c3
 ·rw[if_pos c3] at h;split<;>rename_i c4
  ·rw[if_pos c4,c4.1] at h;cases h
  ·rfl
 rw[if_neg c3] at h;split<;>rename_i c4
 ·rfl
 rw[if_neg c4] at h
 repeat' split at h
 all_goals first|(rw[hy] at h;cases h)|cases h
theorem adK:∀(L:Nat) (cs:List Cell) (t:Tm) (k:Int),t.OK→cV L t≤60→cB L t=(k,0)→aq T 134 [MY cs,dO t] (.tup [df (bV L cs t),ints (ed L cs t)])
 |0,cs,t,k,ht,hm,hc=>by simp[cV] at hm
 |L+1,cs,t,k,ht,hm,hc=>by
  refine .of_tree rfl (lA 82 (by kernel_rfl)) atE ?_;obtain⟨hl,hp⟩:=Ps hm;obtain⟨ha,_⟩:=MH hc;obtain⟨hn,azc⟩:=MI hc;have iQ:∀a,a∈t.args→aq T 134 [MY cs,dO a] (.tup [df (bV L cs a),ints (ed L cs a)]):=fun a fg=>adK L cs a (cB L a).1 (ht.arg fg) (hp a fg) (by rw[←ha a fg]);have DK:∀a,a∈t.args→vW (cB L a).1 (bV L cs a):=fun a fg=>WB cs (show cB L a=((cB L a).1,0) by rw[←ha a fg]);have X5:∀a,a∈t.args→(ed L cs a).length≤60:=fun a fg=>by have:=ZV L cs a (hp a fg);have:=hp a fg;omega
  by_cases ji:t.op=0∨t.op=1
  ·
   have e1:bV (L+1) cs t=⟨true,t.n⟩:=by rw[HN,if_pos ji]
   have e2:ed (L+1) cs t=[]:=by rw[Jm,if_pos ji]
   rw[e1,e2];rcases ji with h|h<;>simp[FJ,h]<;>exact⟨rfl,rfl⟩
  have o0:t.op≠0:=fun h=>ji (.inl h);have o1:t.op≠1:=fun h=>ji (.inr h);by_cases o2:t.op=2
  ·have hv:0≤t.n:=by
    cases hn with
    |var h0 ha hn=>exact hn.1
    |_=>omega
   have e1:bV (L+1) cs t=lS cs t.n:=by rw[HN,if_neg ji,if_pos o2]
   have e2:ed (L+1) cs t=if(lS cs t.n).known=true then[] else[t.n]:=by rw[Jm,if_neg ji,if_pos o2]
   rw[e1,e2];simp[FJ,o2];refine⟨_,ary cs t.n hv,?_⟩;cases e:(lS cs t.n).known
   ·have:lS cs t.n=eA:=by
     unfold lS at e ⊢;split
     ·rfl
     ·rename_i h;rw[if_neg h] at e;split at e
      ·cases hb:decide ((cellAt cs t.n).n≠0)<;>rw[hb] at e<;>cases e
      ·cases e
    rw[this];simp[ints]
   ·have h:lS cs t.n=⟨true,(lS cs t.n).n⟩:=by rw[←e]
    rw[h];simp[ints]
    try rfl
  have hlen:1≤t.args.length∧(t.op≠3→2≤t.args.length)∧(t.op=6→3≤t.args.length):=by
   cases hn with
   |int h0 ha hn=>omega
   |bool h0 ha hn=>omega
   |var h0 ha hn=>omega
   |not h0 hk=>obtain⟨a,hl,_⟩:=anO hk;rw[hl];simp;omega
   |log h0 hk=>obtain⟨a,b,hl,_⟩:=As hk;rw[hl];simp;omega
   |ite k h0 hk=>obtain⟨a,b,c,hl,_⟩:=Pp hk;rw[hl];simp
   |less h0 hk=>obtain⟨a,b,hl,_⟩:=As hk;rw[hl];simp;omega
   |equal k h0 hk=>obtain⟨a,b,hl,_⟩:=As hk;rw[hl];simp;omega
   |num h0 hk=>obtain⟨a,b,hl,_⟩:=As hk;rw[hl];simp;omega
  have hb9:9≤t.op→(-1099511627776≤(bt (t.args.map (bV L cs)) 0).n∧(bt (t.args.map (bV L cs)) 0).n≤1099511627776)∧(-1099511627776≤(bt (t.args.map (bV L cs)) 1).n∧(bt (t.args.map (bV L cs)) 1).n≤1099511627776):=by
   intro h9;have rb:∀c:Cell,vW 0 c→-1099511627776≤c.n∧c.n≤1099511627776:=by
    intro c hr;cases e:c.known with
    |false=>rw[hr.1 e];simp
    |true=>exact(hr.2 e).2 rfl
   cases hn with
   |num h0 hk=>
    obtain⟨a,b,hl,ea,eb⟩:=As hk;rw[hl] at DK ⊢;have r1:=DK a (by simp);have r2:=DK b (by simp);rw[ea] at r1;rw[eb] at r2;exact⟨rb _ r1,rb _ r2⟩
   |log h0 hk=>omega
   |_=>omega
  have h6:t.op=6→(bt (t.args.map (bV L cs)) 0).known=true→(bt (t.args.map (bV L cs)) 0).n=0∨(bt (t.args.map (bV L cs)) 0).n=1:=by
   intro o6 Dn;cases hn with
   |ite k h0 hk=>
    obtain⟨a,b,c,hl,ea,_⟩:=Pp hk;rw[hl] at DK Dn ⊢;have r1:=DK a (by simp);rw[ea] at r1;exact(r1.2 Dn).1 rfl
   |log h0 hk=>omega
   |num h0 hk=>omega
   |_=>omega
  have cd:t.op<3∨8<t.op→9≤t.op:=by
   cases hn with
   |log h0 hk=>omega
   |num h0 hk=>omega
   |_=>omega
  have e1:bV (L+1) cs t=if t.op=6∧(bt (t.args.map (bV L cs)) 0).known=true then bt (t.args.map (bV L cs)) (2-(bt (t.args.map (bV L cs)) 0).n).toNat else gX t.op (t.args.map (bV L cs)):=by
   rw[HN,if_neg ji,if_neg o2]
  have e2:ed (L+1) cs t=if t.op=6∧(bt (t.args.map (bV L cs)) 0).known=true then(t.args.map (ed L cs)).getD (2-(bt (t.args.map (bV L cs)) 0).n).toNat [] else if(gX t.op (t.args.map (bV L cs))).known=true then[] else(t.args.map (ed L cs)).flatten:=by
   rw[Jm,if_neg ji,if_neg o2]
  rw[e1,e2];simp[FJ,o0,o1,o2];refine⟨by omega,?_⟩;refine aP.forRounds t.args.length (fun k=>[.int k]) (fun k=>[cells ((t.args.map (bV L cs)).take k++List.replicate (t.args.length-k) eA),lists ((t.args.map (ed L cs)).take k++List.replicate (t.args.length-k) [])]) ?_ (fun k hk=>?_) ?_
  ·simp[cells,lists,ints]
  ·have hw:=bn hk (by omega);have cQ:=de hk;have hr:=iQ _ cQ;have s1:=R9 (t.args.map (bV L cs)) eA (n:=t.args.length) (by simp) hk;have s2:=R9 (t.args.map (ed L cs)) [] (n:=t.args.length) (by simp) hk;rw[←s1,←s2];have l1:((t.args.map (bV L cs)).take k++List.replicate (t.args.length-k) eA).length=t.args.length:=by simp;omega
   have l2:((t.args.map (ed L cs)).take k++List.replicate (t.args.length-k) []).length=t.args.length:=by simp;omega
   have g1:(t.args.map (bV L cs))[k]'(by simpa using hk)=bV L cs t.args[k]:=by simp
   have g2:(t.args.map (ed L cs))[k]'(by simpa using hk)=ed L cs t.args[k]:=by simp
   rw[g1,g2];generalize (t.args.map (bV L cs)).take k++List.replicate (t.args.length-k) eA=A at*;generalize (t.args.map (ed L cs)).take k++List.replicate (t.args.length-k) []=B at*;generalize bV L cs t.args[k]=c at*;generalize ed L cs t.args[k]=d at*;simp[RS,Fm,hk];refine⟨_,hr,?_⟩;simp[hw,hk,l1,l2,cells,lists]
  ·have hA:(t.args.map (bV L cs)).take t.args.length++List.replicate (t.args.length-t.args.length) eA=t.args.map (bV L cs):=by rw[Ly,List.replicate_zero,lf,BO (by simp)]
   have hB:(t.args.map (ed L cs)).take t.args.length++List.replicate (t.args.length-t.args.length) []=t.args.map (ed L cs):=by rw[Ly,List.replicate_zero,lf,BO (by simp)]
   have lA:(t.args.map (bV L cs)).length=t.args.length:=by simp
   have lB:(t.args.map (ed L cs)).length=t.args.length:=by simp
   have jO:∀l:List Tm,(∀a,a∈l→a∈t.args)→((l.map (ed L cs)).flatten.length≤l.length*60):=by
    intro l
    induction l with
    |nil=>intro _;simp
    |cons a l ih=>
     intro h;have h1:=X5 a (h a (by simp));have h2:=ih (fun b hb=>h b (by simp[hb]));rw[gU,Vp,jG,nI];omega
   have jO:=jO t.args (fun a h=>h);have hBg:∀m:Nat,(Option.map (ed L cs) t.args[m]?).getD []=(t.args.map (ed L cs)).getD m []:=fun m=>by simp[aJ]
   rw[hA,hB];generalize t.args.map (bV L cs)=A at*;generalize t.args.map (ed L cs)=B at*;have g0:0<A.length:=by omega
   have wA:A[0]=bt A 0:=by simp[bt,g0]
   by_cases H8:t.op=6∧(bt A 0).known=true
   ·obtain⟨o6,kn⟩:=H8;have hv:=h6 o6 kn;have hw:IntKind.i64.wrap (2-(bt A 0).n)=2-(bt A 0).n:=bL (by omega);have h3:3≤t.args.length:=hlen.2.2 o6;rw[if_pos ⟨o6,kn⟩,if_pos ⟨o6,kn⟩];obtain⟨m,fg⟩:∃m:Nat,m=(2-(bt A 0).n).toNat:=⟨_,rfl⟩
    have Dt:m<A.length:=by omega
    have NY:m<B.length:=by omega
    simp[RS,Fm,o6,kn,g0,wA,hw,←fg,Dt,NY,cells,lists];refine⟨by omega,by omega,by simp[bt,Dt],?_⟩;rw[hBg,aJ,bA NY];rfl
   ·rw[if_neg H8,if_neg H8];have ajv:=aru t.op A (by omega) (by omega) (by omega) hb9 cd;have ajx:=ad4 B (by omega) (by omega);simp[RS,Fm,g0,wA];rw[if_neg H8];refine⟨_,ajv,?_⟩;cases e:(gX t.op A).known
    ·have du:gX t.op A=eA:=afF e;rw[du];simp;exact ajx
    ·have h:gX t.op A=⟨true,(gX t.op A).n⟩:=by rw[←e]
     rw[h];simp[ints]
     try rfl
end Rm
namespace Rm
open Go Go.Proofs Cx
def mg (n:Nat)(g:Nat→Bool):Int:=if(List.range n).findIdx g<n then((List.range n).findIdx g:Nat) else-1
theorem D0 (n:Nat)(g:Nat→Bool):(mg n g=-1∧∀k,k<n→g k=false)∨∃k:Nat,k<n∧mg n g=k∧g k=true∧∀i,i<k→g i=false:=by
 unfold mg;split
 ·rename_i h;refine .inr ⟨_,h,rfl,?_,fun i hi=>?_⟩
  ·have:=List.findIdx_getElem (p:=g) (xs:=List.range n) (w:=by simpa using h);simpa using this
  ·have:=List.not_of_lt_findIdx (p:=g) (xs:=List.range n) hi;simpa using this
 ·rename_i h;refine .inl ⟨rfl,fun k hk=>?_⟩;have:=List.not_of_lt_findIdx (p:=g) (xs:=List.range n) (i:=k) (by omega);simpa using this
theorem I3 {n:Nat}{g:Nat→Bool}(h:∀k,k<n→g k=false):mg n g=-1:=by
 rcases D0 n g with⟨h1,_⟩|⟨k,hk,_,h2,_⟩
 ·exact h1
 ·rw[h k hk] at h2;cases h2
theorem I4 {n k:Nat}{g:Nat→Bool}(hk:k<n)(h:g k=true)(hj:∀i,i<k→g i=false):mg n g=k:=by
 rcases D0 n g with⟨_,h1⟩|⟨m,hm,h1,h2,h3⟩
 ·rw[h1 k hk] at h;cases h
 ·rcases Nat.lt_trichotomy m k with h4|h4|h4
  ·rw[hj m h4] at h2;cases h2
  ·rw[h1,h4]
  ·rw[h3 k h4] at h;cases h
theorem O8 (n:Nat)(g:Nat→Bool):decide (0≤mg n g)=(List.range n).any g:=by
 rcases D0 n g with⟨h1,h2⟩|⟨m,hm,h1,h2,h3⟩
 ·rw[h1]
  symm
  simp;exact h2
 ·rw[h1];simp;exact⟨m,hm,h2⟩
theorem aeb (l:List Rule)(f:Nat)(caps:List D)(g:Nat→Bool)(hg:∀k (hk:k<l.length),aq T f (sA l[k]::caps) (.bool (g k)))(hl:l.length≤4294967296):
 aq T 131 [rules l,.clo f caps] (.int (mg l.length g)):=by
 refine .of_tree rfl (lA 73 (by kernel_rfl)) atr ?_;simp[Uh];refine .scan l.length (fun k=>g k=false) (fun k=>[.int 0,.int k]) (fun _=>[]) ?_ (fun k hk hj ho=>?_) (fun k hk hj ho=>?_) (fun hj=>?_)
 ·simp
 ·have hw:=bn hk hl;simp[RN,Fh,hk,hw];refine⟨_,_,⟨rfl,rfl⟩,_,hg k hk,?_⟩;simp[ho,hw]
 ·have he:=I4 hk (by simpa using ho) hj;simp[RN,Fh,hk,he];refine⟨_,_,⟨rfl,rfl⟩,_,hg k hk,?_⟩;simp[ho]
 ·have he:=I3 hj;simp[RN,Fh,he]
theorem aec (l:List Int)(f:Nat)(caps:List D)(g:Nat→Bool)(hg:∀k (hk:k<l.length),aq T f (.int l[k]::caps) (.bool (g k)))(hl:l.length≤4294967296):
 aq T 157 [ints l,.clo f caps] (.int (mg l.length g)):=by
 refine .of_tree rfl (lA 68 (by kernel_rfl)) ats ?_;simp[Ui];refine .scan l.length (fun k=>g k=false) (fun k=>[.int 0,.int k]) (fun _=>[]) ?_ (fun k hk hj ho=>?_) (fun k hk hj ho=>?_) (fun hj=>?_)
 ·simp
 ·have hw:=bn hk hl;simp[RO,Fi,hk,hw,ints];refine⟨_,_,⟨rfl,rfl⟩,_,hg k hk,?_⟩;simp[ho,hw]
 ·have he:=I4 hk (by simpa using ho) hj;simp[RO,Fi,hk,he,ints];refine⟨_,_,⟨rfl,rfl⟩,_,hg k hk,?_⟩;simp[ho]
 ·have he:=I3 hj;simp[RO,Fi,he,ints]
theorem ad9 (l:List Alter)(f:Nat)(caps:List D)(g:Nat→Bool)(hg:∀k (hk:k<l.length),aq T f (pB l[k]::caps) (.bool (g k)))(hl:l.length≤4294967296):
 aq T 156 [alters l,.clo f caps] (.int (mg l.length g)):=by
 refine .of_tree rfl (lA 59 (by kernel_rfl)) atp ?_;simp[Uf];refine .scan l.length (fun k=>g k=false) (fun k=>[.int 0,.int k]) (fun _=>[]) ?_ (fun k hk hj ho=>?_) (fun k hk hj ho=>?_) (fun hj=>?_)
 ·simp
 ·have hw:=bn hk hl;simp[RL,Ff,hk,hw];refine⟨_,_,⟨rfl,rfl⟩,_,hg k hk,?_⟩;simp[ho,hw]
 ·have he:=I4 hk (by simpa using ho) hj;simp[RL,Ff,hk,he];refine⟨_,_,⟨rfl,rfl⟩,_,hg k hk,?_⟩;simp[ho]
 ·have he:=I3 hj;simp[RL,Ff,he]
theorem ad7 (l:List Int)(f:Nat)(caps:List D)(g:Nat→Bool)(hg:∀k (hk:k<l.length),aq T f (.int l[k]::caps) (.bool (g k)))(hl:l.length≤4294967296):
 aq T 144 [ints l,.clo f caps] (.bool ((List.range l.length).any g)):=by
 refine .of_tree rfl (lA 67 (by kernel_rfl)) atm ?_;simp[Uc];refine⟨_,aec l f caps g hg hl,?_⟩;have:=O8 l.length g;simp[←this]
theorem ad5 (l:List Alter)(f:Nat)(caps:List D)(g:Nat→Bool)(hg:∀k (hk:k<l.length),aq T f (pB l[k]::caps) (.bool (g k)))(hl:l.length≤4294967296):
 aq T 140 [alters l,.clo f caps] (.bool ((List.range l.length).any g)):=by
 refine .of_tree rfl (lA 58 (by kernel_rfl)) atk ?_;simp[Ua];refine⟨_,ad9 l f caps g hg hl,?_⟩;have:=O8 l.length g;simp[←this]
def zD (cs:List Cell)(t:Tm):Cell:=if(nN t).2=0 then bV 8 cs t else eA
theorem afw {t:Tm}(h:(nN t).2=0):cV 8 t≤60∧cB 8 t=((nN t).1,0):=by
 unfold nN at h ⊢;split at h
 ·cases h
 ·rename_i hm;rw[if_neg hm];exact⟨by omega,by rw[←h]⟩
theorem ars (t:Tm)(cs:List Cell)(ht:t.OK):aq T 105 [dO t,cells cs] (df (zD cs t)):=by
 refine .of_tree rfl (lA 81 (by kernel_rfl)) atw ?_;simp[Um,zD];refine⟨_,adI t ht,?_⟩;by_cases h:(nN t).2=0
 ·obtain⟨h1,h2⟩:=afw h;simp[h];refine⟨_,adK 8 cs t _ ht h1 h2,?_⟩;simp
  try rfl
 ·simp[h]
  try rfl
def PA:List Int:=[6,7,10,12,13,14,15,16,20,21]
def lQ (ask:Int):Int×Bool:=if ask<0∨22≤ask then(0,false) else if hasB PA ask then(0,true) else(1,true)
theorem Qm (ask:Int):aq T 101 [.int ask] (.tup [.int (lQ ask).1,.bool (lQ ask).2]):=by
 refine .of_tree rfl (lA 63 (by kernel_rfl)) ar9 ?_;simp[SW,lQ];by_cases h0:ask<0
 ·simp[h0]
 by_cases h1:22≤ask
 ·simp[h0,h1]
 simp[h0,h1];refine⟨_,BH PA ask (by decide),?_⟩;cases h:hasB PA ask<;>simp[h]
def Jn:Tm:=⟨0,0,[]⟩
def vq (o:Order)(ask:Int)(k:Nat):Bool:=decide ((o.rules.getD k default).ask=ask)
def Fx (o:Order)(i:Int):Tm:=(o.rules.getD i.toNat default).term
def findF (o:Order)(ask:Int):Tm×Int:=
 if(lQ ask).2=false then(Jn,1) else if mg o.rules.length (vq o ask)<0 then(Jn,4) else
    if(nN (Fx o (mg o.rules.length (vq o ask)))).2≠0∨(nN (Fx o (mg o.rules.length (vq o ask)))).1≠(lQ ask).1 then(Jn,11) else(Fx o (mg o.rules.length (vq o ask)),0)
theorem adh {o:Order}(ho:o.OK){m:Nat}(hm:m<o.rules.length):o.rules[m].term.OK:=(ho.2.2 _ (de hm)).2
theorem Pz:Jn.OK:=by
 exact .mk 0 0 [] (by unfold aN;omega) (by unfold aN;omega) (by decide) (fun _ h=>by cases h)
theorem ahh {o:Order}(ho:o.OK)(ask:Int):(findF o ask).1.OK:=by
 unfold findF;split
 ·exact Pz
 split
 ·exact Pz
 split
 ·exact Pz
 ·rename_i h _;rcases D0 o.rules.length (vq o ask) with⟨h1,h2⟩|⟨m,hm,h1,h2,h3⟩
  ·exact absurd (by rw[h1];decide) h
  ·rw[h1];simp[Fx,hm];exact adh ho hm
theorem ahf (r:Rule)(ask:Int):aq T 132 [sA r,.ref (.int ask)] (.bool (decide (r.ask=ask))):=by
 refine .of_tree rfl (lA 72 (by kernel_rfl)) asa ?_;simp[SY]
theorem ao0 (o:Order)(ask:Int)(ho:o.OK)(hl:o.rules.length≤4294967296):aq T 104 [jJ o,.int ask] (.tup [dO (findF o ask).1,.int (findF o ask).2]):=by
 refine .of_tree rfl (lA 71 (by kernel_rfl)) asb ?_;simp[SX,findF];refine⟨_,Qm ask,?_⟩;cases h0:(lQ ask).2
 ·simp[h0]
  try rfl
 simp[h0];refine⟨_,aeb o.rules 132 [.ref (.int ask)] (vq o ask) (fun k hk=>by simpa [vq,hk] using ahf o.rules[k] ask) hl,?_⟩;rcases D0 o.rules.length (vq o ask) with⟨h1,h2⟩|⟨m,hm,h1,h2,h3⟩
 ·rw[h1];simp
  try rfl
 ·rw[h1];have wX:¬((m:Int)<0):=by omega
  have htm:o.rules[m].term.OK:=adh ho hm;simp[hm,Fx,wX];refine⟨_,adI _ htm,?_⟩;by_cases h4:(nN o.rules[m].term).2=0<;>by_cases h5:(nN o.rules[m].term).1=(lQ ask).1<;>simp[h4,h5]<;>try rfl
def qB (o:Order)(ask:Int)(cs:List Cell):Cell×Int:=
 if(findF o ask).2≠0 then(eA,(findF o ask).2) else
    (if(lQ ask).1=0∧(zD cs (findF o ask).1).known=true then⟨true,min (max (zD cs (findF o ask).1).n 0) 20000⟩ else zD cs (findF o ask).1,0)
theorem aoY (o:Order)(ask:Int)(cs:List Cell)(ho:o.OK)(hl:o.rules.length≤4294967296):aq T 84 [jJ o,.int ask,cells cs] (.tup [df (qB o ask cs).1,.int (qB o ask cs).2]):=by
 refine .of_tree rfl (lA 70 (by kernel_rfl)) ar8 ?_;simp[SV];refine⟨_,ao0 o ask ho hl,?_⟩;have hf:(findF o ask).1.OK:=ahh ho ask;by_cases h:(findF o ask).2=0
 ·simp[h,qB];refine⟨_,ars _ cs hf,_,Qm ask,?_⟩;generalize zD cs (findF o ask).1=c;obtain⟨kn,n⟩:=c;by_cases h1:(lQ ask).1=0
  ·cases kn
   ·simp[h1,df]
   ·by_cases h2:n<0
    ·have:min (max n 0) 20000=0:=by omega
     simp[h1,df,h2,this];rfl
    ·by_cases h3:20000<n
     ·have:min (max n 0) 20000=20000:=by omega
      simp[h1,df,h2,h3,this];rfl
     ·have:min (max n 0) 20000=n:=by omega
      simp[h1,df,h2,h3,this];rfl
  ·simp[h1,df]
 ·simp[h,qB]
  try rfl
end Rm
namespace Rm
open Go Go.Proofs Cx
theorem acZ (b:Bool):aq T 142 [.bool b] (df (gQ b)):=by
 refine .of_tree rfl (lA 61 (by kernel_rfl)) ath ?_;cases b<;>simp[T7,gQ]<;>rfl
def HP (kind sign:Int)(x:Fact):Bool:=decide (x.kind=kind)&&decide (x.at_=sign)
def ln (f:File)(kind sign:Int):Cell:=match f.facts.find? (HP kind sign) with|none=>eA|some x=>gQ (decide (x.n≠0))
theorem CI {α:Type}{p:α→Bool}:∀{l:List α} {k:Nat} (hk:k<l.length),p l[k]=true→(∀j (hj:j<k),p (l[j]'(by omega))=false)→l.find? p=some l[k]
 |a::l,0,hk,h,hj=>by simp at h;simp[h]
 |a::l,k+1,hk,h,hj=>by
  have h0:=hj 0 (by omega);simp at h0;simp only[List.find?_cons,h0,List.getElem_cons_succ];exact CI (by simpa using hk) (by simpa using h) (fun j ct=>by simpa using hj (j+1) (by omega))
theorem HR {α:Type}{p:α→Bool}{l:List α}(h:∀j (hj:j<l.length),p l[j]=false):l.find? p=none:=by
 rw[vS];intro x hx;obtain⟨j,hj,rfl⟩:=j7 hx;rw[h j hj];decide
theorem Ft (f:File)(kind sign:Int)(hl:f.facts.length≤4294967296):aq T 143 [aX f,.int kind,.int sign] (df (ln f kind sign)):=by
 refine .of_tree rfl (lA 62 (by kernel_rfl)) ate ?_;simp[T5];refine .scan f.facts.length (fun k=>HP kind sign (f.facts.getD k default)=false) (fun k=>[.int k]) (fun _=>[df eA]) ?_ (fun k hk hj ho=>?_) (fun k hk hj ho=>?_) (fun hj=>?_)
 ·simp
 ·have hw:=bn hk hl;simp[hk,HP] at ho;by_cases h1:f.facts[k].kind=kind<;>by_cases h2:f.facts[k].at_=sign
  ·exact absurd h2 (ho h1)
  all_goals simp[RI,Fe,hk,hw,h1,h2]
 ·have hw:=bn hk hl;have hf:ln f kind sign=gQ (decide (f.facts[k].n≠0)):=by
   unfold ln;rw[CI hk (by simpa [hk] using ho) (fun j ct=>by have:=hj j ct;simpa [show j<f.facts.length by omega] using this)]
  simp[hk,HP] at ho;simp[RI,Fe,hk,hw,ho,hf];refine⟨_,acZ _,?_⟩;simp
  try rfl
 ·have hf:ln f kind sign=eA:=by
   unfold ln;rw[HR (fun j ct=>by have:=hj j ct;simpa [ct] using this)]
  simp[RI,Fe,hf]
  try rfl
def mu (r:Realm)(c:Int):Int:=if au c r.cities.length=true then(r.cities.getD c.toNat default).order else-1
theorem rC (r:Realm)(c:Int):aq T 128 [aZ r,.int c] (.int (mu r c)):=by
 refine .of_tree rfl (lA 60 (by kernel_rfl)) as1 ?_;simp[TP,mu];refine⟨_,fR c r.cities.length,?_⟩;cases h:au c r.cities.length
 ·simp[h]
 ·simp[au] at h;have h1:c.toNat<r.cities.length:=by omega
  simp[h,h1]
def FK (day:Int)(l:List Sign):List Sign:=l.takeWhile fun s=>decide (s.day≤day)
def upA (day:Int)(l:List Act):List Act:=l.takeWhile fun s=>decide (s.day≤day)
def qA (n:Nat)(a:Alter):Bool:=decide (a.at_≤(n:Int))
def qK (n:Nat)(x:Fact):Bool:=au x.at_ n
def bz (f:File)(day:Int):File:=
 ⟨f.bill,FK day f.signs,f.alters.filter (qA (FK day f.signs).length),upA day f.acts,f.facts.filter (qK (FK day f.signs).length)⟩
theorem ya {α:Type}(p:α→Bool):∀(l:List α),∃m,m≤l.length∧l.takeWhile p=l.take m∧(∀k (hk:k<l.length),k<m→p l[k]=true)∧(∀hk:m<l.length,p l[m]=false)
 |[]=>⟨0,by simp,by simp,fun k hk=>by simp at hk,fun hk=>by simp at hk⟩
 |a::l=>by
  by_cases h:p a=true
  ·obtain⟨m,h1,h2,h3,h4⟩:=ya p l;refine⟨m+1,by simp;omega,by simp[h,h2],fun k hk hm=>?_,fun hk=>?_⟩
   ·cases k with
    |zero=>simpa using h
    |succ k=>simpa using h3 k (by simpa using hk) (by omega)
   ·simpa using h4 (by simpa using hk)
  ·refine⟨0,by simp,by simp[h],fun k hk hm=>by omega,fun hk=>by simpa using h⟩
theorem adH {α:Type}(p:α→Bool)(l:List α){k:Nat}(hk:k<l.length):(l.take (k+1)).filter p=(l.take k).filter p++if p l[k] then[l[k]] else[]:=by
 rw[nJ hk,BK]
 congr 1
 cases h:p l[k]<;>simp[h]
def BS (b:Bill)(w x y z:D):D:=.agg [.int b.drawer,.int b.drawee,.int b.payee,.int b.sum,.int b.currency,.int b.tenor.kind,.int b.tenor.n,.int b.tenor.unit,.int b.day,.int b.city,.int b.pay,.int b.need,.int b.rate,.int b.flags,.int b.parts,w,x,y,z]
def oe {α:Type}(l:List α):D:=match l with|[]=>.list []|_=>.none
@[simp] theorem azm {α:Type}:oe ([]:List α)=.list []:=rfl
@[simp] theorem azl {α:Type}(l:List α)(x:α):oe (l++[x])=.none:=by cases l<;>rfl
theorem RX (f:File)(day:Int)(h1:f.signs.length≤4294967295)(h2:f.acts.length≤4294967295)(h3:f.alters.length≤4294967295)(h4:f.facts.length≤4294967295):aq T 13 [aX f,.int day] (aX (bz f day)):=by
 refine .of_tree rfl (lA 54 (by kernel_rfl)) atd ?_;simp[T4];obtain⟨m,hm,hS,CX,pI⟩:=ya (fun s:Sign=>decide (s.day≤day)) f.signs;obtain⟨n,hn,hA,hA1,hA2⟩:=ya (fun s:Act=>decide (s.day≤day)) f.acts;refine aP.forRounds m (fun k=>[.int k]) (fun k=>[signs (f.signs.take k),BS f.bill (oe (f.signs.take k)) (.list []) (.list []) (.list [])]) ?_ (fun k hk=>?_) ?_
 ·simp[BS,signs]
  try rfl
 ·have aW:k<f.signs.length:=by omega
  have hw:=bn aW (by omega);have hd:=CX k aW hk;simp at hd;have gI:¬day<f.signs[k].day:=by omega
  have hle:(k:Int)+1≤4294967296:=by omega
  have ht:=nJ aW;rw[ht];have hlen:(f.signs.take k).length=k:=by simp;omega
  generalize f.signs.take k=A at*;simp[RE,E9,aW,hw,gI,hlen];exact⟨hle,by simp[signs],rfl⟩
 have hSl:(f.signs.take m).length≤4294967295:=by rw[dE];omega
 have Ni:bz f day=⟨f.bill,f.signs.take m,f.alters.filter (qA (f.signs.take m).length),f.acts.take n,f.facts.filter (qK (f.signs.take m).length)⟩:=by
  unfold bz FK upA;rw[hS,hA]
 rw[Ni];generalize f.signs.take m=S at*;have hAl:(f.acts.take n).length≤4294967295:=by rw[dE];omega
 by_cases fg:m<f.signs.length
 case' pos=>
  have hd:=pI fg;simp at hd;simp[RE,E9,fg,hd];generalize D.bool true=bb
 case' neg=>
  have Ds:m=f.signs.length:=by omega
  simp[RE,E9,fg,Ds];generalize D.bool false=bb
 all_goals
  refine aP.forRounds n (fun k=>[.int k]) (fun k=>[acts (f.acts.take k),BS f.bill (oe S) (.list []) (oe (f.acts.take k)) (.list [])]) ?_ (fun k hk=>?_) ?_
  ·simp[acts]
  ·have aW:k<f.acts.length:=by omega
   have hw:=bn aW (by omega);have hd:=hA1 k aW hk;simp at hd;have gI:¬day<f.acts[k].day:=by omega
   have hle:(k:Int)+1≤4294967296:=by omega
   have ht:=nJ aW;rw[ht];have hlen:(f.acts.take k).length=k:=by simp;omega
   generalize f.acts.take k=A at*;simp[RF,Fa,aW,hw,gI,hlen];exact⟨hle,by simp[acts],rfl⟩
  generalize f.acts.take n=A at*;by_cases jR:n<f.acts.length
  case' pos=>
   have hd:=hA2 jR;simp at hd;simp[RF,Fa,jR,hd];generalize D.bool true=bc
  case' neg=>
   have pQ:n=f.acts.length:=by omega
   simp[RF,Fa,jR,pQ];generalize D.bool false=bc
  all_goals
   refine aP.forRounds f.alters.length (fun k=>[.int k]) (fun k=>[BS f.bill (oe S) (oe ((f.alters.take k).filter (qA S.length))) (oe A) (.list []),alters ((f.alters.take k).filter (qA S.length))]) ?_ (fun k hk=>?_) ?_
   ·simp[alters]
   ·have hw:=bn hk (by omega);have ht:=adH (qA S.length) f.alters hk;rw[ht];have hlen:((f.alters.take k).filter (qA S.length)).length≤k:=iy (rT _ _) (by simp;omega);generalize (f.alters.take k).filter (qA S.length)=B at*;by_cases hd:f.alters[k].at_≤(S.length:Int)
    ·simp[RG,Fb,qA,hk,hw,hd];exact⟨by omega,rfl,by simp[alters]⟩
    ·simp[RG,Fb,qA,hk,hw,hd]
   simp[RG,Fb];generalize f.alters.filter (qA S.length)=B at*;refine aP.forRounds f.facts.length (fun k=>[.int k]) (fun k=>[BS f.bill (oe S) (oe B) (oe A) (oe ((f.facts.take k).filter (qK S.length))),facts ((f.facts.take k).filter (qK S.length))]) ?_ (fun k hk=>?_) ?_
   ·simp[facts]
   ·have hw:=bn hk (by omega);have ht:=adH (qK S.length) f.facts hk;rw[ht];have hlen:((f.facts.take k).filter (qK S.length)).length≤k:=iy (rT _ _) (by simp;omega);generalize (f.facts.take k).filter (qK S.length)=C at*;cases hd:au f.facts[k].at_ S.length
    ·simp[RH,Fc,qK,hk,hw,hd];refine⟨_,qm _ _,?_⟩;simp[hd,hw]
    ·simp[RH,Fc,qK,hk,hw,hd];refine⟨_,qm _ _,?_⟩;simp[hd,hw];exact⟨by omega,rfl,by simp[facts]⟩
   simp[RH,Fc];rfl
end Rm
namespace Rm
open Go Go.Proofs Cx
end Rm
namespace Rm
open Go Go.Proofs Cx
def gV (g:Nat→Cell):D:=.list ((List.range 20).map fun i=>df (g i))
theorem V4 {g g':Nat→Cell}(h:∀i,i<20→g i=g' i):gV g=gV g':=by
 unfold gV
 congr 1
 exact tP fun i hi=>by rw[h i (by simpa using hi)]
theorem V5 (g:Nat→Cell)(k:Nat)(c:Cell):D.list ((gV g).l.set k (df c))=gV (fun i=>if i=k then c else g i):=by
 unfold gV
 congr 1
 show((List.range 20).map fun i=>df (g i)).set k (df c)=_;apply List.ext_getElem
 ·simp
 ·intro i h1 h2;simp at h2;rw[List.getElem_set];by_cases h:k=i
  ·simp[h]
  ·have h':¬i=k:=fun e=>h e.symm;simp[h,h']
@[simp] theorem axs (g:Nat→Cell):(gV g).l.length=20:=by
  show((List.range 20).map fun i=>df (g i)).length=20;simp
theorem Gl (g:Nat→Cell){k:Nat}(hk:k<20):(gV g).l[k]?.getD D.none=df (g k):=by
 show((List.range 20).map fun i=>df (g i))[k]?.getD D.none=df (g k);simp[hk]
theorem afm (g:Nat→Cell){k:Nat}(hk:k<(gV g).l.length):(gV g).l[k]=df (g k):=by
 have h:=Gl g (k:=k) (by simpa using hk);rw[bA hk] at h;exact h
theorem afo (g:Nat→Cell)(k:Nat)(c:Cell):(gV g).l.set k (df c)=(gV (fun i=>if i=k then c else g i)).l:=congrArg D.l (V5 g k c)
theorem afn (g:Nat→Cell):D.list (gV g).l=gV g:=rfl
@[simp] theorem aAW (x:Cell)(b:Bool)(n:Int):vA (df x) 0 (D.agg [D.bool b,D.int n])=df ⟨b,n⟩:=_root_.id rfl
def zE {α:Type}(l:List (Int×α))(val:α→Cell)(g0:Nat→Cell)(i:Nat):Cell:=match l.find? (fun p=>decide (p.1=(i:Int))) with|some p=>val p.2|none=>g0 i
def ri {α:Type}(enc:α→D)(p:Int×α):D:=.tup [.int p.1,enc p.2]
theorem ZB {α:Type}{J o:Nat}{ps cO:List Nat}{a:PC}{ρ:Env}{Q:Out→Prop}(l:List (Int×α))(enc:α→D)(val:α→Cell)(g0:Nat→Cell)
 (nd:∀p q,p∈l→q∈l→p.1=q.1→p=q) (R3:∀p,p∈l→0≤p.1) (he:ρ.o J=.tup [.list [],.map (l.map fun p=>(.int p.1,enc p.2))]) (h0:ρ.o o=gV g0)
 (step:∀p,p∈l→∀g done,aI T (qo [o] a) ((ρ.put ps (cO.map (ri enc p).tget) [o] [gV g]).setO J (.tup [.list (done++[ri enc p]),.map (l.map fun p=>(.int p.1,enc p.2))])) (fun y=>∃ρ',y=.next ρ'∧ρ'.o o=.list ((gV g).l.set p.1.toNat (df (val p.2)))))
 (last:Q (.next (ρ.put [] [] [o] [gV (zE l val g0)]))):aP T (.meach J ps cO [o] a) ρ Q:=by
 have ng:il (.map (l.map fun p=>((D.int p.1,enc p.2):D×D)))=l.map (ri enc):=by
  simp[il,ri]
 refine .meachR _ he (fun done vo=>∃g:Nat→Cell,vo=[gV g]∧(∀p,p∈l→ri enc p∈done→g p.1.toNat=val p.2)∧∀i:Nat,(∀p,p∈l→ri enc p∈done→p.1≠i)→g i=g0 i) ⟨g0,by simp[h0],(fun p _ h=>by cases h),fun i _=>rfl⟩ (fun done x rest vo hp ⟨g,hv,Dh,gL⟩=>?_) ⟨_,fun done hp vo ⟨g,hv,Dh,gL⟩=>?_,last⟩
 ·subst hv;rw[ng] at hp;have hx:x∈l.map (ri enc):=hp.subset (by simp);obtain⟨p,fi,rfl⟩:=dM.mp hx;refine yn _ (fun y ⟨ρ',e,ho⟩=>⟨ρ',e,fun i=>if i=p.1.toNat then val p.2 else g i,by simp[ho,V5],fun q hq Ov=>?_,fun i hi=>?_⟩) (step p fi g done)
  ·have Ow:=R3 q hq;have pS:=R3 p fi;by_cases h:q.1=p.1
   ·rw[nd q p hq fi h];simp
   ·show(if q.1.toNat=p.1.toNat then val p.2 else g q.1.toNat)=val q.2;rw[if_neg (by omega)];rcases dy.mp Ov with h1|h1
    ·exact Dh q hq h1
    ·simp[ri] at h1;exact absurd h1.1 h
  ·have pS:=R3 p fi;have cw:=hi p fi (by simp);show(if i=p.1.toNat then val p.2 else g i)=g0 i;rw[if_neg (by omega)];exact gL i fun q hq Ov=>hi q hq (by simp[Ov])
 ·rw[hv,ng] at*
  congr 1
  refine V4 fun i hi=>?_;unfold zE;cases hf:l.find? (fun p=>decide (p.1=(i:Int))) with
  |some p=>
   have fi:=yk hf;have IS:p.1=(i:Int):=by simpa using Lp hf
   have:=Dh p fi (hp.symm.subset (List.mem_map_of_mem fi));simp only;rw[←this,IS];rfl
  |none=>
   refine gL i fun p fi _=>?_;have:=vS.mp hf p fi;simpa using this
@[simp] theorem azJ (a b:Int):ew (D.int a) (D.int b)=decide (a=b):=by
  show((a==b)&&true)=decide (a=b);rw[Bool.and_true];by_cases h:a=b<;>simp[h]
def ui (n k:Int):Bool:=decide (cP .and .i64 n k≠0)
def Ar (s:Sign)(due:Int):Int:=if due=-1 then 0 else s.day-due
def VI (f:File)(sign:Int):Bool:=(List.range f.alters.length).any fun k=>decide ((f.alters.getD k default).at_≤sign)
def pR (c:Case):Int:=if c.holder<0 then 0 else c.holder
def vn (c:Case)(s:Sign):List (Int×Int):=[(0,c.file.bill.sum),(1,c.file.bill.parts),(2,c.file.bill.tenor.kind),(3,c.file.bill.rate),(4,s.kind),(5,c.defence),(6,Ar s c.due)]
def vp (r:Realm)(c:Case)(s:Sign):List (Int×Bool):=[(7,ui c.file.bill.flags 1),(8,decide (c.file.bill.payee=-1)),(9,ui c.file.bill.flags 4),(10,ui c.file.bill.flags 2),(11,decide (mu r c.file.bill.city≠mu r c.file.bill.pay)),(12,VI c.file c.sign),(13,ui s.flags 1),(14,decide (0<Ar s c.due))]
def Nb (r:Realm)(c:Case)(s:Sign):List Cell:=
 (vn c s).map (fun p=>⟨true,p.2⟩)++(vp r c s).map (fun p=>gQ p.2)++
    [ln c.file 0 c.sign,ln c.file 1 c.sign,ln c.file 2 c.sign,ln c.file 3 (pR c),ln c.file 4 (pR c)]
@[simp] theorem aw2 (x:Case):ke 19 (fC x)=aX x.file:=_root_.id rfl
@[simp] theorem aw0 (x:Case):ke 15 (fC x)=fa x.file.bill:=_root_.id rfl
@[simp] theorem aw1 (x:File):ke 15 (aX x)=fa x.bill:=_root_.id rfl
def tX (c:Case):Bool:=au c.sign c.file.signs.length&&decide (-1≤c.holder)&&decide (pR c<c.file.signs.length)&&(decide (c.due=-1)||au c.due 100001)
def kE (r:Realm)(c:Case):List Cell:=if tX c=true∧au (c.file.signs.getD c.sign.toNat default).day 100001=true then Nb r c (c.file.signs.getD c.sign.toNat default) else[]
theorem aqz (r:Realm)(c:Case)(h2:c.file.facts.length≤100000)(h3:c.file.alters.length≤100000):aq T 127 [aZ r,fC c] (cells (kE r c)):=by
 refine .of_tree rfl (lA 56 (by kernel_rfl)) atg ?_;cases hs:au c.sign c.file.signs.length
 ·have hv:kE r c=[]:=by unfold kE tX;rw[hs];simp
  rw[hv];simp[vG];refine⟨_,qm _ _,?_⟩;simp[hs];rfl
 by_cases hh:c.holder< -1
 ·have hv:kE r c=[]:=by unfold kE tX;rw[hs];simp;intros;omega
  rw[hv];simp[vG,hh];exact⟨⟨_,qm _ _⟩,rfl⟩
 by_cases hm:(c.file.signs.length:Int)≤pR c
 ·have hv:kE r c=[]:=by unfold kE tX;rw[hs];simp;intros;omega
  rw[hv];unfold pR at hm;simp[vG,hm];exact⟨⟨_,qm _ _⟩,rfl⟩
 by_cases hd:c.due≠-1∧au c.due 100001=false
 ·have hv:kE r c=[]:=by unfold kE tX;rw[hs];simp[hd]
  rw[hv];unfold pR at hm;obtain⟨bo,dI⟩:=hd;simp[vG,hh,hm,bo];refine⟨_,qm _ _,?_⟩;simp[hs,hh,hm,bo];refine⟨_,qm _ _,?_⟩;simp[hs,hh,hm,bo,dI];rfl
 have hcb:tX c=true:=by
  unfold tX;rw[hs];simp;refine⟨⟨by omega,by omega⟩,?_⟩;by_cases h:c.due=-1
  ·exact .inl h
  ·right;cases hb:au c.due 100001
   ·exact absurd ⟨h,hb⟩ hd
   ·rfl
 have hlen:c.sign.toNat<c.file.signs.length:=by simp[au] at hs;omega
 have fj:0≤c.sign∧c.sign<(c.file.signs.length:Int):=by simpa [au] using hs
 obtain⟨s,DO⟩:∃s:Sign,s=c.file.signs[c.sign.toNat]:=⟨_,rfl⟩
 have uJ:c.file.signs.getD c.sign.toNat default=s:=by rw[DO];simp[hlen]
 have hv:kE r c=if au s.day 100001=true then Nb r c s else[]:=by
  unfold kE;rw[uJ,hcb];simp
 rw[hv];unfold pR at hm;by_cases Da:c.due=-1
 case' pos=>
  have Xw:(c.due=-1)=True:=eq_true Da;simp[vG,hh,hm,Xw];refine⟨_,qm _ _,?_⟩;simp[hs,hh,hm,Xw,hlen,←DO,fj]
 case' neg=>
  have wI:au c.due 100001=true:=by
   cases hb:au c.due 100001
   ·exact absurd ⟨Da,hb⟩ hd
   ·rfl
  simp[vG,hh,hm,Da];refine⟨_,qm _ _,?_⟩;simp[hs,hh,hm,Da];refine⟨_,qm _ _,?_⟩;simp[hs,hh,hm,Da,wI,hlen,←DO,fj]
 all_goals
  refine⟨_,qm _ _,?_⟩;cases uw:au s.day 100001
  ·simp[uw];rfl
  simp[uw,dc];refine ZB (vn c s) D.int (fun n=>⟨true,n⟩) (fun _=>eA) ?_ ?_ ?_ ?_ (fun p hp g done=>?_) ?_
  ·intro p q hp hq h;simp[vn] at hp hq;rcases hp with rfl|rfl|rfl|rfl|rfl|rfl|rfl<;>rcases hq with rfl|rfl|rfl|rfl|rfl|rfl|rfl<;>first|rfl|(simp at h)
  ·intro p hp;simp[vn] at hp;rcases hp with rfl|rfl|rfl|rfl|rfl|rfl|rfl<;>simp
  ·have NK:(if c.due=-1 then(0:Int) else IntKind.i64.wrap (s.day-c.due))=Ar s c.due:=by
        unfold Ar;by_cases h:c.due=-1
        ·simp[h]
        ·have wI:au c.due 100001=true:=by
          cases hb:au c.due 100001
          ·exact absurd ⟨h,hb⟩ hd
          ·rfl
         simp[au] at wI uw;rw[if_neg h,if_neg h];exact bL (by omega)
   simp[vn,dc,hlen,←DO];rw[←NK];by_cases h:c.due=-1<;>simp[h]
  ·simp[gV];rfl
  ·have hr:0≤p.1∧p.1<20:=by
        simp[vn] at hp;rcases hp with rfl|rfl|rfl|rfl|rfl|rfl|rfl<;>simp
   have hk:p.1.toNat<20:=by omega
   simp[aqo,RJ,ri,Gl g hk];exact hr
  have akr:∀k (hk:k<c.file.alters.length),aq T 141 (pB c.file.alters[k]::[.ref (fC c)]) (.bool (decide ((c.file.alters.getD k default).at_≤c.sign))):=fun k hk=>by
   refine .of_tree rfl (lA 57 (by kernel_rfl)) atf ?_;simp[T6,hk]
  simp;refine⟨_,ad5 c.file.alters _ _ _ akr (by omega),_,rC r _,_,rC r _,?_⟩;have NK:(if c.due=-1 then(0:Int) else IntKind.i64.wrap (s.day-c.due))=Ar s c.due:=by
   unfold Ar;by_cases h:c.due=-1
   ·simp[h]
   ·have wI:au c.due 100001=true:=by
     cases hb:au c.due 100001
     ·exact absurd ⟨h,hb⟩ hd
     ·rfl
    simp[au] at wI uw;rw[if_neg h,if_neg h];exact bL (by omega)
  have NJ:cells (Nb r c s)=gV (fun i=>if i=15 then ln c.file 0 c.sign else if i=16 then ln c.file 1 c.sign else if i=17 then ln c.file 2 c.sign else if i=18 then ln c.file 3 (pR c) else if i=19 then ln c.file 4 (pR c) else zE (vp r c s) gQ (zE (vn c s) (fun n=>⟨true,n⟩) (fun _=>eA)) i):=by
   rfl
  generalize zE (vn c s) (fun n=>(⟨true,n⟩:Cell)) (fun _=>eA)=g1 at*;refine ZB (vp r c s) D.bool gQ g1 ?_ ?_ ?_ ?_ (fun p hp g done=>?_) ?_
  ·intro p q hp hq h;simp[vp] at hp hq;rcases hp with rfl|rfl|rfl|rfl|rfl|rfl|rfl|rfl<;>rcases hq with rfl|rfl|rfl|rfl|rfl|rfl|rfl|rfl<;>first|rfl|(simp at h)
  ·intro p hp;simp[vp] at hp;rcases hp with rfl|rfl|rfl|rfl|rfl|rfl|rfl|rfl<;>simp
  ·simp[vp,dc,hlen,←DO,ui];rw[←NK];by_cases h:c.due=-1<;>simp[h,VI]
  ·simp
  ·have hr:0≤p.1∧p.1<20:=by
        simp[vp] at hp;rcases hp with rfl|rfl|rfl|rfl|rfl|rfl|rfl|rfl<;>simp
   have hk:p.1.toNat<20:=by omega
   simp[aqp,RK,ri,Gl g hk];refine⟨_,acZ _,?_⟩;simp[Gl g hk];exact hr
  simp;generalize zE (vp r c s) gQ g1=g2 at*;have hho:(if c.holder<0 then D.int 0 else D.int c.holder)=D.int (pR c):=by
   unfold pR;split<;>rfl
  rw[hho];refine⟨_,Ft _ _ _ (by omega),_,Ft _ _ _ (by omega),_,Ft _ _ _ (by omega),_,Ft _ _ _ (by omega),_,Ft _ _ _ (by omega),?_⟩;rw[NJ];simp only[afm,aq9,afo,afn];refine V4 fun i hi=>?_;by_cases H3:i=15
  ·subst H3;simp
  by_cases H4:i=16
  ·subst H4;simp
  by_cases H5:i=17
  ·subst H5;simp
  by_cases H6:i=18
  ·subst H6;simp
  by_cases W7:i=19
  ·subst W7;simp
  simp[H3,H4,H5,H6,W7]
end Rm
namespace Rm
open Go Go.Proofs Cx
def JF (n:Nat)(x:Int):Bool:=decide (x<0)||decide ((n:Int)≤x)
def l0 (r:Realm)(a q:Int)(l:List Int):Bool:=
 !(decide (a<0)||decide ((r.orders.length:Int)≤a)||decide (q<0)||decide (22≤q)||decide (l.length≠5))&& !((List.range l.length).any fun k=>JF r.orders.length (l.getD k 0))
theorem ahi (x n:Int):aq T 145 [.int x,.ref (.int n)] (.bool (decide (x<0)||decide (n≤x))):=by
 refine .of_tree rfl (lA 66 (by kernel_rfl)) arR ?_;by_cases h:x<0<;>simp[SF,h]
theorem WL (r:Realm)(a q:Int)(l:List Int)(hl:l.length≤100000):aq T 129 [aZ r,.int a,.int q,ints l] (.bool (l0 r a q l)):=by
 refine .of_tree rfl (lA 65 (by kernel_rfl)) arS ?_;by_cases h1:a<0
 ·simp[vF,l0,h1]
 by_cases h2:(r.orders.length:Int)≤a
 ·simp[vF,l0,h1,h2]
 by_cases h3:q<0
 ·simp[vF,l0,h1,h2,h3]
 by_cases h4:22≤q
 ·simp[vF,l0,h1,h2,h3,h4]
 by_cases h5:(l.length:Int)=5
 ·have zN:l.length=5:=by omega
  simp[vF,h1,h2,h3,h4,zN];refine⟨_,ad7 l 145 [.ref (.int r.orders.length)] (fun k=>JF r.orders.length (l.getD k 0)) (fun k hk=>by simpa [JF,hk] using ahi l[k] r.orders.length) (by omega),?_⟩;simp only[l0,zN];simp[h1,h2,h3,h4]
 ·have zN:¬l.length=5:=by omega
  simp[vF,l0,h1,h2,h3,h4,zN];intro h;omega
theorem M6 {r:Realm}{a q:Int}{l:List Int}(h:l0 r a q l=true):(0≤a∧a<r.orders.length)∧l.length=5∧(∀x,x∈l→0≤x∧x<r.orders.length)∧∀b:Int,0≤b→b<r.orders.length→l0 r b q l=true:=by
 unfold l0 at h ⊢;rw[ao] at h;obtain⟨h1,h2⟩:=h;simp at h1;refine⟨by omega,h1.2,fun x hx=>?_,fun b gZ dk=>?_⟩
 ·obtain⟨k,hk,rfl⟩:=j7 hx;simp[JF] at h2;have:=h2 k hk;simp[hk] at this;omega
 ·rw[h2];simp;omega
def BG (r:Realm):Prop:=∀o,o∈r.orders→o.choices.length≤100000∧∀ch,ch∈o.choices→0≤ch.by_∧ch.by_<5
def xk (q:Int)(ch:Choice):Bool:=decide (ch.ask=q)&&decide (ch.by_≠0)
def oz (r:Realm)(a:Int):Order:=r.orders.getD a.toNat default
def gd (r:Realm)(a q:Int)(l:List Int):Int×Bool:=
 (match(oz r a).choices.find? (xk q) with|some ch=>l.getD ch.by_.toNat 0|none=>a,match(oz r a).choices.find? (xk q) with|some ch=>ch.whole|none=>false)
theorem Vi (r:Realm)(jN:BG r)(a q:Int)(l:List Int)(hl:l.length≤100000)(hf:l0 r a q l=true):
 aq T 130 [aZ r,.int a,.int q,ints l] (.tup [.int (gd r a q l).1,.bool (gd r a q l).2])∧0≤(gd r a q l).1∧(gd r a q l).1<r.orders.length:=by
 obtain⟨ha,XT,hx,_⟩:=M6 hf;have sH:a.toNat<r.orders.length:=by omega
 obtain⟨be,jj⟩:=jN _ (de sH);obtain⟨o,ho⟩:∃o,o=r.orders[a.toNat]:=⟨_,rfl⟩
 rw[←ho] at be jj;have Od:oz r a=o:=by rw[ho];simp[oz,sH]
 unfold gd;rw[Od];refine⟨?_,?_⟩
 ·refine .of_tree rfl (lA 69 (by kernel_rfl)) arQ ?_;simp[SD];refine⟨_,WL r a q l hl,?_⟩;simp[hf,sH,←ho,ha];refine aP.scan o.choices.length (fun k=>xk q (o.choices.getD k default)=false) (fun k=>[.int 0,.bool false,.int k]) (fun _=>[]) ?_ (fun k hk hj aB=>?_) (fun k hk hj aB=>?_) (fun hj=>?_)
  ·simp
  ·have hw:=bn hk (by omega);have hn:¬(o.choices[k].ask=q∧¬o.choices[k].by_=0):=by simpa [xk,hk] using aB
   simp[Q5,EA,sH,←ho,hk,hw,hn]
  ·have fe:=CI hk (by simpa [hk] using aB) (fun j ct=>by have:=hj j ct;simpa [show j<o.choices.length by omega] using this);rw[fe];have hc:o.choices[k].ask=q∧¬o.choices[k].by_=0:=by simpa [xk,hk] using aB
   have hb:=jj _ (de hk);have Ii:o.choices[k].by_.toNat<l.length:=by omega
   simp[Q5,EA,sH,←ho,hk,hc,ints,Ii];omega
  ·have fe:=HR (l:=o.choices) (p:=xk q) (fun j ct=>by have:=hj j ct;simpa [ct] using this);rw[fe];simp[Q5,EA,sH,←ho]
 ·cases fe:o.choices.find? (xk q) with
  |none=>exact ha
  |some ch=>
   have hb:=jj _ (yk fe);have Ii:ch.by_.toNat<l.length:=by omega
   simp[Ii];exact hx _ (de Ii)
theorem Qs:∀(N:Nat) (l:List Int),l.Nodup→(∀x,x∈l→0≤x∧x<(N:Int))→l.length≤N
 |0,l,hn,h=>by
  cases l with
  |nil=>simp
  |cons a l=>have:=h a (by simp);omega
 |N+1,l,hn,h=>by
  by_cases hm:(N:Int)∈l
  ·have h1:=Qs N (l.erase (N:Int)) (hn.erase _) (fun x hx=>by
    have dm:=(hn.mem_erase_iff).mp hx;have:=h x dm.2;have ay:=dm.1;omega)
   rw[List.length_erase_of_mem hm] at h1;omega
  ·have h1:=Qs N l hn (fun x hx=>by
    have:=h x hx;have ay:x≠(N:Int):=fun e=>hm (e▸hx);omega)
   omega
def dv (l:List Int):Int:=l.getD (l.length-1) 0
def kV (r:Realm)(q:Int)(l:List Int):Nat→List Int→List Int×Int
 |0,p=>(p,0)
 |n+1,p=>
  if(gd r (dv p) q l).1=dv p then(p,0)
  else if(gd r (dv p) q l).2=false∨(hasB p (gd r (dv p) q l).1=true∧(oz r (gd r (dv p) q l).1).accepts=true) then(p++[(gd r (dv p) q l).1],0)
  else if hasB p (gd r (dv p) q l).1=true then(p++[(gd r (dv p) q l).1],12)
  else kV r q l n (p++[(gd r (dv p) q l).1])
theorem Pd (r:Realm)(q:Int)(l:List Int)(n:Nat)(p:List Int):kV r q l (n+1) p=
 if(gd r (dv p) q l).1=dv p then(p,0)
 else if(gd r (dv p) q l).2=false∨(hasB p (gd r (dv p) q l).1=true∧(oz r (gd r (dv p) q l).1).accepts=true) then(p++[(gd r (dv p) q l).1],0)
 else if hasB p (gd r (dv p) q l).1=true then(p++[(gd r (dv p) q l).1],12)
 else kV r q l n (p++[(gd r (dv p) q l).1]):=rfl
def jt (r:Realm)(a q:Int)(l:List Int):List Int×Int:=if l0 r a q l=true∧l.getD 0 0=a then kV r q l r.orders.length [a] else([],1)
theorem aei (r:Realm)(jN:BG r)(hn:r.orders.length≤100000)(a q:Int)(l:List Int)(hl:l.length≤100000):aq T 103 [aZ r,.int a,.int q,ints l] (.tup [ints (jt r a q l).1,.int (jt r a q l).2]):=by
 refine .of_tree rfl (lA 64 (by kernel_rfl)) arP ?_;simp[SC];refine⟨_,WL r a q l hl,?_⟩;cases hf:l0 r a q l
 ·simp[jt,hf];rfl
 obtain⟨ha,XT,hx,zQ⟩:=M6 hf;have h0:0<l.length:=by omega
 by_cases wQ:l[0]=a
 ·have hE:jt r a q l=kV r q l r.orders.length [a]:=by unfold jt;rw[if_pos ⟨hf,by simp[h0,wQ]⟩]
  rw[hE];simp[h0,wQ,ints];refine aP.forLoop (α:=Nat×List Int) (fun s vr vo=>vr=[.list [],.int 0,.none]∧vo=[ints s.2]∧s.2.Nodup∧(∀x,x∈s.2→0≤x∧x<(r.orders.length:Int))∧s.2≠[]∧s.1+s.2.length=r.orders.length+1∧kV r q l s.1 s.2=kV r q l r.orders.length [a]) (fun s=>s.1) (r.orders.length,[a]) ?_ ?_
  ·simp[ints];exact ha
  ·rintro⟨n,p⟩ vr vo ⟨rfl,rfl,bp,aY,ay,hlen,Dp⟩;simp only at*;have fi:p.length≤r.orders.length:=Qs _ p bp aY;have akX:0<p.length:=F2.mpr ay;obtain⟨m,rfl⟩:∃m,n=m+1:=⟨n-1,by omega⟩
   have ah:p.length-1<p.length:=by omega
   have kQ:dv p=p[p.length-1]:=by simp[dv,ah]
   have wR:=aY _ (de ah);rw[←kQ] at wR;obtain⟨Nm,fZ,ga⟩:=Vi r jN (dv p) q l hl (zQ _ wR.1 wR.2);have NX:((p.length:Int)-1).toNat=p.length-1:=by omega
   have OY:IntKind.i64.wrap ((p.length:Int)-1)=(p.length:Int)-1:=bL (by omega);rw[←Dp,Pd];obtain⟨L,hL⟩:∃L,L=gd r (dv p) q l:=⟨_,rfl⟩
   rw[←hL] at Nm fZ ga ⊢;obtain⟨to,whole⟩:=L;simp only at Nm fZ ga;have Aj:to.toNat<r.orders.length:=by omega
   have Od:oz r to=r.orders[to.toNat]:=by simp[oz,Aj]
   simp only[Od];simp[aqm,Q4,OY,NX,ah,←kQ,ints];refine⟨by omega,_,Nm,?_⟩;by_cases h1:to=dv p
   ·simp[h1]
   simp[h1];refine⟨_,BH p to (by omega),by omega,?_⟩;cases whole
   ·simp
   cases h2:hasB p to
   ·have cR:to∉p:=fun hm=>by
     have:hasB p to=true:=by simp[hasB,hm]
     rw[h2] at this;cases this
    simp[h2];refine⟨m,by omega,p++[to],by simp,?_,?_,by simp,by simp;omega,rfl⟩
    ·exact BN.mpr ⟨bp,by simp,fun x hx y hy=>by simp at hy;subst hy;exact fun e=>cR (e▸hx)⟩
    ·intro x hx;rcases dy.mp hx with h|h
     ·exact aY x h
     ·simp at h;subst h;exact⟨fZ,ga⟩
   ·cases h3:r.orders[to.toNat].accepts<;>simp[h2,h3,Aj]<;>omega
 ·have hE:jt r a q l=([],1):=by unfold jt;rw[if_neg (by simp[h0,wQ])]
  rw[hE];simp[h0,wQ];rfl
end Rm
namespace Rm
open Go Go.Proofs Cx
def bD (f:File)(i:Int):Sign:=f.signs.getD i.toNat default
def mw (r:Realm)(aD:Int)(c:Case):List Int:=[aD,mu r (bD c.file c.sign).city,mu r c.file.bill.pay,mu r c.file.bill.city,mu r (r.firms.getD (bD c.file c.sign).who.toNat default).city]
def qC (r:Realm)(aD:Int)(c:Case):Prop:=(bD c.file c.sign).who<0∨(r.firms.length:Int)≤(bD c.file c.sign).who∨aD<0∨(r.orders.length:Int)≤aD
instance (r:Realm) (aD:Int) (c:Case):Decidable (qC r aD c):=by unfold qC;infer_instance
def ky (r:Realm)(aD:Int)(c:Case):List Int:=if qC r aD c then[] else if hasB (mw r aD c) (-1)=true then[] else mw r aD c
@[simp] theorem axl (r:Realm)(x:Int):yw (aZ r) x=mu r x:=by
  unfold yw mu au;by_cases h:0≤x∧x<(r.cities.length:Int)
  ·have hx:x.toNat<r.cities.length:=by omega
   rw[if_pos (by simpa using h),if_pos (by simpa using h)];simp[hx]
  ·rw[if_neg (by simpa using h),if_neg (by simpa using h)]
theorem abI (r:Realm)(aD:Int)(c:Case)(h1:c.sign.toNat<c.file.signs.length):Qt [aZ r,.int aD,fC c]=ints (ky r aD c):=by
 have hs:bD c.file c.sign=c.file.signs[c.sign.toNat]:=by simp[bD,h1]
 unfold Qt ky;simp[h1];by_cases hb:qC r aD c
 ·rw[if_pos (by simpa [qC,hs] using hb),if_pos hb];rfl
 ·rw[if_neg (by simpa [qC,hs] using hb),if_neg hb];have sU:(bD c.file c.sign).who.toNat<r.firms.length:=by unfold qC at hb;omega
  have Yw:c.file.signs[c.sign.toNat].who.toNat<r.firms.length:=by rw[←hs];exact sU
  have kl:mw r aD c=[aD,mu r c.file.signs[c.sign.toNat].city,mu r c.file.bill.pay,mu r c.file.bill.city,mu r r.firms[c.file.signs[c.sign.toNat].who.toNat].city]:=by
   simp[mw,hs,Yw]
  have cQ:∀l:List Int,hasB l (-1)=true↔-1∈l:=fun l=>by simp[hasB]
  rw[kl];simp[Yw];split
  ·rename_i h;rw[if_pos ((cQ _).mpr (by simpa using h))];rfl
  ·rename_i h;rw[if_neg (fun h'=>h (by simpa using(cQ _).mp h'))]
theorem apm (r:Realm)(aD:Int)(c:Case)(h1:0≤c.sign∧c.sign<c.file.signs.length):aq T 102 [aZ r,.int aD,fC c] (ints (ky r aD c)):=by
 have cE:c.sign.toNat<c.file.signs.length:=by omega
 rw[←abI r aD c cE];have hs:bD c.file c.sign=c.file.signs[c.sign.toNat]:=by simp[bD,cE]
 refine aq.of_nsl rfl arJ arK ?_;rw[abI r aD c cE];by_cases hb:qC r aD c
 ·refine .inr ⟨by simp[ky,hb];rfl,?_⟩;have gr:=hb;simp[qC,hs] at gr;simp[K6,h1,cE]
  intros;omega
 have qO:ky r aD c=if hasB (mw r aD c) (-1)=true then[] else mw r aD c:=by unfold ky;rw[if_neg hb]
 have gr:=hb;simp[qC,hs] at gr;have hw:c.file.signs[c.sign.toNat].who.toNat<r.firms.length:=by omega
 have hC:=BH (mw r aD c) (-1) (by simp[mw]);cases hh:hasB (mw r aD c) (-1)<;>rw[hh] at hC<;>simp[mw,ints,hs,hw] at hC
 ·refine .inl ⟨(mw r aD c).map .int,by simp[mw],by rw[qO,hh];rfl,?_⟩;simp[Sw,h1,cE,hw];rw[if_neg (by omega)];refine⟨_,rC r _,_,rC r _,_,rC r _,by omega,_,rC r _,_,by simpa using hC,?_⟩;simp[mw,hs,hw]
 ·refine .inr ⟨by rw[qO,hh];rfl,?_⟩;simp[K6,h1,cE,hw]
  intros
  refine⟨_,rC r _,_,rC r _,_,rC r _,by omega,_,rC r _,_,by simpa using hC,?_⟩;simp
end Rm
namespace Rm
open Go Go.Proofs Cx
structure Right (r:Realm):Prop where
 by_:BG r
 len:r.orders.length≤100000
 ok:∀o,o∈r.orders→o.OK∧o.rules.length≤100000
structure FewS (f:File):Prop where
 signs:f.signs.length≤1000
 alters:f.alters.length≤1000
 acts:f.acts.length≤1000
 facts:f.facts.length≤1000
theorem adT {α:Type}(p:α→Bool)(l:List α):(l.takeWhile p).length≤l.length:=by
 obtain⟨m,h1,h2,_⟩:=ya p l;rw[h2,dE];omega
theorem FewS.at_ {f:File}(h:FewS f)(day:Int):FewS (bz f day):=
 ⟨iy (adT _ _) h.1,iy (rT _ _) h.2,iy (adT _ _) h.3,iy (rT _ _) h.4⟩
def iV (c:Case):Case:={c with file:=bz c.file c.day}
@[simp] theorem axc (x:File)(a0 a1 a2 a3 a4 a5 a6 a7 a8 a9 rX rY rZ sc sd vY vZ v3 v5:D)(s h d u y:Int):ke 24 (D.agg (bO [a0,a1,a2,a3,a4,a5,a6,a7,a8,a9,rX,rY,rZ,sc,sd,vY,vZ,v3,v5,.int s,.int h,.int d,.int u,.int y] 0 [.int x.bill.drawer,.int x.bill.drawee,.int x.bill.payee,.int x.bill.sum,.int x.bill.currency,.int x.bill.tenor.kind,.int x.bill.tenor.n,.int x.bill.tenor.unit,.int x.bill.day,.int x.bill.city,.int x.bill.pay,.int x.bill.need,.int x.bill.rate,.int x.bill.flags,.int x.bill.parts,signs x.signs,alters x.alters,acts x.acts,facts x.facts]))=fC ⟨x,s,h,d,u,y⟩:=_root_.id rfl
theorem aeP (r:Realm)(c:Case)(hf:FewS c.file):aq T 100 [aZ r,fC c] (.tup [fC (iV c),cells (kE r (iV c))]):=by
 refine .of_tree rfl (lA 53 (by kernel_rfl)) arH ?_;simp[Sv];have h1:=hf.1;have h2:=hf.2;have h3:=hf.3;have h4:=hf.4;refine⟨_,RX c.file c.day (by omega) (by omega) (by omega) (by omega),?_⟩;have uz:=hf.at_ c.day;have h5:=uz.4;have h6:=uz.2;simp;exact⟨aqz r (iV c) (by show(bz c.file c.day).facts.length≤_;omega) (by show(bz c.file c.day).alters.length≤_;omega),(congrArg (ke 24) (ao4 (iV c) _ _ _ _ _ _ _ _ _ _ _ _ _ _ _ _ _ _ _ _ _ _ _ _)).trans (aeE (iV c))⟩
theorem aug {r:Realm}{c:Case}(h:kE r c≠[]):0≤c.sign∧c.sign<c.file.signs.length:=by
 unfold kE at h;split at h
 ·rename_i hh;have h1:=hh.1;unfold tX at h1;simp[au] at h1;omega
 ·exact absurd rfl h
theorem YS (r:Realm)(jN:BG r)(q:Int)(l:List Int)(hl:l.length≤100000)(zQ:∀b:Int,0≤b→b<r.orders.length→l0 r b q l=true):∀(n:Nat) (p:List Int),p≠[]→(∀x,x∈p→0≤x∧x<(r.orders.length:Int))→
 (kV r q l n p).1≠[]∧∀x,x∈(kV r q l n p).1→0≤x∧x<(r.orders.length:Int)
 |0,p,ay,hp=>⟨ay,hp⟩
 |n+1,p,ay,hp=>by
  have ah:p.length-1<p.length:=by have:=F2.mpr ay;omega
  have kQ:dv p=p[p.length-1]:=by simp[dv,ah]
  have wR:=hp _ (de ah);rw[←kQ] at wR;obtain⟨_,ht⟩:=Vi r jN (dv p) q l hl (zQ _ wR.1 wR.2)
  have aT:∀x,x∈p++[(gd r (dv p) q l).1]→0≤x∧x<(r.orders.length:Int):=fun x hx=>by
   rcases dy.mp hx with h|h
   ·exact hp x h
   ·simp at h;subst h;exact ht
  rw[Pd];split
  ·exact⟨ay,hp⟩
  split
  ·exact⟨by simp,aT⟩
  split
  ·exact⟨by simp,aT⟩
  ·exact YS r jN q l hl zQ n _ (by simp) aT
theorem YR {r:Realm}(hr:Right r){a q:Int}{l:List Int}(hl:l.length≤100000)(h:(jt r a q l).2=0):(jt r a q l).1≠[]∧0≤dv (jt r a q l).1∧dv (jt r a q l).1<r.orders.length:=by
 unfold jt at h ⊢;split at h
 ·rename_i hh;rw[if_pos hh];obtain⟨ha,XT,hx,zQ⟩:=M6 hh.1;obtain⟨h1,h2⟩:=YS r hr.by_ q l hl zQ r.orders.length [a] (by simp) (fun x hx=>by simp at hx;subst hx;exact ha);refine⟨h1,?_⟩;have ah:(kV r q l r.orders.length [a]).1.length-1<(kV r q l r.orders.length [a]).1.length:=by have:=F2.mpr h1;omega
  have kQ:dv (kV r q l r.orders.length [a]).1=(kV r q l r.orders.length [a]).1[(kV r q l r.orders.length [a]).1.length-1]:=by simp[dv,ah]
  rw[kQ];exact h2 _ (de ah)
 ·cases h
theorem YT (r:Realm)(q:Int)(l:List Int):∀(n:Nat) (p:List Int),(kV r q l n p).1.length≤p.length+n
 |0,p=>by simp[kV]
 |n+1,p=>by
  rw[Pd];split
  ·simp
  split
  ·simp
  split
  ·simp
  ·have:=YT r q l n (p++[(gd r (dv p) q l).1]);simp at this;omega
theorem al7 (r:Realm)(a q:Int)(l:List Int):(jt r a q l).1.length≤1+r.orders.length:=by
 unfold jt;split
 ·exact YT r q l _ [a]
 ·simp
@[simp] theorem aAT (a b c d e x:D):bO [a,b,c,d,e] 2 [x]=[a,b,x,d,e]:=_root_.id rfl
@[simp] theorem aAU (a b c d e x:D):bO [a,b,c,d,e] 3 [x]=[a,b,c,x,e]:=_root_.id rfl
@[simp] theorem aAV (a b c d e x:D):bO [a,b,c,d,e] 4 [x]=[a,b,c,d,x]:=_root_.id rfl
def Px:Said:=⟨eA,-1,[],1⟩
def jb (r:Realm)(aD q:Int)(c:Case):Said×List Cell:=
 if kE r (iV c)=[] then(Px,[]) else if(lQ q).2=false then(Px,[]) else if ky r aD (iV c)=[] then(Px,[]) else
    (⟨eA,if(jt r aD q (ky r aD (iV c))).2=0 then dv (jt r aD q (ky r aD (iV c))).1 else-1,(jt r aD q (ky r aD (iV c))).1,(jt r aD q (ky r aD (iV c))).2⟩,kE r (iV c))
theorem abJ (r:Realm)(aD:Int)(c:Case):(ky r aD c).length≤5:=by
 unfold ky;split
 ·simp
 split<;>simp[mw]
theorem aeO (r:Realm)(hr:Right r)(aD q:Int)(c:Case)(hf:FewS c.file):aq T 83 [aZ r,.int aD,.int q,fC c] (.tup [sB (jb r aD q c).1,cells (jb r aD q c).2]):=by
 refine .of_tree rfl (lA 52 (by kernel_rfl)) arG ?_;simp[Su];refine⟨_,aeP r c hf,?_⟩;by_cases hv:kE r (iV c)=[]
 ·simp[hv,jb];exact⟨rfl,rfl⟩
 simp[hv,jb];refine⟨_,Qm q,?_⟩;cases hq:(lQ q).2
 ·simp[hq];exact⟨rfl,rfl⟩
 simp[hq];refine⟨_,apm r aD (iV c) (aug hv),?_⟩;by_cases hp:ky r aD (iV c)=[]
 ·simp[hp];exact⟨rfl,rfl⟩
 have fi:=abJ r aD (iV c);have ay:ints (ky r aD (iV c))≠.list []:=fun e=>hp (by simpa [ints] using e);simp[hp];generalize ky r aD (iV c)=l at*;refine⟨_,aei r hr.by_ hr.len aD q l (by omega),?_⟩;have hlen:=al7 r aD q l;have Dp:=YR hr (a:=aD) (q:=q) (l:=l) (by omega);have Oh:=hr.len;generalize jt r aD q l=L at*;obtain⟨path,err⟩:=L;simp only at*;by_cases he:err=0
 ·obtain⟨h1,h2⟩:=Dp he;have akX:=F2.mpr h1;have OY:IntKind.i64.wrap ((path.length:Int)-1)=(path.length:Int)-1:=bL (by omega);have NX:((path.length:Int)-1).toNat=path.length-1:=by omega
  have ah:path.length-1<path.length:=by omega
  have kQ:dv path=path[path.length-1]:=by simp[dv,ah]
  simp[he,OY,NX,ah,←kQ];exact⟨by omega,rfl⟩
 ·simp[he];rfl
def ph (r:Realm)(aD q:Int)(c:Case):Said:=
 if(jb r aD q c).1.order=-1 then(jb r aD q c).1
 else⟨(qB (oz r (jb r aD q c).1.order) q (jb r aD q c).2).1,(jb r aD q c).1.order,(jb r aD q c).1.path,(qB (oz r (jb r aD q c).1.order) q (jb r aD q c).2).2⟩
theorem aeK {r:Realm}(hr:Right r)(aD q:Int)(c:Case):(jb r aD q c).1.order=-1∨(0≤(jb r aD q c).1.order∧(jb r aD q c).1.order<r.orders.length):=by
 unfold jb;split
 ·exact .inl rfl
 split
 ·exact .inl rfl
 split
 ·exact .inl rfl
 ·have fi:=abJ r aD (iV c);have Dp:=YR hr (a:=aD) (q:=q) (l:=ky r aD (iV c)) (by omega);show(if _ then _ else _)=_∨_;split
  ·rename_i h;exact .inr (Dp h).2
  ·exact .inl rfl
theorem aeL (r:Realm)(hr:Right r)(aD q:Int)(c:Case)(hf:FewS c.file):aq T 65 [aZ r,.int aD,.int q,fC c] (sB (ph r aD q c)):=by
 refine .of_tree rfl (lA 51 (by kernel_rfl)) arD ?_;simp[Sq];refine⟨_,aeO r hr aD q c hf,?_⟩;have ho:=aeK hr aD q c;unfold ph;generalize jb r aD q c=S at*;obtain⟨s,cs⟩:=S;simp only at*;by_cases h:s.order=-1
 ·obtain⟨⟨kn,n⟩,o,pth,e⟩:=s;simp only at h;subst h;simp;rfl
 ·have h1:0≤s.order∧s.order<r.orders.length:=by omega
  have h2:s.order.toNat<r.orders.length:=by omega
  have h3:oz r s.order=r.orders[s.order.toNat]:=by simp[oz,h2]
  obtain⟨aB,hlen⟩:=hr.ok _ (de h2);simp[h,h1,h2,h3];refine⟨_,aoY _ q cs aB (by omega),?_⟩;simp;rfl
def Gg (r:Realm)(aD q:Int)(f:File)(day:Int):Said:=ph r aD q ⟨{f with facts:=[]},0,-1,-1,-1,day⟩
theorem aeM (r:Realm)(hr:Right r)(aD q:Int)(f:File)(day:Int)(hf:FewS f):aq T 35 [aZ r,.int aD,.int q,aX f,.int day] (sB (Gg r aD q f day)):=by
 refine .of_tree rfl (lA 50 (by kernel_rfl)) arE ?_;simp[Sr];refine⟨sB (Gg r aD q f day),aeL r hr aD q ⟨{f with facts:=[]},0,-1,-1,-1,day⟩ ⟨hf.1,hf.2,hf.3,by simp⟩,?_⟩;simp
 try rfl
def uY (s:Said):Int:=if s.err≠0∨s.cell.known=false then-1 else s.cell.n
theorem aeN (s:Said):aq T 34 [sB s] (.int (uY s)):=by
 refine .of_tree rfl (lA 90 (by kernel_rfl)) arF ?_;unfold uY;by_cases h1:s.err=0<;>cases h2:s.cell.known<;>simp[Ss,h1,h2]
end Rm
namespace Rm
open Go Go.Proofs Cx
def iu (day:Int)(l:List Act)(es:List (D×D)):List (D×D):=l.foldl (fun es a=>if a.kind=7∧a.day≤day then dc (.int a.at_) (.bool true) es else es) es
theorem arh (day:Int)(l:List Act){k:Nat}(hk:k<l.length):iu day (l.take (k+1)) []=if l[k].kind=7∧l[k].day≤day then dc (.int l[k].at_) (.bool true) (iu day (l.take k) []) else iu day (l.take k) []:=by
 unfold iu;rw[nJ hk,FY];rfl
theorem abN (k v:D):∀es:List (D×D),(dc k v es).length≤es.length+1
 |[]=>by simp[dc]
 |e::es=>by
  unfold dc;split
  ·simp
  ·have:=abN k v es;simp;omega
theorem adz (day:Int):∀(l:List Act) (es:List (D×D)),(iu day l es).length≤es.length+l.length
 |[],es=>by simp[iu]
 |a::l,es=>by
  have h:=adz day l (if a.kind=7∧a.day≤day then dc (.int a.at_) (.bool true) es else es);have hp:=abN (.int a.at_) (.bool true) es;show(iu day l (if a.kind=7∧a.day≤day then dc (.int a.at_) (.bool true) es else es)).length≤_;split at h
  ·rename_i hc;rw[if_pos hc];simp;omega
  ·rename_i hc;rw[if_neg hc];simp;omega
theorem adM (f:File)(day:Int)(hl:f.acts.length≤100000):aq T 33 [aX f,.int day] (.map (iu day f.acts [])):=by
 refine .of_tree rfl (lA 94 (by kernel_rfl)) atQ ?_;simp[UD];refine aP.forRounds f.acts.length (fun k=>[.int k]) (fun k=>[.map (iu day (f.acts.take k) [])]) ?_ (fun k hk=>?_) ?_
 ·simp[iu]
 ·have hw:=bn hk (by omega);have hs:=arh day f.acts hk;have hlen:=adz day (f.acts.take k) [];rw[hs];simp at hlen;generalize iu day (f.acts.take k) []=es at*;by_cases hc:f.acts[k].kind=7∧f.acts[k].day≤day
  ·simp[RV,Fp,hk,hw,hc];omega
  ·simp[RV,Fp,hk,hw,hc]
 ·simp[RV,Fp]
theorem abO {k v:D}:∀{es:List (D×D)} {e:D×D},e∈dc k v es→e.2=v∨e∈es
 |[],e,h=>by simp[dc] at h;exact .inl (by rw[h])
 |x::es,e,h=>by
  unfold dc at h;split at h
  ·rcases cD.mp h with rfl|h
   ·exact .inl rfl
   ·exact .inr (by simp[h])
  ·rcases cD.mp h with rfl|h
   ·exact .inr (by simp)
   ·rcases abO h with h|h
    ·exact .inl h
    ·exact .inr (by simp[h])
theorem adB (day:Int):∀(l:List Act) (es:List (D×D)),(∀e,e∈es→e.2=.bool true)→∀e,e∈iu day l es→e.2=.bool true
 |[],es,h,e,he=>h e he
 |a::l,es,h,e,he=>by
  refine adB day l (if a.kind=7∧a.day≤day then dc (.int a.at_) (.bool true) es else es) (fun x hx=>?_) e he;split at hx
  ·rcases abO hx with h'|h'
   ·exact h'
   ·exact h x h'
  ·exact h x hx
theorem Zi {k d:D}:∀{es:List (D×D)},dR k es=some d→∃e,e∈es∧e.2=d
 |x::es,h=>by
  unfold dR at h;split at h
  ·exact⟨x,by simp,by simpa using h⟩
  ·obtain⟨e,h1,h2⟩:=Zi h;exact⟨e,by simp[h1],h2⟩
theorem arf (day:Int)(l:List Act)(k:D):(dR k (iu day l [])).getD (.bool false)=.bool ((dR k (iu day l [])).getD (.bool false)).b:=by
 cases h:dR k (iu day l []) with
 |none=>rfl
 |some d=>
  obtain⟨e,h1,h2⟩:=Zi h;have:=adB day l [] (fun e h=>by cases h) e h1;rw[h2] at this;rw[this];rfl
def tF (f:File)(sign day:Int):Bool:=au sign f.signs.length&&((dR (.int sign) (iu day f.acts [])).getD (.bool false)).b
theorem So (f:File)(sign day:Int)(hl:f.acts.length≤100000):aq T 14 [aX f,.int sign,.int day] (.bool (tF f sign day)):=by
 refine .of_tree rfl (lA 97 (by kernel_rfl)) atL ?_;by_cases h1:0≤sign<;>by_cases h2:sign<f.signs.length<;>simp[Uy,h1,h2,tF,au];refine⟨_,adM f day hl,?_⟩;exact arf day f.acts (.int sign)
end Rm
namespace Rm
open Go Go.Proofs Cx
def zy (n:Int):Bool:=decide (0≤n)&&decide (n≤100000)
theorem aep (r:Realm)(fr to:Int)(hl:r.usances.length≤100000):∃n e:Int,aq T 88 [aZ r,.int fr,.int to] (.tup [.int n,.int e])∧(e=0→∃u,u∈r.usances∧n=u.days)∧(e=0↔∃u,u∈r.usances∧u.fr=fr∧u.to=to):=by
 let p:Usance→Bool:=fun u=>decide (u.fr=fr)&&decide (u.to=to)
 refine⟨match r.usances.find? p with|some u=>u.days|none=>0,match r.usances.find? p with|some u=>0|none=>4,?_,?_⟩
 ·refine .of_tree rfl (lA 26 (by kernel_rfl)) as2 ?_;simp[TQ];refine aP.scan r.usances.length (fun k=>p (r.usances.getD k default)=false) (fun k=>[.int 0,.int 0,.int k]) (fun _=>[]) ?_ (fun k hk hj aB=>?_) (fun k hk hj aB=>?_) (fun hj=>?_)
  ·simp
  ·have hw:=bn hk (by omega);have hn:¬(r.usances[k].fr=fr∧r.usances[k].to=to):=by simpa [p,hk] using aB
   simp[Rv,E1,hk,hw,hn]
  ·have fe:=CI hk (by simpa [hk] using aB) (fun j ct=>by have:=hj j ct;simpa [show j<r.usances.length by omega] using this);have hc:r.usances[k].fr=fr∧r.usances[k].to=to:=by simpa [p,hk] using aB
   rw[fe];simp[Rv,E1,hk,hc]
  ·have fe:=HR (l:=r.usances) (p:=p) (fun j ct=>by have:=hj j ct;simpa [ct] using this);rw[fe];simp[Rv,E1]
 ·cases h:r.usances.find? p with
  |none=>
   refine⟨fun h=>(by cases h),fun h=>(by cases h),fun⟨u,hu,h1,h2⟩=>?_⟩;have:=vS.1 h u hu;simp[p,h1,h2] at this
  |some u=>
   have h2:u.fr=fr∧u.to=to:=by simpa [p] using Lp h
   exact⟨fun _=>⟨u,yk h,rfl⟩,fun _=>⟨u,yk h,h2⟩,fun _=>rfl⟩
end Rm
namespace Rm
open Go Go.Proofs Cx
end Rm
namespace Rm
open Go Go.Proofs Cx
end Rm
namespace Rm
open Go Go.Proofs Cx
end Rm
namespace Rm
open Go Go.Proofs Cx
end Rm
namespace Rm
open Go Go.Proofs Cx
def Vg (r:Realm):Prop:=r.halts.length≤100000∧∀h,h∈r.halts→0≤h.fr∧h.to≤100000
end Rm
namespace Rm
open Go Go.Proofs Cx
structure RightD (r:Realm):Prop where
 small:Small r
 halts:Vg r
theorem aq.ex_of_tree {tab:Nat→Option PC}{ext:Nat→Option (aQ→List D→Option D)}{f:Nat}{pc:PC}{t:PT}{ds:List D}{P:D→Prop}(hx:ext f=none)(ht:tab f=some pc)(he:tree pc=t)
 (h:aI (dV tab ext) t (kL ds) (fun x=>∃d,x=.ret d∧P d)):∃d,aq (dV tab ext) f ds d∧P d:=by
 subst he;obtain⟨x,⟨d,rfl,hd⟩,n0,hn⟩:=adS (JM ⟨fun _ _ _ h=>(by obtain⟨_,h,_⟩:=h;cases h),fun _ _ _ _ _ _ h=>(by obtain⟨_,h,_⟩:=h;cases h),fun _ h=>h⟩ h);exact⟨d,.of_pc hx ht ⟨.ret d,rfl,n0,hn⟩,hd⟩
@[simp] theorem aAo (x:File)(a0 a1 a2 a3 a4 a5 a6 a7 a8 a9 rX rY rZ sc sd vY vZ v3 v5:D):(bO [a0,a1,a2,a3,a4,a5,a6,a7,a8,a9,rX,rY,rZ,sc,sd,vY,vZ,v3,v5] 0 [.int x.bill.drawer,.int x.bill.drawee,.int x.bill.payee,.int x.bill.sum,.int x.bill.currency,.int x.bill.tenor.kind,.int x.bill.tenor.n,.int x.bill.tenor.unit,.int x.bill.day,.int x.bill.city,.int x.bill.pay,.int x.bill.need,.int x.bill.rate,.int x.bill.flags,.int x.bill.parts,signs x.signs,alters x.alters,acts x.acts,facts x.facts])[15]?.getD D.none=signs x.signs:=_root_.id rfl
end Rm
namespace Rm
open Go Go.Proofs Cx
def noE:Effect:=⟨0,0,0,0,0,0,false⟩
end Rm
namespace Rm
open Go Go.Proofs Cx
theorem pG {n:Nat}{f:Nat→Int}(h:cK n f=0)(k:Nat)(hk:k<n):f k=0:=ug.1 h k hk
theorem afy {r:Realm}(h:jd r=0)(k:Nat)(hk:k<r.orders.length):p7 r.orders[k]=true:=by
 unfold jd at h;rw[KR] at h;have h1:=h (er (eN r) 20 (nu r)) (by simp);unfold er at h1;split at h1
 ·cases h1
 have h2:=pG h1 k (by simpa [eN] using hk);have h3:=(zG h2).2;unfold nu at h3;simpa [hk] using h3
theorem aiF {r:Realm}(hs:Small r)(h:jd r=0):BG r:=by
 intro o ho;obtain⟨k,hk,rfl⟩:=j7 ho;have h1:=afy h k hk;obtain⟨hc,_⟩:=hs.order _ ho;refine⟨by omega,fun ch jj=>?_⟩;unfold p7 at h1;simp only[ao] at h1;obtain⟨j,hj,rfl⟩:=j7 jj;have h2:=yr.1 h1.1 j hj;simpa [au,hj] using h2
theorem aiG {r:Realm}(hs:Small r)(h:jd r=0):Vg r:=by
 refine⟨by have:=hs.halts;omega,fun x hx=>?_⟩;obtain⟨k,hk,rfl⟩:=j7 hx;unfold jd at h;rw[KR] at h;have h1:=h (oK r) (by simp);unfold oK at h1;split at h1
 ·cases h1
 split at h1
 ·cases h1
 split at h1
 ·cases h1
 split at h1
 ·rename_i aO;have h2:=yr.1 aO k hk;simp[uq,wi,au,hk] at h2;omega
 ·cases h1
structure Good (r:Realm) (f:File):Prop where
 right:Right r
 rightD:RightD r
 few:FewS f
theorem aiH {r:Realm}{f:File}(hr:r.OK)(h:HZ r f=true):Good r f:=by
 unfold HZ sD at h;simp only[ao,decide_eq_true_eq] at h;obtain⟨⟨⟨h1,h2⟩,h3⟩,h4⟩:=h;have hs:=M4 hr h1;refine⟨⟨aiF hs h4,by have:=hs.orders;omega,fun o ho=>?_⟩,⟨hs,aiG hs h4⟩,?_⟩
 ·have:=hs.order o ho;refine⟨?_,by omega⟩;exact hr.2.2.2.2.1.2 o ho
 ·simp[CG] at h2;exact⟨by omega,by omega,by omega,by omega⟩
end Rm
namespace Rm
open Go Go.Proofs Cx
end Rm
namespace Rm
open Go Go.Proofs Cx
end Rm
namespace Rm
open Go Go.Proofs Cx
@[simp] theorem aAf:D.none.cells=[D.none]:=_root_.id rfl
end Rm
namespace Rm
open Go Go.Proofs Cx
end Rm
