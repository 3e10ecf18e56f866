/-
  Shared texts of this claim.
-/
import Derived.Test.YtipjidjopglknaaGreatDoorNAP
import Derived.Lib.Mul64
set_option linter.unusedSimpArgs false
set_option linter.unusedVariables false
noncomputable section
namespace Rm
open Go Go.Proofs Cx
def Df (r:Realm)(k:Nat):Bool:=decide (((r.cities.getD k default).feasts.length:Int)≤70)&&decide (((r.cities.getD k default).shut.length:Int)≤210)&&decide (((r.cities.getD k default).rest.length:Int)≤8)
def Dg (r:Realm)(k:Nat):Bool:=decide (((r.orders.getD k default).choices.length:Int)≤40)&&decide (((r.orders.getD k default).rules.length:Int)≤40)
def Ip (r:Realm):Bool:=decide ((r.currencies.length:Int)<50)&&decide ((r.cities.length:Int)<50)&&decide ((r.groups.length:Int)<50)&&decide ((r.firms.length:Int)<210)&&decide ((r.orders.length:Int)<50)&&decide ((r.usances.length:Int)<110)&&decide ((r.rates.length:Int)<110)&&decide ((r.halts.length:Int)<50)
def pR (r:Realm):Bool:=eO (min r.cities.length 50) (Df r)&&eO (min r.orders.length 50) (Dg r)&&Ip r
theorem aqU (r:Realm)(hr:r.OK):ak T 61 [bk r] (.bool (pR r)):=by
 refine .of_tree rfl (lA 84 (by kernel_rfl)) atD ?_;simp[TR];refine gA (min r.cities.length 50) (Df r) (fun k=>[.bool false,.int k]) (fun _=>[]) ?_ (fun k hk ho=>?_) (fun k hk ho hb=>?_) (fun hj=>?_)
 ·simp
 ·have bu:k<r.cities.length:=by omega
  have cm:k<50:=by omega
  have hw:=bp cm (by omega);simp[Df,bu] at ho;obtain⟨⟨a1,a2⟩,a3⟩:=ho;have b1:¬(70:Int)<r.cities[k].feasts.length:=by omega
  have b2:¬(210:Int)<r.cities[k].shut.length:=by omega
  have b3:¬(8:Int)<r.cities[k].rest.length:=by omega
  simp[Fq,xU,bu,cm,hw,b1,b2,b3];omega
 ·have bu:k<r.cities.length:=by omega
  have cm:k<50:=by omega
  have hf:pR r=false:=by simp only[pR,hb,sk]
  rw[hf];simp[Df,bu] at ho;by_cases b1:(70:Int)<r.cities[k].feasts.length
  ·simp[Fq,xU,bu,cm,b1];omega
  by_cases b2:(210:Int)<r.cities[k].shut.length
  ·simp[Fq,xU,bu,cm,b1,b2];omega
  have b3:(8:Int)<r.cities[k].rest.length:=by have:=ho (by omega) (by omega);omega
  simp[Fq,xU,bu,cm,b1,b2,b3];omega
 ·have hn:¬((min r.cities.length 50:Nat):Int)<r.cities.length∨¬((min r.cities.length 50:Nat):Int)<50:=by omega
  simp[Fq,xU];rw[if_neg (by omega)];refine gA (min r.orders.length 50) (Dg r) (fun k=>[.bool false,.int k]) (fun _=>[]) ?_ (fun k hk ho=>?_) (fun k hk ho hb=>?_) (fun wM=>?_)
  ·simp
  ·have bu:k<r.orders.length:=by omega
   have cm:k<50:=by omega
   have hw:=bp cm (by omega);simp[Dg,bu] at ho;obtain⟨a1,a2⟩:=ho;have b1:¬(40:Int)<r.orders[k].choices.length:=by omega
   have b2:¬(40:Int)<r.orders[k].rules.length:=by omega
   simp[KM,Bv,bu,cm,hw,b1,b2];omega
  ·have bu:k<r.orders.length:=by omega
   have cm:k<50:=by omega
   have hf:pR r=false:=by simp only[pR,hb,sk,ym]
   rw[hf];simp[Dg,bu] at ho;by_cases b1:(40:Int)<r.orders[k].choices.length
   ·simp[KM,Bv,bu,cm,b1];omega
   have b2:(40:Int)<r.orders[k].rules.length:=by have:=ho (by omega);omega
   simp[KM,Bv,bu,cm,b1,b2];omega
  ·have hf:pR r=Ip r:=by simp only[pR,hj,wM,yn]
   rw[hf];simp[KM,Bv];rw[if_neg (by omega)];unfold Ip;by_cases c1:(r.currencies.length:Int)<50<;>simp[c1];by_cases c2:(r.cities.length:Int)<50<;>simp[c2];by_cases c3:(r.groups.length:Int)<50<;>simp[c3];by_cases c4:(r.firms.length:Int)<210<;>simp[c4];by_cases c5:(r.orders.length:Int)<50<;>simp[c5];by_cases c6:(r.usances.length:Int)<110<;>simp[c6];by_cases c7:(r.rates.length:Int)<110<;>simp[c7]
theorem Nv {r:Realm}(hr:r.OK)(h:pR r=true):Small r:=by
 simp only[pR,Ip,ao,decide_eq_true_eq,yC] at h;obtain⟨⟨h1,h2⟩,⟨⟨⟨⟨⟨⟨⟨c1,c2⟩,c3⟩,c4⟩,c5⟩,c6⟩,c7⟩,c8⟩⟩:=h;obtain⟨k1,⟨k2,k2'⟩,⟨k3,k3'⟩,⟨k4,k4'⟩,⟨k5,k5'⟩,⟨k6,k6'⟩,⟨k7,k7'⟩,⟨k8,k8'⟩⟩:=hr;refine⟨by omega,by omega,by omega,by omega,by omega,by omega,by omega,by omega,fun c hc=>?_,fun o ho=>?_,fun x hx=>?_⟩
 ·obtain⟨k,hk,rfl⟩:=nK hc;have:=h1 k (by omega);simp[Df,hk] at this;have:=k2' _ hc;exact⟨by omega,by omega,by omega,fun y hy=>this.2.2.2.1.2 y hy⟩
 ·obtain⟨k,hk,rfl⟩:=nK ho;have:=h2 k (by omega);simp[Dg,hk] at this;omega
 ·have:=k7' x hx;exact⟨this.2.2.1,this.2.2.2.1⟩
def sM (r:Realm)(f:File):Bool:=(pR r&&Dh f)&&eO r.orders.length (fun k=>q7 (r.orders.getD k default))
theorem aq8 (r:Realm)(f:File)(hr:r.OK):ak T 31 [bk r,cZ f] (.bool (sM r f)):=by
 refine .of_tree rfl (lA 83 (by kernel_rfl)) atZ ?_;simp[Ud];refine⟨_,aqU r hr,?_⟩;cases e1:pR r
 ·simp[sM,e1]
 simp;refine⟨_,aq7 f,?_⟩;cases e2:Dh f
 ·simp[sM,e1,e2]
 have hs:=Nv hr e1;have ho:=hs.orders;have hf:sM r f=eO r.orders.length (fun k=>q7 (r.orders.getD k default)):=by simp only[sM,e1,e2,yn]
 rw[hf];simp;have hO:=hr.2.2.2.2.1.2;refine gA r.orders.length (fun k=>q7 (r.orders.getD k default)) (fun k=>[.bool false,.int k]) (fun _=>[]) ?_ (fun k hk ho=>?_) (fun k hk ho hb=>?_) (fun hj=>?_)
 ·simp
 ·have hw:=bp hk (by omega);simp[hk] at ho;simp[R1,FH,hk];refine⟨_,ac7 _ (hO _ (cS hk)),?_⟩;simp[ho,hw]
 ·simp only[aJ] at hb;rw[hb];simp[hk] at ho;simp[R1,FH,hk];refine⟨_,ac7 _ (hO _ (cS hk)),?_⟩;simp[ho]
 ·simp only[aJ] at hj;rw[hj];simp[R1,FH]
def zV (r:Realm)(f:File):Bool:=sM r f&&decide (lD r=0)
def nY (n:Int):Int:=min (max n (-1099511627776)) 1099511627776
theorem Lt (n:Int):ak T1 178 [.int n] (.int (nY n)):=by
 refine .of_tree rfl agw auO ?_;simp[UZ,nY];by_cases h1:-1099511627776>n
 ·have:¬(1099511627776:Int)< -1099511627776:=by omega
  simp[h1];omega
 ·by_cases h2:(1099511627776:Int)<n
  ·simp[h1,h2];omega
  ·simp[h1,h2];omega
theorem asG (n:Int):ak T 178 [.int n] (.int (nY n)):=SK rfl (Lt n)
def lx (v:Int):Int×Bool:=if v<0∨19<v then(0,false) else if v<7 then(0,true) else(1,true)
theorem ael (v:Int):ak T1 176 [.int v] (.tup [.int (lx v).1,.bool (lx v).2]):=by
 refine .of_tree rfl agt auK ?_;simp[UU,lx];by_cases h1:v<0
 ·simp[h1]
 by_cases h2:19<v
 ·simp[h1,h2]
 by_cases h3:v<7
 ·simp[h1,h2,h3]
 ·simp[h1,h2,h3]
theorem asD (v:Int):ak T 176 [.int v] (.tup [.int (lx v).1,.bool (lx v).2]):=SK rfl (ael v)
def ED (t:Tm):Int×Int:=
 if 0<t.args.length then(0,2) else if t.op=0 then(if nY t.n≠t.n then(0,3) else(0,0)) else if t.op=1 then(if t.n<0∨1<t.n then(0,3) else(1,0)) else if(lx t.n).2=false then(0,10) else((lx t.n).1,0)
theorem asH (t:Tm):ak T 174 [du t] (.tup [.int (ED t).1,.int (ED t).2]):=by
 refine .of_tree rfl (lA 34 (by kernel_rfl)) auP ?_;simp[U0,ED];by_cases h0:0<t.args.length
 ·have gp:(0:Int)<t.args.length:=by omega
  simp[h0,gp]
 simp[h0];by_cases h1:t.op=0
 ·simp[h1];refine⟨_,asG _,?_⟩;by_cases h2:nY t.n=t.n<;>simp[h2]
 by_cases h2:t.op=1
 ·simp[h1,h2];by_cases h3:t.n<0<;>by_cases h4:1<t.n<;>simp[h3,h4]
 simp[h1,h2];refine⟨_,asD _,?_⟩;cases h3:(lx t.n).2<;>simp[h3]
def fi (op:Int):List Int×Int:=
 if op=3 then([1],1) else if op=4∨op=5 then([1,1],1) else if op=6 then([1,-1,-1],-1) else if op=7 then([0,0],1) else if op=8 then([-1,-1],1) else([0,0],0)
def Dc (s:List Int×Int):D:=.agg [ints s.1,.int s.2]
@[simp] theorem axs (s:List Int×Int):(Dc s).cells=[ints s.1,.int s.2]:=_root_.id rfl
@[simp] theorem axq (s:List Int×Int):(Dc s).c 0=ints s.1:=_root_.id rfl
@[simp] theorem axr (s:List Int×Int):(Dc s).c 1=.int s.2:=_root_.id rfl
@[simp] theorem aAX (s:List Int×Int):D.agg [ints s.1,.int s.2]=Dc s:=_root_.id rfl
@[simp] theorem aBM (x y:Int):vu (.int x) 0 (.int y)=.int y:=_root_.id rfl
theorem asK (op:Int):ak T 175 [.int op] (Dc (fi op)):=by
 refine .of_tree rfl (lA 35 (by kernel_rfl)) auT ?_;simp[U3,fi];by_cases h3:op=3
 ·simp[h3];rfl
 by_cases h4:op=4
 ·simp[h4];rfl
 by_cases h5:op=5
 ·simp[h5];rfl
 by_cases h6:op=6
 ·simp[h6];rfl
 by_cases h7:op=7
 ·simp[h7];rfl
 by_cases h8:op=8
 ·simp[h8];rfl
 simp[h3,h4,h5,h6,h7,h8];rfl
end Rm
namespace Rm
open Go Go.Proofs Cx
def fX (f:Tm→Int):List Tm→Int→Int
 |[],n=>n
 |a::l,n=>if 60<n+f a then n+f a else fX f l (n+f a)
def cJ:Nat→Tm→Int
 |0,_=>61
 |L+1,t=>fX (cJ L) t.args 1
def dS (f:Tm→Int)(l:List Tm):Int:=(l.map f).sum
theorem JL {f:Tm→Int}{l:List Tm}{k:Nat}(h:k<l.length):dS f (l.take (k+1))=dS f (l.take k)+f l[k]:=by
 unfold dS;rw[BP f h,List.sum_append];simp
theorem aan {f:Tm→Int}:∀{l:List Tm} {n:Int} {k:Nat},(hk:k<l.length)→(∀j,j<k→n+dS f (l.take (j+1))≤60)→60<n+dS f (l.take (k+1))→fX f l n=n+dS f (l.take (k+1))
 |a::l,n,0,hk,_,h=>by
  simp[dS] at h ⊢;unfold fX;rw[if_pos (by omega)]
 |a::l,n,k+1,hk,hj,h=>by
  have h0:=hj 0 (by omega);simp[dS] at h0;unfold fX;rw[if_neg (by omega)];have e:∀j,n+dS f ((a::l).take (j+1+1))=n+f a+dS f (l.take (j+1)):=by intro j;simp[dS];omega
  rw[aan (l:=l) (k:=k) (by simpa using hk) (fun j I5=>by have:=hj (j+1) (by omega);rw[e] at this;exact this) (by rw[←e];exact h),e]
theorem aap {f:Tm→Int}:∀{l:List Tm} {n:Int},(∀j,j<l.length→n+dS f (l.take (j+1))≤60)→fX f l n=n+dS f l
 |[],n,_=>by simp[fX,dS]
 |a::l,n,hj=>by
  have h0:=hj 0 (by simp);simp[dS] at h0;unfold fX;rw[if_neg (by omega)];have e:∀j,n+dS f ((a::l).take (j+1+1))=n+f a+dS f (l.take (j+1)):=by intro j;simp[dS];omega
  rw[aap (l:=l) (fun j gr=>by have:=hj (j+1) (by simpa using gr);rw[e] at this;exact this)];simp[dS];omega
theorem aao {f:Tm→Int}(hf:∀a,1≤f a):∀{l:List Tm} {n:Int},n≤fX f l n
 |[],n=>by simp[fX]
 |a::l,n=>by
  unfold fX;have:=hf a;split
  ·omega
  ·have:=aao hf (l:=l) (n:=n+f a);omega
theorem xt:∀(L:Nat) (t:Tm),1≤cJ L t
 |0,t=>by simp[cJ]
 |L+1,t=>aao (xt L)
theorem aaq {f:Tm→Int}{B:Int}(hf:∀a,f a≤B)(hB:0≤B):∀{l:List Tm} {n:Int},n≤60→fX f l n≤60+B
 |[],n,h=>by simp[fX];omega
 |a::l,n,h=>by
  unfold fX;have:=hf a;split
  ·omega
  ·exact aaq hf hB (by omega)
theorem aas:∀(L:Nat) (t:Tm),cJ L t≤61+60*L
 |0,t=>by simp[cJ]
 |L+1,t=>by
  have:=aaq (f:=cJ L) (fun a=>aas L a) (by omega) (l:=t.args) (n:=1) (by omega);show fX _ _ _≤_;omega
theorem aar {f:Tm→Int}(hf:∀a,1≤f a):∀{l:List Tm} {n:Int},fX f l n≤60→(n:Int)+l.length≤60∧∀a,a∈l→f a≤60-n
 |[],n,h=>by simp[fX] at h ⊢;exact h
 |a::l,n,h=>by
  unfold fX at h;have:=hf a;split at h
  ·omega
  ·obtain⟨h1,h2⟩:=aar hf h;refine⟨by simp;omega,fun b hb=>?_⟩;rcases cT.1 hb with rfl|hb
   ·omega
   ·have:=h2 b hb;omega
theorem JI {L:Nat}{t:Tm}(h:cJ (L+1) t≤60):t.args.length≤59∧∀a,a∈t.args→cJ L a≤60:=by
 obtain⟨h1,h2⟩:=aar (xt L) h;exact⟨by omega,fun a ha=>by have:=h2 a ha;omega⟩
theorem SX:∀(L:Nat) (t:Tm) (lv:Int),t.OK→L≤8→lv=9-(L:Int)→ak T 152 [du t,.int lv] (.int (cJ L t))
 |0,t,lv,ht,hL,Ot=>by
  refine .of_tree rfl Ws aew ?_;subst Ot;simp[LI,cJ]
 |L+1,t,lv,ht,hL,Ot=>by
  refine .of_tree rfl Ws aew ?_;have hl:=ht.len;have h8:¬(8<lv):=by omega
  have Js:IntKind.i64.wrap (lv+1)=lv+1:=bU (by omega);simp[LI,h8];refine .scan t.args.length (fun k=>1+dS (cJ L) (t.args.take (k+1))≤60) (fun k=>[.int (1+dS (cJ L) (t.args.take k)),.int k]) (fun _=>[]) ?_ (fun k hk hj ho=>?_) (fun k hk hj ho=>?_) (fun hj=>?_)
  ·simp[dS]
  all_goals try rw[JL hk] at ho
  ·have hw:IntKind.i64.wrap ((k:Int)+1)=(k:Int)+1:=bU (by omega);have gJ:=SX L t.args[k] (lv+1) (ht.arg (cS hk)) (by omega) (by omega);rw[JL hk];have hs:0≤dS (cJ L) (t.args.take k):=by
    unfold dS;have:∀(l:List Tm),0≤(l.map (cJ L)).sum:=by
     intro l
     induction l with
     |nil=>simp
     |cons a l ih=>have:=xt L a;simp;omega
    exact this _
   have ec:=xt L t.args[k];generalize dS (cJ L) (t.args.take k)=m at*;generalize cJ L t.args[k]=v at*;have sZ:IntKind.i64.wrap (1+m+v)=1+m+v:=bU (by omega);have eA:¬60<1+m+v:=by omega
   simp[Su,F7,hk,Js];refine⟨_,gJ,?_⟩;simp[sZ,eA,hw];omega
  ·have gJ:=SX L t.args[k] (lv+1) (ht.arg (cS hk)) (by omega) (by omega);have hf:cJ (L+1) t=1+dS (cJ L) (t.args.take (k+1)):=aan hk hj (by rw[JL hk];omega);rw[hf,JL hk];have hs:0≤dS (cJ L) (t.args.take k)∧1+dS (cJ L) (t.args.take k)≤60:=by
    constructor
    ·unfold dS;have:∀(l:List Tm),0≤(l.map (cJ L)).sum:=by
       intro l
       induction l with
       |nil=>simp
       |cons a l ih=>have:=xt L a;simp;omega
     exact this _
    ·cases k with
     |zero=>simp[dS]
     |succ k=>exact hj k (by omega)
   have ec:=xt L t.args[k];have cf:=aas L t.args[k];generalize dS (cJ L) (t.args.take k)=m at*;generalize cJ L t.args[k]=v at*;have sZ:IntKind.i64.wrap (1+m+v)=1+m+v:=bU (by omega);have eA:60<1+m+v:=by omega
   simp[Su,F7,hk,Js];refine⟨_,gJ,?_⟩;simp[sZ,eA];omega
  ·have hf:cJ (L+1) t=1+dS (cJ L) t.args:=aap hj;rw[hf];simp[Su,F7]
def np (ws ts:List Int):Nat→Int
 |0=>-1
 |k+1=>if ws.getD k 0=-1∧np ws ts k=-1 then ts.getD k 0 else np ws ts k
def oH (ws ts:List Int)(k:Nat):Bool:=if ws.getD k 0=-1 then decide (np ws ts k=-1)||decide (ts.getD k 0=np ws ts k) else decide (ts.getD k 0=ws.getD k 0)
def xw (t:Tm)(ks:List Int):Int×Int:=
 if t.op<0∨13<t.op then(0,1) else if t.op=0∨t.op=1∨t.op=2 then ED t else
 if ks.length≠(fi t.op).1.length∨t.n≠0 then(0,2) else
 if eO (fi t.op).1.length (oH (fi t.op).1 ks)=false then(0,11) else if(fi t.op).2=-1 then(np (fi t.op).1 ks (fi t.op).1.length,0) else((fi t.op).2,0)
def bI:Nat→Tm→Int×Int
 |0,_=>(0,0)
 |L+1,t=>if fQ t.args.length (fun k=>(bI L (t.args.getD k default)).2)≠0 then(0,fQ t.args.length (fun k=>(bI L (t.args.getD k default)).2)) else xw t (t.args.map fun a=>(bI L a).1)
theorem Na (L:Nat)(t:Tm):bI (L+1) t=if fQ t.args.length (fun k=>(bI L (t.args.getD k default)).2)≠0 then(0,fQ t.args.length (fun k=>(bI L (t.args.getD k default)).2)) else xw t (t.args.map fun a=>(bI L a).1):=rfl
theorem SN {α:Type}(A:List α)(z:α){k n:Nat}(hA:A.length=n)(hk:k<n):(A.take k++List.replicate (n-k) z).set k A[k]=A.take (k+1)++List.replicate (n-(k+1)) z:=by
 have h1:(A.take k).length=k:=by rw[dW];omega
 rw[List.set_append_right _ _ (by omega),h1,L6];have:n-k=(n-(k+1))+1:=by omega
 rw[this,List.replicate_succ,List.set_cons_zero,mV (by omega),nI];rfl
theorem asi (op:Int):(fi op).1.length≤3:=by
 unfold fi;repeat' split
 all_goals simp
theorem SW:∀(L:Nat) (t:Tm),t.OK→cJ L t≤60→ak T 153 [du t] (.tup [.int (bI L t).1,.int (bI L t).2])
 |0,t,ht,hm=>by simp[cJ] at hm
 |L+1,t,ht,hm=>by
  refine .of_tree rfl (lA 33 (by kernel_rfl)) auM ?_;obtain⟨hl,hp⟩:=JI hm;simp[UX];refine⟨by omega,?_⟩;refine oZ t.args.length (fun k=>(bI L (t.args.getD k default)).2) (fun k=>[.int 0,.int 0,.int k]) (fun k=>[ints ((t.args.map fun a=>(bI L a).1).take k++List.replicate (t.args.length-k) 0)]) ?_ (fun k hk ho=>?_) (fun k hk ho hb=>?_) (fun hj=>?_)
  ·simp[ints]
  ·have hw:=bp hk (by omega);have dg:=cS hk;have gJ:=SW L t.args[k] (ht.arg dg) (hp _ dg);have hs:=SN (t.args.map fun a=>(bI L a).1) 0 (n:=t.args.length) (by simp) hk;rw[←hs];have hlen:((t.args.map fun a=>(bI L a).1).take k++List.replicate (t.args.length-k) (0:Int)).length=t.args.length:=by simp;omega
   have hgk:(t.args.map fun a=>(bI L a).1)[k]'(by simpa using hk)=(bI L t.args[k]).1:=by simp
   rw[hgk];generalize (t.args.map fun a=>(bI L a).1).take k++List.replicate (t.args.length-k) (0:Int)=A at*;simp[hk] at ho;rw[ho] at gJ;generalize (bI L t.args[k]).1=kd at*;simp[Sr,F5,hk];refine⟨_,gJ,?_⟩;simp[hlen,hk,hw,ints]
  ·have dg:=cS hk;have gJ:=SW L t.args[k] (ht.arg dg) (hp _ dg);have hf:bI (L+1) t=(0,(bI L (t.args.getD k default)).2):=by
    rw[Na,hb,if_pos ho]
   rw[hf];simp[hk] at ho ⊢;simp[Sr,F5,hk];refine⟨_,gJ,?_⟩;simp[ho]
  ·have hf:bI (L+1) t=xw t (t.args.map fun a=>(bI L a).1):=by
    rw[Na,hj];simp
   rw[hf]
   have e0:(t.args.map fun a=>(bI L a).1).take t.args.length++List.replicate (t.args.length-t.args.length) 0=t.args.map fun a=>(bI L a).1:=by
    rw[L6,B8 (by simp)];simp
   rw[e0];have YH:(t.args.map fun a=>(bI L a).1).length=t.args.length:=by simp
   generalize (t.args.map fun a=>(bI L a).1)=ks at*;simp[Sr,F5];unfold xw;by_cases h1:t.op<0
   ·simp[h1]
   by_cases h2:13<t.op
   ·simp[h1,h2]
   simp[h1,h2];by_cases h3:t.op=0∨t.op=1∨t.op=2
   ·have eQ:(t.op=0∨t.op=1)∨t.op=2:=by omega
    simp[h3,eQ];refine⟨_,asH t,?_⟩;simp
   have eQ:¬((t.op=0∨t.op=1)∨t.op=2):=by omega
   simp[h3,eQ];refine⟨_,asK _,?_⟩;have hsl:=asi t.op;generalize fi t.op=sh at*;simp;by_cases h4:ks.length=sh.1.length
   case neg=>
    have pV:¬((ks.length:Int)=sh.1.length):=by omega
    have IB:¬t.args.length=sh.1.length:=by omega
    simp[h4,pV,IB]
   have pV:(ks.length:Int)=sh.1.length:=by omega
   have IB:t.args.length=sh.1.length:=by omega
   by_cases h5:t.n=0
   case neg=>simp[h4,pV,IB,h5]
   simp[h4,pV,IB,h5];refine gA sh.1.length (oH sh.1 ks) (fun k=>[.int 0,.int 0,.int (np sh.1 ks k),.int k]) (fun _=>[]) ?_ (fun k hk ho=>?_) (fun k hk ho hb=>?_) (fun hj=>?_)
   ·simp[np]
   ·have hw:=bp hk (by omega);have cm:k<ks.length:=by omega
    simp only[np];unfold oH at ho;simp only[aJ,bA hk,bA cm,j9] at ho ⊢;generalize np sh.1 ks k=c at*;by_cases a1:sh.1[k]=-1
    ·by_cases a2:c=-1
     ·simp[BD,vj,hk,cm,hw,ints,a1,a2]
     ·simp[a1,a2] at ho;simp[BD,vj,hk,cm,hw,ints,a1,a2,ho]
    ·simp[a1] at ho;simp[BD,vj,hk,cm,hw,ints,a1,ho]
   ·rw[hb];have cm:k<ks.length:=by omega
    unfold oH at ho;simp only[aJ,bA hk,bA cm,j9] at ho;generalize np sh.1 ks k=c at*;by_cases a1:sh.1[k]=-1
    ·by_cases a2:c=-1
     ·simp[a1,a2] at ho
     ·simp[a1,a2] at ho;simp[BD,vj,hk,cm,ints,a1,a2,ho]
    ·simp[a1] at ho;simp[BD,vj,hk,cm,ints,a1,ho]
   ·rw[hj];simp[BD,vj];by_cases a1:sh.2=-1<;>simp[a1]
def ke (t:Tm):Int×Int:=if 60<cJ 8 t then(0,6) else bI 8 t
theorem SV (t:Tm)(ht:t.OK):ak T 115 [du t] (.tup [.int (ke t).1,.int (ke t).2]):=by
 refine .of_tree rfl (lA 31 (by kernel_rfl)) auI ?_;simp[US,ke];refine⟨_,SX 8 t 1 ht (by omega) (by omega),?_⟩;by_cases h:60<cJ 8 t
 ·simp[h]
 simp[h];refine⟨_,SW 8 t ht (by omega),?_⟩;simp
end Rm
namespace Rm
open Go Go.Proofs Cx
abbrev u (n:Nat):D:=.v (.int .u64 n)
theorem afi (n:Int):IntKind.u64.wrap n=n%18446744073709551616:=rfl
theorem Gx {n:Int}(h:0≤n∧n<18446744073709551616):IntKind.u64.wrap n=n:=by
 rw[afi];omega
theorem yi {n:Nat}(h:n<18446744073709551616):IntKind.u64.wrap (n:Int)=n:=Gx (by omega)
theorem asj (a s:Nat)(h:s≤64):cK .shr .u64 a s=((a/2^s:Nat):Int):=by
 show Int.fdiv (a:Int) (2^(min (s:Int).toNat 64))=_;have:min (s:Int).toNat 64=s:=by simp;omega
 rw[this,afB _ (Int.le_of_lt (Int.pow_pos (by decide)))];rw[Int.natCast_ediv,Int.natCast_pow];rfl
theorem Mj (a:Nat)(h:a<18446744073709551616):cK .and .u64 a 4294967295=((a%4294967296:Nat):Int):=by
 show IntKind.u64.wrap ((BitVec.ofInt 64 (a:Int)&&& BitVec.ofInt 64 4294967295).toNat:Nat)=_;have e:(BitVec.ofInt 64 (a:Int)&&& BitVec.ofInt 64 4294967295).toNat=a%4294967296:=by
  rw[BitVec.toNat_and];have e1:(BitVec.ofInt 64 (a:Int)).toNat=a:=by simp[BitVec.ofInt,BitVec.toNat_ofNat];omega
  have e2:(BitVec.ofInt 64 4294967295).toNat=2^32-1:=by decide
  rw[e1,e2,Nat.and_two_pow_sub_one_eq_mod]
 rw[e,yi (by omega)]
@[simp] theorem BL (a:Nat):cK .shr .u64 a 32=((a/4294967296:Nat):Int):=asj a 32 (by decide)
set_option maxHeartbeats 2000000 in
theorem apn (a b:Nat)(ha:a<18446744073709551616)(hb:b<18446744073709551616):ak T1 217 [u a,u b] (.tup [u (a*b/18446744073709551616),u (a*b%18446744073709551616)]):=by
 refine .of_tree rfl agq asZ ?_;obtain⟨h1,h2,h3,h4⟩:=Go.Lib.mul64_hi a b ha hb;have elo:IntKind.u64.wrap ((a:Int)*(b:Int))=((a*b%18446744073709551616:Nat):Int):=by rw[afi,Int.natCast_emod,Int.natCast_mul];rfl
 have Nn:cK .shr .u64 (a:Int) 32=((a/4294967296:Nat):Int):=BL a;have ea0:cK .and .u64 (a:Int) 4294967295=((a%4294967296:Nat):Int):=Mj a ha;have No:cK .shr .u64 (b:Int) 32=((b/4294967296:Nat):Int):=BL b;have eb0:cK .and .u64 (b:Int) 4294967295=((b%4294967296:Nat):Int):=Mj b hb;have aAa:=Go.Lib.half_mul_le (a:=a/4294967296) (b:=b/4294967296) (by omega) (by omega);have az9:=Go.Lib.half_mul_le (a:=a/4294967296) (b:=b%4294967296) (by omega) (by omega);have az8:=Go.Lib.half_mul_le (a:=a%4294967296) (b:=b/4294967296) (by omega) (by omega);have az7:=Go.Lib.half_mul_le (a:=a%4294967296) (b:=b%4294967296) (by omega) (by omega);have Om:a*b/18446744073709551616<18446744073709551616:=by
  have:a*b<18446744073709551616*18446744073709551616:=Nat.mul_lt_mul'' ha hb;exact Nat.div_lt_of_lt_mul this
 simp only[Tg];generalize a/4294967296=a1 at*;generalize a%4294967296=a0 at*;generalize b/4294967296=b1 at*;generalize b%4294967296=b0 at*;have p11:IntKind.u64.wrap ((a1:Int)*(b1:Int))=((a1*b1:Nat):Int):=by rw[←Int.natCast_mul];exact yi (by omega)
 have p10:IntKind.u64.wrap ((a1:Int)*(b0:Int))=((a1*b0:Nat):Int):=by rw[←Int.natCast_mul];exact yi (by omega)
 have p01:IntKind.u64.wrap ((a0:Int)*(b1:Int))=((a0*b1:Nat):Int):=by rw[←Int.natCast_mul];exact yi (by omega)
 have p00:IntKind.u64.wrap ((a0:Int)*(b0:Int))=((a0*b0:Nat):Int):=by rw[←Int.natCast_mul];exact yi (by omega)
 rw[←h4] at Om ⊢;generalize a1*b1=P at*;generalize a1*b0=Q at*;generalize a0*b1=R at*;generalize a0*b0=S at*;have s1:cK .shr .u64 (S:Int) 32=((S/4294967296:Nat):Int):=BL S;have s2:IntKind.u64.wrap ((Q:Int)+((S/4294967296:Nat):Int))=((Q+S/4294967296:Nat):Int):=by rw[Gx (by omega)];omega
 generalize S/4294967296=S1 at*;generalize hT:Q+S1=TT at*;have s3:cK .shr .u64 (TT:Int) 32=((TT/4294967296:Nat):Int):=BL TT;have s4:cK .and .u64 (TT:Int) 4294967295=((TT%4294967296:Nat):Int):=Mj TT (by omega);have s5:IntKind.u64.wrap (((TT%4294967296:Nat):Int)+(R:Int))=((TT%4294967296+R:Nat):Int):=by rw[Gx (by omega)];omega
 generalize hU:TT%4294967296+R=U at*;have s6:cK .shr .u64 (U:Int) 32=((U/4294967296:Nat):Int):=BL U;have s7:IntKind.u64.wrap ((P:Int)+((TT/4294967296:Nat):Int))=((P+TT/4294967296:Nat):Int):=by rw[Gx (by omega)];omega
 have s8:IntKind.u64.wrap (((P+TT/4294967296:Nat):Int)+((U/4294967296:Nat):Int))=((P+TT/4294967296+U/4294967296:Nat):Int):=by rw[Gx (by omega)];omega
 simp[-BL,-Int.natCast_add,-Int.natCast_mul,-Int.natCast_ediv,-Int.natCast_emod,elo,Nn,ea0,No,eb0,p11,p10,p01,p00,s1,s2,s3,s4,s5,s6,s7,s8]
def tA (m:Nat):Int:=if m<1099511627776 then m else 1099511627776
def Bc (a b:Int):Int:=if(decide (a<0)!=decide (b<0))=true then-tA (a.natAbs*b.natAbs) else tA (a.natAbs*b.natAbs)
theorem acz (m:Nat):0≤tA m∧tA m≤1099511627776:=by unfold tA;split<;>omega
set_option maxHeartbeats 1000000 in
theorem asI (a b:Int)(ha:-1099511627776≤a∧a≤1099511627776)(hb:-1099511627776≤b∧b≤1099511627776):ak T1 209 [.int a,.int b] (.int (Bc a b)):=by
 refine .of_tree rfl agz auS ?_;have wa:IntKind.u64.wrap (a.natAbs:Int)=a.natAbs:=yi (by omega);have wb:IntKind.u64.wrap (b.natAbs:Int)=b.natAbs:=yi (by omega);have w0a:IntKind.i64.wrap (0-a)=-a:=by rw[bU (by omega)];omega
 have w0b:IntKind.i64.wrap (0-b)=-b:=by rw[bU (by omega)];omega
 have avm:IntKind.i64.wrap (-a)=-a:=bU (by omega);have avn:IntKind.i64.wrap (-b)=-b:=bU (by omega);have ea:(if a< -a then D.int (-a) else D.int a)=D.int a.natAbs:=by split<;>congr 1<;>omega
 have eb:(if b< -b then D.int (-b) else D.int b)=D.int b.natAbs:=by split<;>congr 1<;>omega
 have ea':(if a< -a then-a else a)=(a.natAbs:Int):=by split<;>omega
 have eb':(if b< -b then-b else b)=(b.natAbs:Int):=by split<;>omega
 simp[U2,avm,avn,ea,eb,ea',eb'];rw[wa,wb];refine⟨_,apn a.natAbs b.natAbs (by omega) (by omega),?_⟩;unfold Bc;generalize a.natAbs*b.natAbs=m;have hs:(decide (a<0)!=decide (b<0))=false↔(a<0↔b<0):=by
  by_cases h1:a<0<;>by_cases h2:b<0<;>simp[h1,h2]
 have key:((if((m/18446744073709551616:Nat):Int)=0∧((m%18446744073709551616:Nat):Int)<1099511627776 then IntKind.i64.wrap ((m%18446744073709551616:Nat):Int) else 1099511627776):Int)=tA m:=by
  unfold tA;by_cases hm:m<1099511627776
  ·have h1:m/18446744073709551616=0:=by omega
   have h2:m%18446744073709551616=m:=by omega
   rw[h1,h2,if_pos ⟨rfl,by omega⟩,if_pos hm,bU (by omega)]
  ·rw[if_neg hm,if_neg];rintro⟨h1,h2⟩;omega
 have ew:=acz m;have anP:(if((m/18446744073709551616:Nat):Int)=0∧((m%18446744073709551616:Nat):Int)<1099511627776 then D.int (IntKind.i64.wrap ((m%18446744073709551616:Nat):Int)) else D.int 1099511627776)=D.int (tA m):=by
  rw[←key];split<;>rfl
 show(if a<0↔b<0 then(if((m/18446744073709551616:Nat):Int)=0∧((m%18446744073709551616:Nat):Int)<1099511627776 then D.int (IntKind.i64.wrap ((m%18446744073709551616:Nat):Int)) else D.int 1099511627776)=_ else
  IntKind.i64.wrap (-(if((m/18446744073709551616:Nat):Int)=0∧((m%18446744073709551616:Nat):Int)<1099511627776 then IntKind.i64.wrap ((m%18446744073709551616:Nat):Int) else 1099511627776))=_)
 rw[anP,key];generalize tA m=n at*;split
 ·rename_i h;rw[hs.2 h];simp
 ·rename_i h;have:(decide (a<0)!=decide (b<0))=true:=by
   cases e:(decide (a<0)!=decide (b<0)) with
   |true=>rfl
   |false=>exact absurd (hs.1 e) h
  rw[this,bU (by omega)];simp
def yE (op a b:Int):Int:=if op=9 then nY (a+b) else if op=10 then nY (a-b) else if op=11 then Bc a b else if op=12 then min a b else max a b
theorem asE (op a b:Int)(ha:-1099511627776≤a∧a≤1099511627776)(hb:-1099511627776≤b∧b≤1099511627776):ak T1 179 [.int op,.int a,.int b] (.int (yE op a b)):=by
 refine .of_tree rfl agu auL ?_;have w1:IntKind.i64.wrap (a+b)=a+b:=bU (by omega);have w2:IntKind.i64.wrap (a-b)=a-b:=bU (by omega);simp[UW,yE,w1,w2];by_cases h1:op=9
 ·simp[h1];exact Lt _
 by_cases h2:op=10
 ·simp[h1,h2];exact Lt _
 by_cases h3:op=11
 ·simp[h1,h2,h3];exact asI a b ha hb
 by_cases h4:op=12
 ·simp[h1,h2,h3,h4];by_cases h5:b<a<;>simp[h5]<;>omega
 simp[h1,h2,h3,h4];by_cases h5:b>a<;>simp[h5]<;>omega
def dU (b:Bool):Cell:=if b then⟨true,1⟩ else⟨true,0⟩
theorem vw (b:Bool):ak T1 177 [.bool b] (cP (dU b)):=by
 refine .of_tree rfl agA auU ?_;cases b<;>simp[U4,dU]<;>rfl
def dA:Cell:=⟨false,0⟩
@[simp] theorem aA1:D.agg [.bool false,.int 0]=cP dA:=_root_.id rfl
@[simp] theorem aA2:dA.known=false:=rfl
@[simp] theorem aA3:dA.n=0:=rfl
def cellAt (cs:List Cell)(v:Int):Cell:=cs.getD v.toNat default
def fl (cs:List Cell)(v:Int):Cell:=if cs.length≤v.toNat∨(cellAt cs v).known=false then dA else if(lx v).1=1 then dU (decide ((cellAt cs v).n≠0)) else⟨true,nY (cellAt cs v).n⟩
abbrev Ii (cs:List Cell):D:=.agg [cells cs]
theorem asL (cs:List Cell)(v:Int)(hv:0≤v):ak T1 154 [Ii cs,.int v] (cP (fl cs v)):=by
 refine .of_tree rfl agy auR ?_;obtain⟨k,rfl⟩:=tW hv;simp[U1,fl,cellAt];by_cases h1:cs.length≤k
 ·simp[h1]
 have cw:k<cs.length:=by omega
 simp[h1,cw];cases h2:cs[k].known
 ·simp[h2]
 simp[h2];refine⟨_,ael _,?_⟩;by_cases h3:(lx k).1=1
 ·simp[h3,cw];refine⟨_,vw _,?_⟩;simp;rfl
 ·simp[h3,cw];refine⟨_,Lt _,?_⟩;simp;rfl
@[simp] theorem aAq (a b:Int):(a==b)=decide (a=b):=_root_.id rfl
@[simp] theorem aAr (a b:Int):(a !=b)= !decide (a=b):=_root_.id rfl
def aF (l:List Cell)(k:Nat):Cell:=l.getD k default
def dL (op:Int)(l:List Cell):Cell:=
 if op=3 then(if(aF l 0).known=true then dU (decide ((aF l 0).n=0)) else dA)
 else if(op=4∨op=5)∧(aF l 0=dU (decide (op=5))∨aF l 1=dU (decide (op=5))) then dU (decide (op=5))
 else if op=6 then(if(aF l 1).known=true∧aF l 1=aF l 2 then aF l 1 else dA)
 else if(aF l 0).known=false∨(aF l 1).known=false then dA
 else if op=4∨op=5 then dU (decide (op=4))
 else if op=7 then dU (decide ((aF l 0).n<(aF l 1).n)) else if op=8 then dU (decide ((aF l 0).n=(aF l 1).n)) else⟨true,yE op (aF l 0).n (aF l 1).n⟩
theorem aha (a b:Cell):a=b↔a.known=b.known∧a.n=b.n:=by cases a;cases b;simp
theorem asF (op:Int)(l:List Cell)(h1:1≤l.length)(h2:op≠3→2≤l.length)(h3:op=6→3≤l.length)
 (hb:9≤op→(-1099511627776≤(aF l 0).n∧(aF l 0).n≤1099511627776)∧(-1099511627776≤(aF l 1).n∧(aF l 1).n≤1099511627776)) (h9:op<3∨8<op→9≤op):
 ak T1 155 [.int op,cells l] (cP (dL op l)):=by
 refine .of_tree rfl agv auN ?_;have g0:0<l.length:=by omega
 have wy:l[0]=aF l 0:=by simp[aF,g0]
 simp[UY];unfold dL;by_cases o3:op=3
 ·simp[o3,g0,wy];cases e:(aF l 0).known
  ·simp
  ·simp[g0];refine⟨_,vw _,?_⟩;simp
 have g1:1<l.length:=by have:=h2 o3;omega
 have Du:l[1]=aF l 1:=by simp[aF,g1]
 have fw:(1:Int)<l.length:=by omega
 simp[o3];have fin:∀a b:Cell,(a=b)=(a.known=b.known∧a.n=b.n):=fun a b=>propext (aha a b);rcases GD (op=4) with o4|o4
 ·subst o4;simp;refine⟨_,vw _,?_⟩;simp[g0,g1,fw,wy,Du,fin];split
  ·rfl
  ·split
   ·rfl
   ·refine⟨_,vw _,?_⟩;simp
 rcases GD (op=5) with o5|o5
 ·subst o5;simp;refine⟨_,vw _,?_⟩;simp[g0,g1,fw,wy,Du,fin];split
  ·rfl
  ·split
   ·rfl
   ·refine⟨_,vw _,?_⟩;simp
 rcases GD (op=6) with o6|o6
 ·subst o6;have g2:2<l.length:=by have:=h3 rfl;omega
  have gg2:l[2]=aF l 2:=by simp[aF,g2]
  have od:(2:Int)<l.length:=by omega
  simp[g1,g2,fw,od,Du,gg2,fin];cases e1:(aF l 1).known
  ·simp
  by_cases e2:(aF l 1).known=(aF l 2).known∧(aF l 1).n=(aF l 2).n
  ·rw[e1] at e2;simp[e1,e2]
  ·rw[e1] at e2;have uk:¬((aF l 2).known=true∧(aF l 1).n=(aF l 2).n):=fun h=>e2 ⟨h.1.symm,h.2⟩;simp only[e1,true_and,if_true]
   first|(rw[if_neg uk,if_neg uk])|(simp[uk])
 simp[o4,o5,o6,g0,g1,fw,wy,Du];cases e1:(aF l 0).known
 ·simp
 cases e2:(aF l 1).known
 ·simp
 simp[g1,fw,Du];rcases GD (op=7) with o7|o7
 ·subst o7;simp;refine⟨_,vw _,?_⟩;simp
 rcases GD (op=8) with o8|o8
 ·subst o8;simp;refine⟨_,vw _,?_⟩;simp
 simp[o7,o8];obtain⟨b1,b2⟩:=hb (h9 (by omega));refine⟨_,asE op _ _ b1 b2,?_⟩;simp;rfl
end Rm
namespace Rm
open Go Go.Proofs Cx
def aR:Nat→List Cell→Tm→Cell
 |0,_,_=>dA
 |L+1,cs,t=>if t.op=0∨t.op=1 then⟨true,t.n⟩ else if t.op=2 then fl cs t.n else
   if t.op=6∧(aF (t.args.map (aR L cs)) 0).known=true then aF (t.args.map (aR L cs)) (2-(aF (t.args.map (aR L cs)) 0).n).toNat else dL t.op (t.args.map (aR L cs))
def cq:Nat→List Cell→Tm→List Int
 |0,_,_=>[]
 |L+1,cs,t=>if t.op=0∨t.op=1 then[] else if t.op=2 then(if(fl cs t.n).known=true then[] else[t.n]) else
   if t.op=6∧(aF (t.args.map (aR L cs)) 0).known=true then(t.args.map (cq L cs)).getD (2-(aF (t.args.map (aR L cs)) 0).n).toNat [] else
   if(dL t.op (t.args.map (aR L cs))).known=true then[] else(t.args.map (cq L cs)).flatten
theorem wv (L:Nat)(cs:List Cell)(t:Tm):aR (L+1) cs t=if t.op=0∨t.op=1 then⟨true,t.n⟩ else if t.op=2 then fl cs t.n else
 if t.op=6∧(aF (t.args.map (aR L cs)) 0).known=true then aF (t.args.map (aR L cs)) (2-(aF (t.args.map (aR L cs)) 0).n).toNat else dL t.op (t.args.map (aR L cs)):=rfl
theorem AO (L:Nat)(cs:List Cell)(t:Tm):cq (L+1) cs t=if t.op=0∨t.op=1 then[] else if t.op=2 then(if(fl cs t.n).known=true then[] else[t.n]) else
 if t.op=6∧(aF (t.args.map (aR L cs)) 0).known=true then(t.args.map (cq L cs)).getD (2-(aF (t.args.map (aR L cs)) 0).n).toNat [] else
 if(dL t.op (t.args.map (aR L cs))).known=true then[] else(t.args.map (cq L cs)).flatten:=rfl
theorem zB {L:Nat}{t:Tm}{k:Int}(h:bI (L+1) t=(k,0)):(∀a,a∈t.args→(bI L a).2=0)∧xw t (t.args.map fun a=>(bI L a).1)=(k,0):=by
 rw[Na] at h;by_cases e:fQ t.args.length (fun k=>(bI L (t.args.getD k default)).2)=0
 ·rw[if_neg (by simpa using e)] at h;refine⟨fun a ha=>?_,h⟩;obtain⟨j,hj,rfl⟩:=nK ha;have:=XB.1 e j hj;simpa [hj] using this
 ·rw[if_pos e] at h;injection h with _ h
  exact absurd h e
inductive Node (ks:List Int) (t:Tm):Int→Prop where
 |int (h:t.op=0) (ha:t.args=[]) (hn:-1099511627776≤t.n∧t.n≤1099511627776):Node ks t 0
 |bool (h:t.op=1) (ha:t.args=[]) (hn:t.n=0∨t.n=1):Node ks t 1
 |var (h:t.op=2) (ha:t.args=[]) (hn:0≤t.n∧t.n≤19):Node ks t (lx t.n).1
 |not (h:t.op=3) (hk:ks=[1]):Node ks t 1
 |log (h:t.op=4∨t.op=5) (hk:ks=[1,1]):Node ks t 1
 |ite (k:Int) (h:t.op=6) (hk:ks=[1,k,k]):Node ks t k
 |less (h:t.op=7) (hk:ks=[0,0]):Node ks t 1
 |equal (k:Int) (h:t.op=8) (hk:ks=[k,k]):Node ks t 1
 |num (h:9≤t.op∧t.op≤13) (hk:ks=[0,0]):Node ks t 0
theorem avi (v:Int):(lx v).1=0∨(lx v).1=1:=by
 unfold lx;repeat' split
 all_goals simp
theorem apB {t:Tm}{ks:List Int}{k:Int}(hl:ks.length=t.args.length)(eP:∀x,x∈ks→x=0∨x=1)(h:xw t ks=(k,0)):Node ks t k:=by
 unfold xw at h;split at h
 ·injection h with _ h;cases h
 rename_i bQ;split at h
 ·rename_i h3;unfold ED at h;split at h
  ·injection h with _ h;cases h
  rename_i ha0;have ha:t.args=[]:=LU (by omega);split at h
  ·rename_i h0;split at h
   ·injection h with _ h;cases h
   ·rename_i hc;injection h with h _
    subst h;refine .int h0 ha ?_;unfold nY at hc;omega
  split at h
  ·rename_i h0;split at h
   ·injection h with _ h;cases h
   ·rename_i hc;injection h with h _
    subst h;exact .bool h0 ha (by omega)
  split at h
  ·injection h with _ h;cases h
  ·rename_i g0 g1 hc;injection h with h _
   subst h;refine .var (by omega) ha ?_;unfold lx at hc;split at hc
   ·simp at hc
   ·omega
 rename_i h3;split at h
 ·injection h with _ h;cases h
 rename_i hlen;have ox:ks.length=(fi t.op).1.length:=by
  refine vJ fun hh=>hlen (.inl hh)
 split at h
 ·injection h with _ h;cases h
 rename_i av;have je:∀j,j<(fi t.op).1.length→oH (fi t.op).1 ks j=true:=yC.1 (by simpa using av)
 have two:∀{n:Nat},ks.length=2→∃a b,ks=[a,b]:=fun h=>by
  match ks,h with
  |[a,b],_=>exact⟨a,b,rfl⟩
 by_cases o3:t.op=3
 ·have e:fi t.op=([1],1):=by simp[fi,o3]
  rw[e] at ox je h
  match ks,ox with
  |[a],_=>
   have:=je 0 (by simp);simp[oH] at this;simp at h;subst h this;exact .not o3 rfl
 by_cases JS:t.op=4∨t.op=5
 ·have e:fi t.op=([1,1],1):=by simp[fi,o3,JS]
  rw[e] at ox je h
  match ks,ox with
  |[a,b],_=>
   have t1:=je 0 (by simp);have t2:=je 1 (by simp);simp[oH] at t1 t2;simp at h;subst h t1 t2;exact .log JS rfl
 by_cases o6:t.op=6
 ·have e:fi t.op=([1,-1,-1],-1):=by simp[fi,o6]
  rw[e] at ox je h
  match ks,ox,eP with
  |[a,b,c],_,eP=>
   have t1:=je 0 (by simp);have t3:=je 2 (by simp);have hb:=eP b (by simp);have q9:¬b=-1:=by omega
   simp[oH] at t1;simp[oH,np,q9] at t3;simp[np,q9] at h;subst h t1 t3;exact .ite _ o6 rfl
 by_cases o7:t.op=7
 ·have e:fi t.op=([0,0],1):=by simp[fi,o7]
  rw[e] at ox je h
  match ks,ox with
  |[a,b],_=>
   have t1:=je 0 (by simp);have t2:=je 1 (by simp);simp[oH] at t1 t2;simp at h;subst h t1 t2;exact .less o7 rfl
 by_cases o8:t.op=8
 ·have e:fi t.op=([-1,-1],1):=by simp[fi,o8]
  rw[e] at ox je h
  match ks,ox,eP with
  |[a,b],_,eP=>
   have t2:=je 1 (by simp);have ha:=eP a (by simp);have han:¬a=-1:=by omega
   simp[oH,np,han] at t2;simp at h;subst h t2;exact .equal _ o8 rfl
 have e:fi t.op=([0,0],0):=by simp[fi,o3,JS,o6,o7,o8]
 rw[e] at ox je h
 match ks,ox with
 |[a,b],_=>
  have t1:=je 0 (by simp);have t2:=je 1 (by simp);simp[oH] at t1 t2;simp at h;subst h t1 t2;exact .num (by omega) rfl
theorem zC:∀{L:Nat} {t:Tm} {k:Int},bI (L+1) t=(k,0)→Node (t.args.map fun a=>(bI L a).1) t k∧(k=0∨k=1)
 |L,t,k,h=>by
  obtain⟨h1,h2⟩:=zB h
  have eP:∀x,x∈(t.args.map fun a=>(bI L a).1)→x=0∨x=1:=by
   intro x hx;obtain⟨a,ha,rfl⟩:=ei.1 hx;cases L with
   |zero=>exact .inl rfl
   |succ L=>exact(zC (L:=L) (t:=a) (k:=(bI (L+1) a).1) (by rw[←h1 a ha])).2
  have hn:=apB (by simp) eP h2;refine⟨hn,?_⟩;cases hn with
  |int=>simp
  |bool=>simp
  |var=>exact avi _
  |not=>simp
  |log=>simp
  |ite k _ hk=>exact eP k (by rw[hk];simp)
  |less=>simp
  |equal=>simp
  |num=>simp
end Rm
namespace Rm
open Go Go.Proofs Cx
def su (k:Int)(c:Cell):Prop:=(c.known=false→c=dA)∧(c.known=true→(k=1→c.n=0∨c.n=1)∧(k=0→-1099511627776≤c.n∧c.n≤1099511627776))
theorem vk (k:Int):su k dA:=⟨fun _=>rfl,fun h=>by cases h⟩
theorem BG (b:Bool):su 1 (dU b):=⟨fun h=>(by cases b<;>cases h),fun _=>⟨fun _=>(by cases b<;>simp[dU]),fun h=>by cases h⟩⟩
theorem Ng (n:Int):-1099511627776≤nY n∧nY n≤1099511627776:=by unfold nY;omega
theorem arV (cs:List Cell)(v:Int)(hv:0≤v∧v≤19):su (lx v).1 (fl cs v):=by
 unfold fl;split
 ·exact vk _
 ·split
  ·rename_i h;rw[h];exact BG _
  ·rename_i h;refine⟨fun h=>(by cases h),fun _=>⟨fun h'=>absurd h' h,fun _=>Ng _⟩⟩
theorem aqM (a b:Int):-1099511627776≤Bc a b∧Bc a b≤1099511627776:=by
 unfold Bc;have:=acz (a.natAbs*b.natAbs);split<;>omega
theorem agb (op a b:Int)(ha:-1099511627776≤a∧a≤1099511627776)(hb:-1099511627776≤b∧b≤1099511627776):-1099511627776≤yE op a b∧yE op a b≤1099511627776:=by
 unfold yE;split
 ·exact Ng _
 split
 ·exact Ng _
 split
 ·exact aqM _ _
 split<;>omega
theorem aag {α β:Type}{f:α→β}{l:List α}{x:β}(h:l.map f=[x]):∃a,l=[a]∧f a=x:=by
 match l,h with
 |[a],h=>exact⟨a,rfl,by simpa using h⟩
theorem xo {α β:Type}{f:α→β}{l:List α}{x y:β}(h:l.map f=[x,y]):∃a b,l=[a,b]∧f a=x∧f b=y:=by
 match l,h with
 |[a,b],h=>exact⟨a,b,rfl,by simpa using h⟩
theorem EI {α β:Type}{f:α→β}{l:List α}{x y z:β}(h:l.map f=[x,y,z]):∃a b c,l=[a,b,c]∧f a=x∧f b=y∧f c=z:=by
 match l,h with
 |[a,b,c],h=>exact⟨a,b,c,rfl,by simpa using h⟩
theorem Il:∀{L:Nat} {t:Tm} {k:Int} (cs:List Cell),bI L t=(k,0)→su k (aR L cs t)
 |0,t,k,cs,h=>vk _
 |L+1,t,k,cs,h=>by
  obtain⟨hn,hk⟩:=zC h;obtain⟨ha,_⟩:=zB h;have ih:∀a,a∈t.args→su (bI L a).1 (aR L cs a):=fun a hm=>Il cs (show bI L a=((bI L a).1,0) by rw[←ha a hm]);rw[wv];cases hn with
  |int h0 ha hn=>rw[if_pos (.inl h0)];exact⟨fun h=>(by cases h),fun _=>⟨fun h=>(by cases h),fun _=>hn⟩⟩
  |bool h0 ha hn=>rw[if_pos (.inr h0)];exact⟨fun h=>(by cases h),fun _=>⟨fun _=>hn,fun h=>by cases h⟩⟩
  |var h0 ha hn=>rw[if_neg (by omega),if_pos h0];exact arV cs _ hn
  |not h0 hk=>
   rw[if_neg (by omega),if_neg (by omega),if_neg (by omega)];unfold dL;rw[if_pos h0];split
   ·exact BG _
   ·exact vk _
  |log h0 hk=>
   rw[if_neg (by omega),if_neg (by omega),if_neg (by omega)];unfold dL;rw[if_neg (by omega)];split
   ·exact BG _
   rw[if_neg (by omega)];split
   ·exact vk _
   exact BG _
  |ite k h0 cm=>
   obtain⟨a,b,c,hl,e1,e2,e3⟩:=EI cm;rw[hl] at ih ⊢;have r1:=ih a (by simp);have r2:=ih b (by simp);have r3:=ih c (by simp);rw[e1] at r1;rw[e2] at r2;rw[e3] at r3;rw[if_neg (by omega),if_neg (by omega)];simp only[gk,yz,aF,nJ];split
   ·rename_i hh;rcases(r1.2 hh.2).1 rfl with h1|h1<;>rw[h1]
    ·exact r3
    ·exact r2
   ·unfold dL;rw[if_neg (by omega),if_neg (by omega),if_pos h0];simp only[aF,nJ,sm];split
    ·exact r2
    ·exact vk _
  |less h0 hk=>
   rw[if_neg (by omega),if_neg (by omega),if_neg (by omega)];unfold dL;rw[if_neg (by omega),if_neg (by omega),if_neg (by omega)];split
   ·exact vk _
   repeat' split
   all_goals exact BG _
  |equal k h0 hk=>
   rw[if_neg (by omega),if_neg (by omega),if_neg (by omega)];unfold dL;rw[if_neg (by omega),if_neg (by omega),if_neg (by omega)];split
   ·exact vk _
   repeat' split
   all_goals exact BG _
  |num h0 cm=>
   obtain⟨a,b,hl,e1,e2⟩:=xo cm;rw[hl] at ih ⊢;have r1:=ih a (by simp);have r2:=ih b (by simp);rw[e1] at r1;rw[e2] at r2;rw[if_neg (by omega),if_neg (by omega),if_neg (by omega)];unfold dL;rw[if_neg (by omega),if_neg (by omega),if_neg (by omega)];simp only[gk,yz,aF,nJ,sm];split
   ·exact vk _
   rename_i p7;rw[if_neg (by omega),if_neg (by omega),if_neg (by omega)];have k1:(aR L cs a).known=true:=by
    cases e:(aR L cs a).known with
    |true=>rfl
    |false=>exact absurd (.inl e) p7
   have k2:(aR L cs b).known=true:=by
    cases e:(aR L cs b).known with
    |true=>rfl
    |false=>exact absurd (.inr e) p7
   exact⟨fun h=>(by cases h),fun _=>⟨fun h=>(by cases h),fun _=>agb _ _ _ ((r1.2 k1).2 rfl) ((r2.2 k2).2 rfl)⟩⟩
theorem JO:∀(L:Nat) (cs:List Cell) (t:Tm),cJ L t≤60→((cq L cs t).length:Int)≤cJ L t
 |0,cs,t,h=>by simp[cJ] at h
 |L+1,cs,t,h=>by
  have h1:=xt (L+1) t;obtain⟨hl,hp⟩:=JI h;have hs:∀(l:List Tm) (n:Int),(∀a,a∈l→cJ L a≤60)→fX (cJ L) l n≤60→((l.map (cq L cs)).flatten.length:Int)+n≤fX (cJ L) l n∧∀j,(((l.map (cq L cs)).getD j []).length:Int)+n≤fX (cJ L) l n:=by
   intro l
   induction l with
   |nil=>intro n _ _;simp[fX]
   |cons a l ih=>
    intro n hp hm;have ha:=JO L cs a (hp a (by simp));unfold fX at hm ⊢;split at hm
    ·omega
    ·rename_i h60;rw[if_neg h60];obtain⟨i1,i2⟩:=ih (n+cJ L a) (fun b hb=>hp b (by simp[hb])) hm;refine⟨by rw[gk,GH,kL];omega,fun j=>?_⟩;cases j with
     |zero=>simp;omega
     |succ j=>have:=i2 j;simp at this ⊢;omega
  obtain⟨qf,eU⟩:=hs t.args 1 hp h;rw[AO];split
  ·simp;omega
  split
  ·split<;>simp<;>omega
  split
  ·have:=eU (2-(aF (t.args.map (aR L cs)) 0).n).toNat;show _≤fX _ _ _;omega
  split
  ·simp;omega
  ·show _≤fX _ _ _;omega
@[simp] theorem aBN (x y:List Int):vu (ints x) 0 (ints y)=ints y:=_root_.id rfl
@[simp] theorem asr (x y:Cell):vu (cP x) 0 (cP y)=cP y:=_root_.id rfl
@[simp] theorem aAs (a b:List Int):D.list (a.map D.int++b.map D.int)=ints (a++b):=by simp[ints]
def lists (l:List (List Int)):D:=.list (l.map ints)
@[simp] theorem aAE (l:List (List Int)):(lists l).l=l.map ints:=_root_.id rfl
theorem afq (l:List (List Int))(hl:l.length≤1000)(hs:l.flatten.length≤1000000):ak T1 156 [lists l] (ints l.flatten):=by
 refine .of_tree rfl ags aur ?_;simp[UC];have hb:∀k,(l.take k).flatten.length≤l.flatten.length:=by
  intro k
  conv=>rhs;rw[←L4 k l]
  rw[List.flatten_append,kL];omega
 have bu:∀k (hk:k<l.length),(l.take (k+1)).flatten=(l.take k).flatten++l[k]:=fun k hk=>by
  rw[mV hk,List.flatten_append];simp
 refine aP.forRounds l.length (fun k=>[.int ((l.take k).flatten.length:Nat),.int k]) (fun k=>[]) ?_ (fun k hk=>?_) ?_
 ·simp
 ·have hw:=bp hk (by omega);have h1:=bu k hk;have h2:=hb (k+1);rw[h1] at h2 ⊢;rw[kL] at h2 ⊢;generalize (l.take k).flatten.length=m at*;have sZ:IntKind.i64.wrap ((m:Int)+(l[k].length:Int))=(m:Int)+l[k].length:=bU (by omega);have D7:¬((m:Int)+l[k].length<0):=by omega
  simp[adx,KY,hk,hw,sZ,D7]
 ·simp[adx,KY];have Yx:ak T1 180 [.list [],.int (l.flatten.length:Nat)] (.list []):=by
   refine .of_ext (g:=fun _ ds=>zW ds) rfl ⟨0,fun _ _=>?_⟩;show(if(0:Int)≤(l.flatten.length:Nat)∧((l.flatten.length:Nat):Int)≤4294967296 then some (D.list []) else none)=some (D.list []);rw[if_pos (by omega)]
  rw[List.length_flatten] at Yx;refine⟨_,Yx,?_⟩;refine aP.forRounds l.length (fun k=>[.none,.int k]) (fun k=>[ints (l.take k).flatten]) ?_ (fun k hk=>?_) ?_
  ·simp[ints]
  ·have hw:=bp hk (by omega);have h1:=bu k hk;have h2:=hb (k+1);rw[h1] at h2 ⊢;rw[kL] at h2;generalize (l.take k).flatten=m at*;simp[ady,KZ,hk,hw];omega
  ·simp[ady,KZ]
theorem ahv {op:Int}{l:List Cell}(h:(dL op l).known=false):dL op l=dA:=by
 have hy:∀b,(dU b).known=true:=fun b=>by cases b<;>simp[dU]
 unfold dL at h ⊢;split<;>rename_i c1
 ·rw[if_pos c1] at h;split<;>rename_i c2
  ·rw[if_pos c2,hy] at h;cases h
  ·rfl
 rw[if_neg c1] at h;split<;>rename_i c2
 ·rw[if_pos c2,hy] at h;cases h
 rw[if_neg c2] at h;split<;>rename_i c3
 ·rw[if_pos c3] at h;split<;>rename_i c4
  ·rw[if_pos c4,c4.1] at h;cases h
  ·rfl
 rw[if_neg c3] at h;split<;>rename_i c4
 ·rfl
 rw[if_neg c4] at h
 repeat' split at h
 all_goals first|(rw[hy] at h;cases h)|cases h
theorem SY:∀(L:Nat) (cs:List Cell) (t:Tm) (k:Int),t.OK→cJ L t≤60→bI L t=(k,0)→ak T1 116 [Ii cs,du t] (.tup [cP (aR L cs t),ints (cq L cs t)])
 |0,cs,t,k,ht,hm,hc=>by simp[cJ] at hm
 |L+1,cs,t,k,ht,hm,hc=>by
  refine .of_tree rfl agx auQ ?_;obtain⟨hl,hp⟩:=JI hm;obtain⟨ha,_⟩:=zB hc;obtain⟨hn,az2⟩:=zC hc;have gJ:∀a,a∈t.args→ak T1 116 [Ii cs,du a] (.tup [cP (aR L cs a),ints (cq L cs a)]):=fun a dE=>SY L cs a (bI L a).1 (ht.arg dE) (hp a dE) (by rw[←ha a dE]);have wW:∀a,a∈t.args→su (bI L a).1 (aR L cs a):=fun a dE=>Il cs (show bI L a=((bI L a).1,0) by rw[←ha a dE]);have YT:∀a,a∈t.args→(cq L cs a).length≤60:=fun a dE=>by have:=JO L cs a (hp a dE);have:=hp a dE;omega
  by_cases eP:t.op=0∨t.op=1
  ·
   have e1:aR (L+1) cs t=⟨true,t.n⟩:=by rw[wv,if_pos eP]
   have e2:cq (L+1) cs t=[]:=by rw[AO,if_pos eP]
   rw[e1,e2];rcases eP with h|h<;>simp[Gt,h]<;>exact⟨rfl,rfl⟩
  have o0:t.op≠0:=fun h=>eP (.inl h);have o1:t.op≠1:=fun h=>eP (.inr h);by_cases o2:t.op=2
  ·have hv:0≤t.n:=by
    cases hn with
    |var h0 ha hn=>exact hn.1
    |_=>omega
   have e1:aR (L+1) cs t=fl cs t.n:=by rw[wv,if_neg eP,if_pos o2]
   have e2:cq (L+1) cs t=if(fl cs t.n).known=true then[] else[t.n]:=by rw[AO,if_neg eP,if_pos o2]
   rw[e1,e2];simp[Gt,o2];refine⟨_,asL cs t.n hv,?_⟩;cases e:(fl cs t.n).known
   ·have:fl cs t.n=dA:=by
     unfold fl at e ⊢;split
     ·rfl
     ·rename_i h;rw[if_neg h] at e;split at e
      ·cases hb:decide ((cellAt cs t.n).n≠0)<;>rw[hb] at e<;>cases e
      ·cases e
    rw[this];simp[ints]
   ·have h:fl cs t.n=⟨true,(fl cs t.n).n⟩:=by rw[←e]
    rw[h];simp[ints]
    try rfl
  have hlen:1≤t.args.length∧(t.op≠3→2≤t.args.length)∧(t.op=6→3≤t.args.length):=by
   cases hn with
   |int h0 ha hn=>omega
   |bool h0 ha hn=>omega
   |var h0 ha hn=>omega
   |not h0 hk=>obtain⟨a,hl,_⟩:=aag hk;rw[hl];simp;omega
   |log h0 hk=>obtain⟨a,b,hl,_⟩:=xo hk;rw[hl];simp;omega
   |ite k h0 hk=>obtain⟨a,b,c,hl,_⟩:=EI hk;rw[hl];simp
   |less h0 hk=>obtain⟨a,b,hl,_⟩:=xo hk;rw[hl];simp;omega
   |equal k h0 hk=>obtain⟨a,b,hl,_⟩:=xo hk;rw[hl];simp;omega
   |num h0 hk=>obtain⟨a,b,hl,_⟩:=xo hk;rw[hl];simp;omega
  have N3:9≤t.op→(-1099511627776≤(aF (t.args.map (aR L cs)) 0).n∧(aF (t.args.map (aR L cs)) 0).n≤1099511627776)∧(-1099511627776≤(aF (t.args.map (aR L cs)) 1).n∧(aF (t.args.map (aR L cs)) 1).n≤1099511627776):=by
   intro h9;have rb:∀c:Cell,su 0 c→-1099511627776≤c.n∧c.n≤1099511627776:=by
    intro c hr;cases e:c.known with
    |false=>rw[hr.1 e];simp
    |true=>exact(hr.2 e).2 rfl
   cases hn with
   |num h0 hk=>
    obtain⟨a,b,hl,ea,eb⟩:=xo hk;rw[hl] at wW ⊢;have r1:=wW a (by simp);have r2:=wW b (by simp);rw[ea] at r1;rw[eb] at r2;exact⟨rb _ r1,rb _ r2⟩
   |log h0 hk=>omega
   |_=>omega
  have h6:t.op=6→(aF (t.args.map (aR L cs)) 0).known=true→(aF (t.args.map (aR L cs)) 0).n=0∨(aF (t.args.map (aR L cs)) 0).n=1:=by
   intro o6 p7;cases hn with
   |ite k h0 hk=>
    obtain⟨a,b,c,hl,ea,_⟩:=EI hk;rw[hl] at wW p7 ⊢;have r1:=wW a (by simp);rw[ea] at r1;exact(r1.2 p7).1 rfl
   |log h0 hk=>omega
   |num h0 hk=>omega
   |_=>omega
  have bQ:t.op<3∨8<t.op→9≤t.op:=by
   cases hn with
   |log h0 hk=>omega
   |num h0 hk=>omega
   |_=>omega
  have e1:aR (L+1) cs t=if t.op=6∧(aF (t.args.map (aR L cs)) 0).known=true then aF (t.args.map (aR L cs)) (2-(aF (t.args.map (aR L cs)) 0).n).toNat else dL t.op (t.args.map (aR L cs)):=by
   rw[wv,if_neg eP,if_neg o2]
  have e2:cq (L+1) cs t=if t.op=6∧(aF (t.args.map (aR L cs)) 0).known=true then(t.args.map (cq L cs)).getD (2-(aF (t.args.map (aR L cs)) 0).n).toNat [] else if(dL t.op (t.args.map (aR L cs))).known=true then[] else(t.args.map (cq L cs)).flatten:=by
   rw[AO,if_neg eP,if_neg o2]
  rw[e1,e2];simp[Gt,o0,o1,o2];refine⟨by omega,?_⟩;refine aP.forRounds t.args.length (fun k=>[.int k]) (fun k=>[cells ((t.args.map (aR L cs)).take k++List.replicate (t.args.length-k) dA),lists ((t.args.map (cq L cs)).take k++List.replicate (t.args.length-k) [])]) ?_ (fun k hk=>?_) ?_
  ·simp[cells,lists,ints]
  ·have hw:=bp hk (by omega);have dg:=cS hk;have hr:=gJ _ dg;have s1:=SN (t.args.map (aR L cs)) dA (n:=t.args.length) (by simp) hk;have s2:=SN (t.args.map (cq L cs)) [] (n:=t.args.length) (by simp) hk;rw[←s1,←s2];have l1:((t.args.map (aR L cs)).take k++List.replicate (t.args.length-k) dA).length=t.args.length:=by simp;omega
   have l2:((t.args.map (cq L cs)).take k++List.replicate (t.args.length-k) []).length=t.args.length:=by simp;omega
   have g1:(t.args.map (aR L cs))[k]'(by simpa using hk)=aR L cs t.args[k]:=by simp
   have g2:(t.args.map (cq L cs))[k]'(by simpa using hk)=cq L cs t.args[k]:=by simp
   rw[g1,g2];generalize (t.args.map (aR L cs)).take k++List.replicate (t.args.length-k) dA=A at*;generalize (t.args.map (cq L cs)).take k++List.replicate (t.args.length-k) []=B at*;generalize aR L cs t.args[k]=c at*;generalize cq L cs t.args[k]=d at*;simp[Ss,F6,hk];refine⟨_,hr,?_⟩;simp[hw,hk,l1,l2,cells,lists]
  ·have hA:(t.args.map (aR L cs)).take t.args.length++List.replicate (t.args.length-t.args.length) dA=t.args.map (aR L cs):=by rw[L6,List.replicate_zero,lz,B8 (by simp)]
   have hB:(t.args.map (cq L cs)).take t.args.length++List.replicate (t.args.length-t.args.length) []=t.args.map (cq L cs):=by rw[L6,List.replicate_zero,lz,B8 (by simp)]
   have lA:(t.args.map (aR L cs)).length=t.args.length:=by simp
   have lB:(t.args.map (cq L cs)).length=t.args.length:=by simp
   have jz:∀l:List Tm,(∀a,a∈l→a∈t.args)→((l.map (cq L cs)).flatten.length≤l.length*60):=by
    intro l
    induction l with
    |nil=>intro _;simp
    |cons a l ih=>
     intro h;have h1:=YT a (h a (by simp));have h2:=ih (fun b hb=>h b (by simp[hb]));rw[gk,GH,kL,nL];omega
   have jz:=jz t.args (fun a h=>h);have hBg:∀m:Nat,(Option.map (cq L cs) t.args[m]?).getD []=(t.args.map (cq L cs)).getD m []:=fun m=>by simp[aJ]
   rw[hA,hB];generalize t.args.map (aR L cs)=A at*;generalize t.args.map (cq L cs)=B at*;have g0:0<A.length:=by omega
   have wy:A[0]=aF A 0:=by simp[aF,g0]
   by_cases ID:t.op=6∧(aF A 0).known=true
   ·obtain⟨o6,kn⟩:=ID;have hv:=h6 o6 kn;have hw:IntKind.i64.wrap (2-(aF A 0).n)=2-(aF A 0).n:=bU (by omega);have h3:3≤t.args.length:=hlen.2.2 o6;rw[if_pos ⟨o6,kn⟩,if_pos ⟨o6,kn⟩];obtain⟨m,dE⟩:∃m:Nat,m=(2-(aF A 0).n).toNat:=⟨_,rfl⟩
    have D3:m<A.length:=by omega
    have Ov:m<B.length:=by omega
    simp[Ss,F6,o6,kn,g0,wy,hw,←dE,D3,Ov,cells,lists];refine⟨by omega,by omega,by simp[aF,D3],?_⟩;rw[hBg,aJ,bA Ov];rfl
   ·rw[if_neg ID,if_neg ID];have alc:=asF t.op A (by omega) (by omega) (by omega) N3 bQ;have ale:=afq B (by omega) (by omega);simp[Ss,F6,g0,wy];rw[if_neg ID];refine⟨_,alc,?_⟩;cases e:(dL t.op A).known
    ·have eI:dL t.op A=dA:=ahv e;rw[eI];simp;exact ale
    ·have h:dL t.op A=⟨true,(dL t.op A).n⟩:=by rw[←e]
     rw[h];simp[ints]
     try rfl
theorem asJ (L:Nat)(cs:List Cell)(t:Tm)(k:Int)(h1:t.OK)(h2:cJ L t≤60)(h3:bI L t=(k,0)):ak T 116 [Ii cs,du t] (.tup [cP (aR L cs t),ints (cq L cs t)]):=SK rfl (SY L cs t k h1 h2 h3)
end Rm
namespace Rm
open Go Go.Proofs Cx
def nm (n:Nat)(g:Nat→Bool):Int:=if(List.range n).findIdx g<n then((List.range n).findIdx g:Nat) else-1
theorem EB (n:Nat)(g:Nat→Bool):(nm n g=-1∧∀k,k<n→g k=false)∨∃k:Nat,k<n∧nm n g=k∧g k=true∧∀i,i<k→g i=false:=by
 unfold nm;split
 ·rename_i h;refine .inr ⟨_,h,rfl,?_,fun i hi=>?_⟩
  ·have:=List.findIdx_getElem (p:=g) (xs:=List.range n) (w:=by simpa using h);simpa using this
  ·have:=List.not_of_lt_findIdx (p:=g) (xs:=List.range n) hi;simpa using this
 ·rename_i h;refine .inl ⟨rfl,fun k hk=>?_⟩;have:=List.not_of_lt_findIdx (p:=g) (xs:=List.range n) (i:=k) (by omega);simpa using this
theorem PB {n:Nat}{g:Nat→Bool}(h:∀k,k<n→g k=false):nm n g=-1:=by
 rcases EB n g with⟨h1,_⟩|⟨k,hk,_,h2,_⟩
 ·exact h1
 ·rw[h k hk] at h2;cases h2
theorem PD {n k:Nat}{g:Nat→Bool}(hk:k<n)(h:g k=true)(hj:∀i,i<k→g i=false):nm n g=k:=by
 rcases EB n g with⟨_,h1⟩|⟨m,hm,h1,h2,h3⟩
 ·rw[h1 k hk] at h;cases h
 ·rcases Nat.lt_trichotomy m k with h4|h4|h4
  ·rw[hj m h4] at h2;cases h2
  ·rw[h1,h4]
  ·rw[h3 k h4] at h;cases h
theorem ZT (n:Nat)(g:Nat→Bool):decide (0≤nm n g)=(List.range n).any g:=by
 rcases EB n g with⟨h1,h2⟩|⟨m,hm,h1,h2,h3⟩
 ·rw[h1]
  symm
  simp;exact h2
 ·rw[h1];simp;exact⟨m,hm,h2⟩
theorem afx (l:List Rule)(f:Nat)(caps:List D)(g:Nat→Bool)(hg:∀k (hk:k<l.length),ak T f (sJ l[k]::caps) (.bool (g k)))(hl:l.length≤4294967296):
 ak T 113 [rules l,.clo f caps] (.int (nm l.length g)):=by
 refine .of_tree rfl (lA 30 (by kernel_rfl)) auy ?_;simp[UI];refine .scan l.length (fun k=>g k=false) (fun k=>[.int 0,.int k]) (fun _=>[]) ?_ (fun k hk hj ho=>?_) (fun k hk hj ho=>?_) (fun hj=>?_)
 ·simp
 ·have hw:=bp hk hl;simp[Sl,F1,hk,hw];refine⟨_,_,⟨rfl,rfl⟩,_,hg k hk,?_⟩;simp[ho,hw]
 ·have he:=PD hk (by simpa using ho) hj;simp[Sl,F1,hk,he];refine⟨_,_,⟨rfl,rfl⟩,_,hg k hk,?_⟩;simp[ho]
 ·have he:=PB hj;simp[Sl,F1,he]
theorem afy (l:List Int)(f:Nat)(caps:List D)(g:Nat→Bool)(hg:∀k (hk:k<l.length),ak T f (.int l[k]::caps) (.bool (g k)))(hl:l.length≤4294967296):
 ak T 173 [ints l,.clo f caps] (.int (nm l.length g)):=by
 refine .of_tree rfl (lA 25 (by kernel_rfl)) auz ?_;simp[UJ];refine .scan l.length (fun k=>g k=false) (fun k=>[.int 0,.int k]) (fun _=>[]) ?_ (fun k hk hj ho=>?_) (fun k hk hj ho=>?_) (fun hj=>?_)
 ·simp
 ·have hw:=bp hk hl;simp[Sm,F2,hk,hw,ints];refine⟨_,_,⟨rfl,rfl⟩,_,hg k hk,?_⟩;simp[ho,hw]
 ·have he:=PD hk (by simpa using ho) hj;simp[Sm,F2,hk,he,ints];refine⟨_,_,⟨rfl,rfl⟩,_,hg k hk,?_⟩;simp[ho]
 ·have he:=PB hj;simp[Sm,F2,he,ints]
theorem afw (l:List Alter)(f:Nat)(caps:List D)(g:Nat→Bool)(hg:∀k (hk:k<l.length),ak T f (pP l[k]::caps) (.bool (g k)))(hl:l.length≤4294967296):
 ak T 104 [alters l,.clo f caps] (.int (nm l.length g)):=by
 refine .of_tree rfl (lA 13 (by kernel_rfl)) auw ?_;simp[UH];refine .scan l.length (fun k=>g k=false) (fun k=>[.int 0,.int k]) (fun _=>[]) ?_ (fun k hk hj ho=>?_) (fun k hk hj ho=>?_) (fun hj=>?_)
 ·simp
 ·have hw:=bp hk hl;simp[Sk,F0,hk,hw];refine⟨_,_,⟨rfl,rfl⟩,_,hg k hk,?_⟩;simp[ho,hw]
 ·have he:=PD hk (by simpa using ho) hj;simp[Sk,F0,hk,he];refine⟨_,_,⟨rfl,rfl⟩,_,hg k hk,?_⟩;simp[ho]
 ·have he:=PB hj;simp[Sk,F0,he]
theorem afs (l:List Int)(f:Nat)(caps:List D)(g:Nat→Bool)(hg:∀k (hk:k<l.length),ak T f (.int l[k]::caps) (.bool (g k)))(hl:l.length≤4294967296):
 ak T 150 [ints l,.clo f caps] (.bool ((List.range l.length).any g)):=by
 refine .of_tree rfl (lA 24 (by kernel_rfl)) aut ?_;simp[UE];refine⟨_,afy l f caps g hg hl,?_⟩;have:=ZT l.length g;simp[←this]
theorem afr (l:List Alter)(f:Nat)(caps:List D)(g:Nat→Bool)(hg:∀k (hk:k<l.length),ak T f (pP l[k]::caps) (.bool (g k)))(hl:l.length≤4294967296):
 ak T 55 [alters l,.clo f caps] (.bool ((List.range l.length).any g)):=by
 refine .of_tree rfl (lA 12 (by kernel_rfl)) aus ?_;simp[UD];refine⟨_,afw l f caps g hg hl,?_⟩;have:=ZT l.length g;simp[←this]
def mY (cs:List Cell)(t:Tm):Cell:=if(ke t).2=0 then aR 8 cs t else dA
theorem zA {t:Tm}(h:(ke t).2=0):cJ 8 t≤60∧bI 8 t=((ke t).1,0):=by
 unfold ke at h ⊢;split at h
 ·cases h
 ·rename_i hm;rw[if_neg hm];exact⟨by omega,by rw[←h]⟩
theorem asB (t:Tm)(cs:List Cell)(ht:t.OK):ak T 72 [du t,cells cs] (cP (mY cs t)):=by
 refine .of_tree rfl (lA 36 (by kernel_rfl)) auJ ?_;simp[UT,mY];refine⟨_,SV t ht,?_⟩;by_cases h:(ke t).2=0
 ·obtain⟨h1,h2⟩:=zA h;simp[h];refine⟨_,asJ 8 cs t _ ht h1 h2,?_⟩;simp
  try rfl
 ·simp[h]
  try rfl
def P7:List Int:=[6,7,10,12,13,14,15,16,20,21]
def nE (ask:Int):Int×Bool:=if ask<0∨22≤ask then(0,false) else if hasB P7 ask then(0,true) else(1,true)
theorem QO (ask:Int):ak T 69 [.int ask] (.tup [.int (nE ask).1,.bool (nE ask).2]):=by
 refine .of_tree rfl (lA 18 (by kernel_rfl)) ato ?_;simp[TE,nE];by_cases h0:ask<0
 ·simp[h0]
 by_cases h1:22≤ask
 ·simp[h0,h1]
 simp[h0,h1];refine⟨_,vK P7 ask (by decide),?_⟩;cases h:hasB P7 ask<;>simp[h]
def JP:Tm:=⟨0,0,[]⟩
def vl (o:Order)(ask:Int)(k:Nat):Bool:=decide ((o.rules.getD k default).ask=ask)
def Ge (o:Order)(i:Int):Tm:=(o.rules.getD i.toNat default).term
def findF (o:Order)(ask:Int):Tm×Int:=
 if(nE ask).2=false then(JP,1) else if nm o.rules.length (vl o ask)<0 then(JP,4) else
    if(ke (Ge o (nm o.rules.length (vl o ask)))).2≠0∨(ke (Ge o (nm o.rules.length (vl o ask)))).1≠(nE ask).1 then(JP,11) else(Ge o (nm o.rules.length (vl o ask)),0)
theorem adX {o:Order}(ho:o.OK){m:Nat}(hm:m<o.rules.length):o.rules[m].term.OK:=(ho.2.2 _ (cS hm)).2
theorem P6:JP.OK:=by
 exact .mk 0 0 [] (by unfold aW;omega) (by unfold aW;omega) (by decide) (fun _ h=>by cases h)
theorem Xy {o:Order}(ho:o.OK)(ask:Int):(findF o ask).1.OK:=by
 unfold findF;split
 ·exact P6
 split
 ·exact P6
 split
 ·exact P6
 ·rename_i h _;rcases EB o.rules.length (vl o ask) with⟨h1,h2⟩|⟨m,hm,h1,h2,h3⟩
  ·exact absurd (by rw[h1];decide) h
  ·rw[h1];simp[Ge,hm];exact adX ho hm
theorem ai1 (r:Rule)(ask:Int):ak T 114 [sJ r,.ref (.int ask)] (.bool (decide (r.ask=ask))):=by
 refine .of_tree rfl (lA 29 (by kernel_rfl)) atp ?_;simp[TG]
theorem aci (o:Order)(ask:Int)(ho:o.OK)(hl:o.rules.length≤4294967296):ak T 71 [iZ o,.int ask] (.tup [du (findF o ask).1,.int (findF o ask).2]):=by
 refine .of_tree rfl (lA 28 (by kernel_rfl)) atq ?_;simp[TF,findF];refine⟨_,QO ask,?_⟩;cases h0:(nE ask).2
 ·simp[h0]
  try rfl
 simp[h0];refine⟨_,afx o.rules 114 [.ref (.int ask)] (vl o ask) (fun k hk=>by simpa [vl,hk] using ai1 o.rules[k] ask) hl,?_⟩;rcases EB o.rules.length (vl o ask) with⟨h1,h2⟩|⟨m,hm,h1,h2,h3⟩
 ·rw[h1];simp
  try rfl
 ·rw[h1];have D7:¬((m:Int)<0):=by omega
  have htm:o.rules[m].term.OK:=adX ho hm;simp[hm,Ge,D7];refine⟨_,SV _ htm,?_⟩;by_cases h4:(ke o.rules[m].term).2=0<;>by_cases h5:(ke o.rules[m].term).1=(nE ask).1<;>simp[h4,h5]<;>try rfl
def mc (o:Order)(ask:Int)(cs:List Cell):Cell×Int:=
 if(findF o ask).2≠0 then(dA,(findF o ask).2) else
    (if(nE ask).1=0∧(mY cs (findF o ask).1).known=true then⟨true,min (max (mY cs (findF o ask).1).n 0) 20000⟩ else mY cs (findF o ask).1,0)
theorem aqk (o:Order)(ask:Int)(cs:List Cell)(ho:o.OK)(hl:o.rules.length≤4294967296):ak T 34 [iZ o,.int ask,cells cs] (.tup [cP (mc o ask cs).1,.int (mc o ask cs).2]):=by
 refine .of_tree rfl (lA 27 (by kernel_rfl)) atm ?_;simp[TC];refine⟨_,aci o ask ho hl,?_⟩;have hf:(findF o ask).1.OK:=Xy ho ask;by_cases h:(findF o ask).2=0
 ·simp[h,mc];refine⟨_,asB _ cs hf,_,QO ask,?_⟩;generalize mY cs (findF o ask).1=c;obtain⟨kn,n⟩:=c;by_cases h1:(nE ask).1=0
  ·cases kn
   ·simp[h1,cP]
   ·by_cases h2:n<0
    ·have:min (max n 0) 20000=0:=by omega
     simp[h1,cP,h2,this];rfl
    ·by_cases h3:20000<n
     ·have:min (max n 0) 20000=20000:=by omega
      simp[h1,cP,h2,h3,this];rfl
     ·have:min (max n 0) 20000=n:=by omega
      simp[h1,cP,h2,h3,this];rfl
  ·simp[h1,cP]
 ·simp[h,mc]
  try rfl
end Rm
namespace Rm
open Go Go.Proofs Cx
theorem adH (b:Bool):ak T 58 [.bool b] (cP (dU b)):=by
 refine .of_tree rfl (lA 16 (by kernel_rfl)) aup ?_;cases b<;>simp[UA,dU]<;>rfl
def fP (kind sign:Int)(x:Fact):Bool:=decide (x.kind=kind)&&decide (x.at_=sign)
def bJ (f:File)(kind sign:Int):Cell:=match f.facts.find? (fP kind sign) with|none=>dA|some x=>dU (decide (x.n≠0))
theorem zP {α:Type}{p:α→Bool}:∀{l:List α} {k:Nat} (hk:k<l.length),p l[k]=true→(∀j (hj:j<k),p (l[j]'(by omega))=false)→l.find? p=some l[k]
 |a::l,0,hk,h,hj=>by simp at h;simp[h]
 |a::l,k+1,hk,h,hj=>by
  have h0:=hj 0 (by omega);simp at h0;simp only[LX,h0,List.getElem_cons_succ];exact zP (by simpa using hk) (by simpa using h) (fun j bE=>by simpa using hj (j+1) (by omega))
theorem Dj {α:Type}{p:α→Bool}{l:List α}(h:∀j (hj:j<l.length),p l[j]=false):l.find? p=none:=by
 rw[vN];intro x hx;obtain⟨j,hj,rfl⟩:=nK hx;rw[h j hj];decide
theorem Ga (f:File)(kind sign:Int)(hl:f.facts.length≤4294967296):ak T 59 [cZ f,.int kind,.int sign] (cP (bJ f kind sign)):=by
 refine .of_tree rfl (lA 17 (by kernel_rfl)) aul ?_;simp[Ux];refine .scan f.facts.length (fun k=>fP kind sign (f.facts.getD k default)=false) (fun k=>[.int k]) (fun _=>[cP dA]) ?_ (fun k hk hj ho=>?_) (fun k hk hj ho=>?_) (fun hj=>?_)
 ·simp
 ·have hw:=bp hk hl;simp[hk,fP] at ho;by_cases h1:f.facts[k].kind=kind<;>by_cases h2:f.facts[k].at_=sign
  ·exact absurd h2 (ho h1)
  all_goals simp[Sf,FX,hk,hw,h1,h2]
 ·have hw:=bp hk hl;have hf:bJ f kind sign=dU (decide (f.facts[k].n≠0)):=by
   unfold bJ;rw[zP hk (by simpa [hk] using ho) (fun j bE=>by have:=hj j bE;simpa [show j<f.facts.length by omega] using this)]
  simp[hk,fP] at ho;simp[Sf,FX,hk,hw,ho,hf];refine⟨_,adH _,?_⟩;simp
  try rfl
 ·have hf:bJ f kind sign=dA:=by
   unfold bJ;rw[Dj (fun j bE=>by have:=hj j bE;simpa [bE] using this)]
  simp[Sf,FX,hf]
  try rfl
def gN (r:Realm)(c:Int):Int:=if aC c r.cities.length=true then(r.cities.getD c.toNat default).order else-1
theorem qz (r:Realm)(c:Int):ak T 57 [bk r,.int c] (.int (gN r c)):=by
 refine .of_tree rfl (lA 14 (by kernel_rfl)) at6 ?_;simp[Uk,gN];refine⟨_,gd c r.cities.length,?_⟩;cases h:aC c r.cities.length
 ·simp[h]
 ·simp[aC] at h;have h1:c.toNat<r.cities.length:=by omega
  simp[h,h1]
def kF (day:Int)(l:List Sign):List Sign:=l.takeWhile fun s=>decide (s.day≤day)
def upA (day:Int)(l:List Act):List Act:=l.takeWhile fun s=>decide (s.day≤day)
def qQ (n:Nat)(a:Alter):Bool:=decide (a.at_≤(n:Int))
def lF (n:Nat)(x:Fact):Bool:=aC x.at_ n
def dY (f:File)(day:Int):File:=
 ⟨f.bill,kF day f.signs,f.alters.filter (qQ (kF day f.signs).length),upA day f.acts,f.facts.filter (lF (kF day f.signs).length)⟩
theorem LK {α:Type}(p:α→Bool):∀(l:List α),∃m,m≤l.length∧l.takeWhile p=l.take m∧(∀k (hk:k<l.length),k<m→p l[k]=true)∧(∀hk:m<l.length,p l[m]=false)
 |[]=>⟨0,by simp,by simp,fun k hk=>by simp at hk,fun hk=>by simp at hk⟩
 |a::l=>by
  by_cases h:p a=true
  ·obtain⟨m,h1,h2,h3,h4⟩:=LK p l;refine⟨m+1,by simp;omega,by simp[h,h2],fun k hk hm=>?_,fun hk=>?_⟩
   ·cases k with
    |zero=>simpa using h
    |succ k=>simpa using h3 k (by simpa using hk) (by omega)
   ·simpa using h4 (by simpa using hk)
  ·refine⟨0,by simp,by simp[h],fun k hk hm=>by omega,fun hk=>by simpa using h⟩
theorem BO {α:Type}(p:α→Bool)(l:List α){k:Nat}(hk:k<l.length):(l.take (k+1)).filter p=(l.take k).filter p++if p l[k] then[l[k]] else[]:=by
 rw[mV hk,LV]
 congr 1
 cases h:p l[k]<;>simp[h]
def Cb (b:Bill)(w x y z:D):D:=.agg [.int b.drawer,.int b.drawee,.int b.payee,.int b.sum,.int b.currency,.int b.tenor.kind,.int b.tenor.n,.int b.tenor.unit,.int b.day,.int b.city,.int b.pay,.int b.need,.int b.rate,.int b.flags,.int b.parts,w,x,y,z]
def oy {α:Type}(l:List α):D:=match l with|[]=>.list []|_=>.none
@[simp] theorem aAf {α:Type}:oy ([]:List α)=.list []:=rfl
@[simp] theorem aAe {α:Type}(l:List α)(x:α):oy (l++[x])=.none:=by cases l<;>rfl
theorem Sy (f:File)(day:Int)(h1:f.signs.length≤4294967295)(h2:f.acts.length≤4294967295)(h3:f.alters.length≤4294967295)(h4:f.facts.length≤4294967295):ak T 24 [cZ f,.int day] (cZ (dY f day)):=by
 refine .of_tree rfl (lA 8 (by kernel_rfl)) auk ?_;simp[Uw];obtain⟨m,hm,hS,X6,zZ⟩:=LK (fun s:Sign=>decide (s.day≤day)) f.signs;obtain⟨n,hn,hA,hA1,hA2⟩:=LK (fun s:Act=>decide (s.day≤day)) f.acts;refine aP.forRounds m (fun k=>[.int k]) (fun k=>[signs (f.signs.take k),Cb f.bill (oy (f.signs.take k)) (.list []) (.list []) (.list [])]) ?_ (fun k hk=>?_) ?_
 ·simp[Cb,signs]
  try rfl
 ·have bm:k<f.signs.length:=by omega
  have hw:=bp bm (by omega);have hd:=X6 k bm hk;simp at hd;have fS:¬day<f.signs[k].day:=by omega
  have hle:(k:Int)+1≤4294967296:=by omega
  have ht:=mV bm;rw[ht];have hlen:(f.signs.take k).length=k:=by simp;omega
  generalize f.signs.take k=A at*;simp[Sb,FT,bm,hw,fS,hlen];exact⟨hle,by simp[signs],rfl⟩
 have hSl:(f.signs.take m).length≤4294967295:=by rw[dW];omega
 have NP:dY f day=⟨f.bill,f.signs.take m,f.alters.filter (qQ (f.signs.take m).length),f.acts.take n,f.facts.filter (lF (f.signs.take m).length)⟩:=by
  unfold dY kF upA;rw[hS,hA]
 rw[NP];generalize f.signs.take m=S at*;have hAl:(f.acts.take n).length≤4294967295:=by rw[dW];omega
 by_cases dE:m<f.signs.length
 case' pos=>
  have hd:=zZ dE;simp at hd;simp[Sb,FT,dE,hd];generalize D.bool true=bb
 case' neg=>
  have D1:m=f.signs.length:=by omega
  simp[Sb,FT,dE,D1];generalize D.bool false=bb
 all_goals
  refine aP.forRounds n (fun k=>[.int k]) (fun k=>[acts (f.acts.take k),Cb f.bill (oy S) (.list []) (oy (f.acts.take k)) (.list [])]) ?_ (fun k hk=>?_) ?_
  ·simp[acts]
  ·have bm:k<f.acts.length:=by omega
   have hw:=bp bm (by omega);have hd:=hA1 k bm hk;simp at hd;have fS:¬day<f.acts[k].day:=by omega
   have hle:(k:Int)+1≤4294967296:=by omega
   have ht:=mV bm;rw[ht];have hlen:(f.acts.take k).length=k:=by simp;omega
   generalize f.acts.take k=A at*;simp[Sc,FU,bm,hw,fS,hlen];exact⟨hle,by simp[acts],rfl⟩
  generalize f.acts.take n=A at*;by_cases iJ:n<f.acts.length
  case' pos=>
   have hd:=hA2 iJ;simp at hd;simp[Sc,FU,iJ,hd];generalize D.bool true=bc
  case' neg=>
   have p9:n=f.acts.length:=by omega
   simp[Sc,FU,iJ,p9];generalize D.bool false=bc
  all_goals
   refine aP.forRounds f.alters.length (fun k=>[.int k]) (fun k=>[Cb f.bill (oy S) (oy ((f.alters.take k).filter (qQ S.length))) (oy A) (.list []),alters ((f.alters.take k).filter (qQ S.length))]) ?_ (fun k hk=>?_) ?_
   ·simp[alters]
   ·have hw:=bp hk (by omega);have ht:=BO (qQ S.length) f.alters hk;rw[ht];have hlen:((f.alters.take k).filter (qQ S.length)).length≤k:=iv (pw _ _) (by simp;omega);generalize (f.alters.take k).filter (qQ S.length)=B at*;by_cases hd:f.alters[k].at_≤(S.length:Int)
    ·simp[Sd,FV,qQ,hk,hw,hd];exact⟨by omega,rfl,by simp[alters]⟩
    ·simp[Sd,FV,qQ,hk,hw,hd]
   simp[Sd,FV];generalize f.alters.filter (qQ S.length)=B at*;refine aP.forRounds f.facts.length (fun k=>[.int k]) (fun k=>[Cb f.bill (oy S) (oy B) (oy A) (oy ((f.facts.take k).filter (lF S.length))),facts ((f.facts.take k).filter (lF S.length))]) ?_ (fun k hk=>?_) ?_
   ·simp[facts]
   ·have hw:=bp hk (by omega);have ht:=BO (lF S.length) f.facts hk;rw[ht];have hlen:((f.facts.take k).filter (lF S.length)).length≤k:=iv (pw _ _) (by simp;omega);generalize (f.facts.take k).filter (lF S.length)=C at*;cases hd:aC f.facts[k].at_ S.length
    ·simp[Se,FW,lF,hk,hw,hd];refine⟨_,qA _ _,?_⟩;simp[hd,hw]
    ·simp[Se,FW,lF,hk,hw,hd];refine⟨_,qA _ _,?_⟩;simp[hd,hw];exact⟨by omega,rfl,by simp[facts]⟩
   simp[Se,FW];rfl
end Rm
namespace Rm
open Go Go.Proofs Cx
def AN:List Int→Int
 |[]=>-1
 |x::l=>l.foldl min x
theorem afK (x:Int)(l:List Int)(hl:l.length<4294967296):ak T 90 [ints (x::l)] (.int (AN (x::l))):=by
 refine .of_tree rfl (lA 47 (by kernel_rfl)) auC ?_;have h0:¬((l.length:Int)+1<1):=by omega
 simp[UM,h0,AN,ints];refine aP.forRounds l.length (fun k=>[.int ((l.take k).foldl min x),.int ((k:Int)+1)]) (fun k=>[]) ?_ (fun k hk=>?_) ?_
 ·simp
 ·have hw:IntKind.i64.wrap ((k:Int)+1+1)=(k:Int)+1+1:=bU (by omega);rw[mV hk,GI];generalize (l.take k).foldl min x=y;have ht:((k:Int)+1).toNat=k+1:=by omega
  have af:(k:Int)+1<(l.length:Int)+1:=by omega
  simp[adz,K0,hk,hw,ht,af];refine⟨by omega,?_⟩;by_cases h:l[k]<y
  ·simp[h];omega
  ·simp[h];omega
 ·simp[adz,K0]
def nB (f:File)(n:Nat):List Int:=if f.bill.tenor.kind=1 then((f.signs.take n).filter (fun s=>decide (s.kind=1))).map (·.day) else[]
def l0 (f:File)(n:Nat):List Int:=if f.bill.tenor.kind=1 then((f.acts.take n).filter (fun s=>decide (s.kind=1))).map (·.day) else[]
def Gm (f:File)(a:Act):Bool:=decide (f.bill.tenor.kind=0)&&decide (a.kind=2)
def vp (f:File):Int:=match f.acts.find? (Gm f) with|some a=>a.day|none=>AN (nB f f.signs.length++l0 f f.acts.length)
theorem arK (f:File)(h1:f.signs.length≤100000)(h2:f.acts.length≤100000):ak T 45 [cZ f] (.int (vp f)):=by
 refine .of_tree rfl (lA 46 (by kernel_rfl)) aum ?_;simp[Uy];refine aP.forRounds f.signs.length (fun k=>[.none,.int k]) (fun k=>[ints (nB f k)]) ?_ (fun k hk=>?_) ?_
 ·simp[nB,ints]
 ·have hw:=bp hk (by omega);have hs:nB f (k+1)=nB f k++if f.bill.tenor.kind=1∧f.signs[k].kind=1 then[f.signs[k].day] else[]:=by
   unfold nB;by_cases h:f.bill.tenor.kind=1
   ·simp only[if_pos h,BO _ _ hk,px,h,true_and]
    congr 1
    by_cases h':f.signs[k].kind=1<;>simp[h']
   ·simp[h]
  have hlen:(nB f k).length≤k:=by
   unfold nB;split
   ·rw[eN];exact iv (pw _ _) (by simp;omega)
   ·simp
  rw[hs];generalize nB f k=A at*;by_cases hc:f.bill.tenor.kind=1∧f.signs[k].kind=1
  ·simp[Sg,FY,hk,hw,hc];exact⟨by omega,by simp[ints]⟩
  ·simp[Sg,FY,hk,hw,hc]
 ·have hlS:(nB f f.signs.length).length≤100000:=by
   unfold nB;split
   ·rw[eN];exact iv (pw _ _) (by simp;omega)
   ·simp
  have hE:vp f=match f.acts.find? (Gm f) with|some a=>a.day|none=>AN (nB f f.signs.length++l0 f f.acts.length):=rfl
  generalize nB f f.signs.length=A at*;simp[Sg,FY];refine aP.scan f.acts.length (fun k=>Gm f (f.acts.getD k default)=false) (fun k=>[.int 0,.none,.int k]) (fun k=>[ints (A++l0 f k)]) ?_ (fun k hk hj ho=>?_) (fun k hk hj ho=>?_) (fun hj=>?_)
  ·simp[l0,ints]
  ·have hw:=bp hk (by omega);have hs:l0 f (k+1)=l0 f k++if f.bill.tenor.kind=1∧f.acts[k].kind=1 then[f.acts[k].day] else[]:=by
        unfold l0;by_cases h:f.bill.tenor.kind=1
        ·simp only[if_pos h,BO _ _ hk,px,h,true_and]
         congr 1
         by_cases h':f.acts[k].kind=1<;>simp[h']
        ·simp[h]
   have hlen:(l0 f k).length≤k:=by
        unfold l0;split
        ·rw[eN];exact iv (pw _ _) (by simp;omega)
        ·simp
   rw[hs];generalize l0 f k=B at*;simp[Gm,hk] at ho;by_cases hc:f.bill.tenor.kind=1∧f.acts[k].kind=1
   ·simp[FZ,xV,hk,hw,hc];exact⟨by omega,by simp[ints]⟩
   ·have hn:¬(f.bill.tenor.kind=0∧f.acts[k].kind=2):=fun h=>ho h.1 h.2;simp[FZ,xV,hk,hw,hc,hn]
  ·have hf:vp f=f.acts[k].day:=by
        rw[hE,zP hk (by simpa [hk] using ho) (fun j bE=>by have:=hj j bE;simpa [show j<f.acts.length by omega] using this)]
   simp[Gm,hk] at ho;simp[FZ,xV,hk,ho,hf]
  ·have hf:vp f=AN (A++l0 f f.acts.length):=by
        rw[hE,Dj (fun j bE=>by have:=hj j bE;simpa [bE] using this)]
   have hlA:(l0 f f.acts.length).length≤100000:=by
        unfold l0;split
        ·rw[eN];exact iv (pw _ _) (by simp;omega)
        ·simp
   rw[hf];have hL:(A++l0 f f.acts.length).length≤200000:=by rw[kL];omega
   generalize A++l0 f f.acts.length=L at*;cases L with
   |nil=>simp[FZ,xV,AN,ints]
   |cons x l=>
    have aw:¬((l.length:Int)+1=0):=by omega
    simp[FZ,xV,aw];exact afK x l (by simp at hL;omega)
end Rm
namespace Rm
open Go Go.Proofs Cx
def iw (g:Nat→Cell):D:=.list ((List.range 20).map fun i=>cP (g i))
theorem WK {g g':Nat→Cell}(h:∀i,i<20→g i=g' i):iw g=iw g':=by
 unfold iw
 congr 1
 exact yy fun i hi=>by rw[h i (by simpa using hi)]
theorem WL (g:Nat→Cell)(k:Nat)(c:Cell):D.list ((iw g).l.set k (cP c))=iw (fun i=>if i=k then c else g i):=by
 unfold iw
 congr 1
 show((List.range 20).map fun i=>cP (g i)).set k (cP c)=_;apply List.ext_getElem
 ·simp
 ·intro i h1 h2;simp at h2;rw[List.getElem_set];by_cases h:k=i
  ·simp[h]
  ·have h':¬i=k:=fun e=>h e.symm;simp[h,h']
@[simp] theorem ayl (g:Nat→Cell):(iw g).l.length=20:=by
  show((List.range 20).map fun i=>cP (g i)).length=20;simp
theorem G9 (g:Nat→Cell){k:Nat}(hk:k<20):(iw g).l[k]?.getD D.none=cP (g k):=by
 show((List.range 20).map fun i=>cP (g i))[k]?.getD D.none=cP (g k);simp[hk]
theorem ahb (g:Nat→Cell){k:Nat}(hk:k<(iw g).l.length):(iw g).l[k]=cP (g k):=by
 have h:=G9 g (k:=k) (by simpa using hk);rw[bA hk] at h;exact h
theorem ahd (g:Nat→Cell)(k:Nat)(c:Cell):(iw g).l.set k (cP c)=(iw (fun i=>if i=k then c else g i)).l:=congrArg D.l (WL g k c)
theorem ahc (g:Nat→Cell):D.list (iw g).l=iw g:=rfl
@[simp] theorem aBL (x:Cell)(b:Bool)(n:Int):vu (cP x) 0 (D.agg [D.bool b,D.int n])=cP ⟨b,n⟩:=_root_.id rfl
def zO {α:Type}(l:List (Int×α))(val:α→Cell)(g0:Nat→Cell)(i:Nat):Cell:=match l.find? (fun p=>decide (p.1=(i:Int))) with|some p=>val p.2|none=>g0 i
def rE {α:Type}(enc:α→D)(p:Int×α):D:=.tup [.int p.1,enc p.2]
theorem aah {α:Type}{J o:Nat}{ps de:List Nat}{a:PC}{ρ:Env}{Q:Out→Prop}(l:List (Int×α))(enc:α→D)(val:α→Cell)(g0:Nat→Cell)
 (nd:∀p q,p∈l→q∈l→p.1=q.1→p=q) (SF:∀p,p∈l→0≤p.1) (he:ρ.o J=.tup [.list [],.map (l.map fun p=>(.int p.1,enc p.2))]) (h0:ρ.o o=iw g0)
 (step:∀p,p∈l→∀g done,aI T (qD [o] a) ((ρ.put ps (de.map (rE enc p).tget) [o] [iw g]).setO J (.tup [.list (done++[rE enc p]),.map (l.map fun p=>(.int p.1,enc p.2))])) (fun y=>∃ρ',y=.next ρ'∧ρ'.o o=.list ((iw g).l.set p.1.toNat (cP (val p.2)))))
 (last:Q (.next (ρ.put [] [] [o] [iw (zO l val g0)]))):aP T (.meach J ps de [o] a) ρ Q:=by
 have ng:iQ (.map (l.map fun p=>((D.int p.1,enc p.2):D×D)))=l.map (rE enc):=by
  simp[iQ,rE]
 refine .meachR _ he (fun done vo=>∃g:Nat→Cell,vo=[iw g]∧(∀p,p∈l→rE enc p∈done→g p.1.toNat=val p.2)∧∀i:Nat,(∀p,p∈l→rE enc p∈done→p.1≠i)→g i=g0 i) ⟨g0,by simp[h0],(fun p _ h=>by cases h),fun i _=>rfl⟩ (fun done x rest vo hp ⟨g,hv,oq,gW⟩=>?_) ⟨_,fun done hp vo ⟨g,hv,oq,gW⟩=>?_,last⟩
 ·subst hv;rw[ng] at hp;have hx:x∈l.map (rE enc):=hp.subset (by simp);obtain⟨p,fC,rfl⟩:=ei.mp hx;refine yA _ (fun y ⟨ρ',e,ho⟩=>⟨ρ',e,fun i=>if i=p.1.toNat then val p.2 else g i,by simp[ho,WL],fun q hq OY=>?_,fun i hi=>?_⟩) (step p fC g done)
  ·have OZ:=SF q hq;have qe:=SF p fC;by_cases h:q.1=p.1
   ·rw[nd q p hq fC h];simp
   ·show(if q.1.toNat=p.1.toNat then val p.2 else g q.1.toNat)=val q.2;rw[if_neg (by omega)];rcases dJ.mp OY with h1|h1
    ·exact oq q hq h1
    ·simp[rE] at h1;exact absurd h1.1 h
  ·have qe:=SF p fC;have df:=hi p fC (by simp);show(if i=p.1.toNat then val p.2 else g i)=g0 i;rw[if_neg (by omega)];exact gW i fun q hq OY=>hi q hq (by simp[OY])
 ·rw[hv,ng] at*
  congr 1
  refine WK fun i hi=>?_;unfold zO;cases hf:l.find? (fun p=>decide (p.1=(i:Int))) with
  |some p=>
   have fC:=vP hf;have Jl:p.1=(i:Int):=by simpa using LY hf
   have:=oq p fC (hp.symm.subset (List.mem_map_of_mem fC));simp only;rw[←this,Jl];rfl
  |none=>
   refine gW i fun p fC _=>?_;have:=vN.mp hf p fC;simpa using this
@[simp] theorem aAC (a b:Int):eJ (D.int a) (D.int b)=decide (a=b):=by
  show((a==b)&&true)=decide (a=b);rw[Bool.and_true];by_cases h:a=b<;>simp[h]
def Dp (n k:Int):Bool:=decide (cK .and .i64 n k≠0)
def xj (s:Sign)(due:Int):Int:=if due=-1 then 0 else s.day-due
def Mi (f:File)(sign:Int):Bool:=(List.range f.alters.length).any fun k=>decide ((f.alters.getD k default).at_≤sign)
def dP (c:Case):Int:=if c.holder<0 then 0 else c.holder
def ls (c:Case)(s:Sign):List (Int×Int):=[(0,c.file.bill.sum),(1,c.file.bill.parts),(2,c.file.bill.tenor.kind),(3,c.file.bill.rate),(4,s.kind),(5,c.defence),(6,xj s c.due)]
def lZ (r:Realm)(c:Case)(s:Sign):List (Int×Bool):=[(7,Dp c.file.bill.flags 1),(8,decide (c.file.bill.payee=-1)),(9,Dp c.file.bill.flags 4),(10,Dp c.file.bill.flags 2),(11,decide (gN r c.file.bill.city≠gN r c.file.bill.pay)),(12,Mi c.file c.sign),(13,Dp s.flags 1),(14,decide (0<xj s c.due))]
def kj (r:Realm)(c:Case)(s:Sign):List Cell:=
 (ls c s).map (fun p=>⟨true,p.2⟩)++(lZ r c s).map (fun p=>dU p.2)++
    [bJ c.file 0 c.sign,bJ c.file 1 c.sign,bJ c.file 2 c.sign,bJ c.file 3 (dP c),bJ c.file 4 (dP c)]
@[simp] theorem axW (x:Case):kM 19 (dZ x)=cZ x.file:=_root_.id rfl
@[simp] theorem axU (x:Case):kM 15 (dZ x)=eu x.file.bill:=_root_.id rfl
@[simp] theorem axV (x:File):kM 15 (cZ x)=eu x.bill:=_root_.id rfl
def kc (c:Case):Bool:=aC c.sign c.file.signs.length&&decide (-1≤c.holder)&&decide (dP c<c.file.signs.length)&&(decide (c.due=-1)||aC c.due 100001)
def bY (r:Realm)(c:Case):List Cell:=if kc c=true∧aC (c.file.signs.getD c.sign.toNat default).day 100001=true then kj r c (c.file.signs.getD c.sign.toNat default) else[]
theorem adG (r:Realm)(c:Case)(h2:c.file.facts.length≤100000)(h3:c.file.alters.length≤100000):ak T 26 [bk r,dZ c] (cells (bY r c)):=by
 refine .of_tree rfl (lA 10 (by kernel_rfl)) auo ?_;cases hs:aC c.sign c.file.signs.length
 ·have hv:bY r c=[]:=by unfold bY kc;rw[hs];simp
  rw[hv];simp[vy];refine⟨_,qA _ _,?_⟩;simp[hs];rfl
 by_cases hh:c.holder< -1
 ·have hv:bY r c=[]:=by unfold bY kc;rw[hs];simp;intros;omega
  rw[hv];simp[vy,hh];exact⟨⟨_,qA _ _⟩,rfl⟩
 by_cases hm:(c.file.signs.length:Int)≤dP c
 ·have hv:bY r c=[]:=by unfold bY kc;rw[hs];simp;intros;omega
  rw[hv];unfold dP at hm;simp[vy,hm];exact⟨⟨_,qA _ _⟩,rfl⟩
 by_cases hd:c.due≠-1∧aC c.due 100001=false
 ·have hv:bY r c=[]:=by unfold bY kc;rw[hs];simp[hd]
  rw[hv];unfold dP at hm;obtain⟨bl,ed⟩:=hd;simp[vy,hh,hm,bl];refine⟨_,qA _ _,?_⟩;simp[hs,hh,hm,bl];refine⟨_,qA _ _,?_⟩;simp[hs,hh,hm,bl,ed];rfl
 have hcb:kc c=true:=by
  unfold kc;rw[hs];simp;refine⟨⟨by omega,by omega⟩,?_⟩;by_cases h:c.due=-1
  ·exact .inl h
  ·right;cases hb:aC c.due 100001
   ·exact absurd ⟨h,hb⟩ hd
   ·rfl
 have hlen:c.sign.toNat<c.file.signs.length:=by simp[aC] at hs;omega
 have eU:0≤c.sign∧c.sign<(c.file.signs.length:Int):=by simpa [aC] using hs
 obtain⟨s,En⟩:∃s:Sign,s=c.file.signs[c.sign.toNat]:=⟨_,rfl⟩
 have qh:c.file.signs.getD c.sign.toNat default=s:=by rw[En];simp[hlen]
 have hv:bY r c=if aC s.day 100001=true then kj r c s else[]:=by
  unfold bY;rw[qh,hcb];simp
 rw[hv];unfold dP at hm;by_cases DL:c.due=-1
 case' pos=>
  have Ym:(c.due=-1)=True:=eq_true DL;simp[vy,hh,hm,Ym];refine⟨_,qA _ _,?_⟩;simp[hs,hh,hm,Ym,hlen,←En,eU]
 case' neg=>
  have DI:aC c.due 100001=true:=by
   cases hb:aC c.due 100001
   ·exact absurd ⟨DL,hb⟩ hd
   ·rfl
  simp[vy,hh,hm,DL];refine⟨_,qA _ _,?_⟩;simp[hs,hh,hm,DL];refine⟨_,qA _ _,?_⟩;simp[hs,hh,hm,DL,DI,hlen,←En,eU]
 all_goals
  refine⟨_,qA _ _,?_⟩;cases IU:aC s.day 100001
  ·simp[IU];rfl
  simp[IU,lf];refine aah (ls c s) D.int (fun n=>⟨true,n⟩) (fun _=>dA) ?_ ?_ ?_ ?_ (fun p hp g done=>?_) ?_
  ·intro p q hp hq h;simp[ls] at hp hq;rcases hp with rfl|rfl|rfl|rfl|rfl|rfl|rfl<;>rcases hq with rfl|rfl|rfl|rfl|rfl|rfl|rfl<;>first|rfl|(simp at h)
  ·intro p hp;simp[ls] at hp;rcases hp with rfl|rfl|rfl|rfl|rfl|rfl|rfl<;>simp
  ·have Oj:(if c.due=-1 then(0:Int) else IntKind.i64.wrap (s.day-c.due))=xj s c.due:=by
        unfold xj;by_cases h:c.due=-1
        ·simp[h]
        ·have DI:aC c.due 100001=true:=by
          cases hb:aC c.due 100001
          ·exact absurd ⟨h,hb⟩ hd
          ·rfl
         simp[aC] at DI IU;rw[if_neg h,if_neg h];exact bU (by omega)
   simp[ls,lf,hlen,←En];rw[←Oj];by_cases h:c.due=-1<;>simp[h]
  ·simp[iw];rfl
  ·have hr:0≤p.1∧p.1<20:=by
        simp[ls] at hp;rcases hp with rfl|rfl|rfl|rfl|rfl|rfl|rfl<;>simp
   have hk:p.1.toNat<20:=by omega
   simp[arq,Si,rE,G9 g hk];exact hr
  have al3:∀k (hk:k<c.file.alters.length),ak T 56 (pP c.file.alters[k]::[.ref (dZ c)]) (.bool (decide ((c.file.alters.getD k default).at_≤c.sign))):=fun k hk=>by
   refine .of_tree rfl (lA 11 (by kernel_rfl)) aun ?_;simp[Uz,hk]
  simp;refine⟨_,afr c.file.alters _ _ _ al3 (by omega),_,qz r _,_,qz r _,?_⟩;have Oj:(if c.due=-1 then(0:Int) else IntKind.i64.wrap (s.day-c.due))=xj s c.due:=by
   unfold xj;by_cases h:c.due=-1
   ·simp[h]
   ·have DI:aC c.due 100001=true:=by
     cases hb:aC c.due 100001
     ·exact absurd ⟨h,hb⟩ hd
     ·rfl
    simp[aC] at DI IU;rw[if_neg h,if_neg h];exact bU (by omega)
  have Oi:cells (kj r c s)=iw (fun i=>if i=15 then bJ c.file 0 c.sign else if i=16 then bJ c.file 1 c.sign else if i=17 then bJ c.file 2 c.sign else if i=18 then bJ c.file 3 (dP c) else if i=19 then bJ c.file 4 (dP c) else zO (lZ r c s) dU (zO (ls c s) (fun n=>⟨true,n⟩) (fun _=>dA)) i):=by
   rfl
  generalize zO (ls c s) (fun n=>(⟨true,n⟩:Cell)) (fun _=>dA)=g1 at*;refine aah (lZ r c s) D.bool dU g1 ?_ ?_ ?_ ?_ (fun p hp g done=>?_) ?_
  ·intro p q hp hq h;simp[lZ] at hp hq;rcases hp with rfl|rfl|rfl|rfl|rfl|rfl|rfl|rfl<;>rcases hq with rfl|rfl|rfl|rfl|rfl|rfl|rfl|rfl<;>first|rfl|(simp at h)
  ·intro p hp;simp[lZ] at hp;rcases hp with rfl|rfl|rfl|rfl|rfl|rfl|rfl|rfl<;>simp
  ·simp[lZ,lf,hlen,←En,Dp];rw[←Oj];by_cases h:c.due=-1<;>simp[h,Mi]
  ·simp
  ·have hr:0≤p.1∧p.1<20:=by
        simp[lZ] at hp;rcases hp with rfl|rfl|rfl|rfl|rfl|rfl|rfl|rfl<;>simp
   have hk:p.1.toNat<20:=by omega
   simp[ars,Sj,rE,G9 g hk];refine⟨_,adH _,?_⟩;simp[G9 g hk];exact hr
  simp;generalize zO (lZ r c s) dU g1=g2 at*;have hho:(if c.holder<0 then D.int 0 else D.int c.holder)=D.int (dP c):=by
   unfold dP;split<;>rfl
  rw[hho];refine⟨_,Ga _ _ _ (by omega),_,Ga _ _ _ (by omega),_,Ga _ _ _ (by omega),_,Ga _ _ _ (by omega),_,Ga _ _ _ (by omega),?_⟩;rw[Oi];simp only[ahb,asr,ahd,ahc];refine WK fun i hi=>?_;by_cases Iw:i=15
  ·subst Iw;simp
  by_cases Ix:i=16
  ·subst Ix;simp
  by_cases Iy:i=17
  ·subst Iy;simp
  by_cases Iz:i=18
  ·subst Iz;simp
  by_cases IA:i=19
  ·subst IA;simp
  simp[Iw,Ix,Iy,Iz,IA]
end Rm
namespace Rm
open Go Go.Proofs Cx
def Ka (n:Nat)(x:Int):Bool:=decide (x<0)||decide ((n:Int)≤x)
def mf (r:Realm)(a q:Int)(l:List Int):Bool:=
 !(decide (a<0)||decide ((r.orders.length:Int)≤a)||decide (q<0)||decide (22≤q)||decide (l.length≠5))&& !((List.range l.length).any fun k=>Ka r.orders.length (l.getD k 0))
theorem ai5 (x n:Int):ak T 151 [.int x,.ref (.int n)] (.bool (decide (x<0)||decide (n≤x))):=by
 refine .of_tree rfl (lA 23 (by kernel_rfl)) atc ?_;by_cases h:x<0<;>simp[Tt,h]
theorem XA (r:Realm)(a q:Int)(l:List Int)(hl:l.length≤100000):ak T 111 [bk r,.int a,.int q,ints l] (.bool (mf r a q l)):=by
 refine .of_tree rfl (lA 22 (by kernel_rfl)) atd ?_;by_cases h1:a<0
 ·simp[vx,mf,h1]
 by_cases h2:(r.orders.length:Int)≤a
 ·simp[vx,mf,h1,h2]
 by_cases h3:q<0
 ·simp[vx,mf,h1,h2,h3]
 by_cases h4:22≤q
 ·simp[vx,mf,h1,h2,h3,h4]
 by_cases h5:(l.length:Int)=5
 ·have IC:l.length=5:=by omega
  simp[vx,h1,h2,h3,h4,IC];refine⟨_,afs l 151 [.ref (.int r.orders.length)] (fun k=>Ka r.orders.length (l.getD k 0)) (fun k hk=>by simpa [Ka,hk] using ai5 l[k] r.orders.length) (by omega),?_⟩;simp only[mf,IC];simp[h1,h2,h3,h4]
 ·have IC:¬l.length=5:=by omega
  simp[vx,mf,h1,h2,h3,h4,IC];intro h;omega
theorem Ny {r:Realm}{a q:Int}{l:List Int}(h:mf r a q l=true):(0≤a∧a<r.orders.length)∧l.length=5∧(∀x,x∈l→0≤x∧x<r.orders.length)∧∀b:Int,0≤b→b<r.orders.length→mf r b q l=true:=by
 unfold mf at h ⊢;rw[ao] at h;obtain⟨h1,h2⟩:=h;simp at h1;refine⟨by omega,h1.2,fun x hx=>?_,fun b ec cf=>?_⟩
 ·obtain⟨k,hk,rfl⟩:=nK hx;simp[Ka] at h2;have:=h2 k hk;simp[hk] at this;omega
 ·rw[h2];simp;omega
def B3 (r:Realm):Prop:=∀o,o∈r.orders→o.choices.length≤100000∧∀ch,ch∈o.choices→0≤ch.by_∧ch.by_<5
def xk (q:Int)(ch:Choice):Bool:=decide (ch.ask=q)&&decide (ch.by_≠0)
def lN (r:Realm)(a:Int):Order:=r.orders.getD a.toNat default
def gy (r:Realm)(a q:Int)(l:List Int):Int×Bool:=
 (match(lN r a).choices.find? (xk q) with|some ch=>l.getD ch.by_.toNat 0|none=>a,match(lN r a).choices.find? (xk q) with|some ch=>ch.whole|none=>false)
theorem VL (r:Realm)(pX:B3 r)(a q:Int)(l:List Int)(hl:l.length≤100000)(hf:mf r a q l=true):
 ak T 112 [bk r,.int a,.int q,ints l] (.tup [.int (gy r a q l).1,.bool (gy r a q l).2])∧0≤(gy r a q l).1∧(gy r a q l).1<r.orders.length:=by
 obtain⟨ha,I8,hx,_⟩:=Ny hf;have Ac:a.toNat<r.orders.length:=by omega
 obtain⟨aY,mj⟩:=pX _ (cS Ac);obtain⟨o,ho⟩:∃o,o=r.orders[a.toNat]:=⟨_,rfl⟩
 rw[←ho] at aY mj;have OJ:lN r a=o:=by rw[ho];simp[lN,Ac]
 unfold gy;rw[OJ];refine⟨?_,?_⟩
 ·refine .of_tree rfl (lA 26 (by kernel_rfl)) atb ?_;simp[Ts];refine⟨_,XA r a q l hl,?_⟩;simp[hf,Ac,←ho,ha];refine aP.scan o.choices.length (fun k=>xk q (o.choices.getD k default)=false) (fun k=>[.int 0,.bool false,.int k]) (fun _=>[]) ?_ (fun k hk hj av=>?_) (fun k hk hj av=>?_) (fun hj=>?_)
  ·simp
  ·have hw:=bp hk (by omega);have hn:¬(o.choices[k].ask=q∧¬o.choices[k].by_=0):=by simpa [xk,hk] using av
   simp[RI,Fl,Ac,←ho,hk,hw,hn]
  ·have om:=zP hk (by simpa [hk] using av) (fun j bE=>by have:=hj j bE;simpa [show j<o.choices.length by omega] using this);rw[om];have hc:o.choices[k].ask=q∧¬o.choices[k].by_=0:=by simpa [xk,hk] using av
   have hb:=mj _ (cS hk);have sR:o.choices[k].by_.toNat<l.length:=by omega
   simp[RI,Fl,Ac,←ho,hk,hc,ints,sR];omega
  ·have om:=Dj (l:=o.choices) (p:=xk q) (fun j bE=>by have:=hj j bE;simpa [bE] using this);rw[om];simp[RI,Fl,Ac,←ho]
 ·cases om:o.choices.find? (xk q) with
  |none=>exact ha
  |some ch=>
   have hb:=mj _ (vP om);have sR:ch.by_.toNat<l.length:=by omega
   simp[sR];exact hx _ (cS sR)
theorem QU:∀(N:Nat) (l:List Int),l.Nodup→(∀x,x∈l→0≤x∧x<(N:Int))→l.length≤N
 |0,l,hn,h=>by
  cases l with
  |nil=>simp
  |cons a l=>have:=h a (by simp);omega
 |N+1,l,hn,h=>by
  by_cases hm:(N:Int)∈l
  ·have h1:=QU N (l.erase (N:Int)) (hn.erase _) (fun x hx=>by
    have dm:=(hn.mem_erase_iff).mp hx;have:=h x dm.2;have aw:=dm.1;omega)
   rw[List.length_erase_of_mem hm] at h1;omega
  ·have h1:=QU N l hn (fun x hx=>by
    have:=h x hx;have aw:x≠(N:Int):=fun e=>hm (e▸hx);omega)
   omega
def dp (l:List Int):Int:=l.getD (l.length-1) 0
def la (r:Realm)(q:Int)(l:List Int):Nat→List Int→List Int×Int
 |0,p=>(p,0)
 |n+1,p=>
  if(gy r (dp p) q l).1=dp p then(p,0)
  else if(gy r (dp p) q l).2=false∨(hasB p (gy r (dp p) q l).1=true∧(lN r (gy r (dp p) q l).1).accepts=true) then(p++[(gy r (dp p) q l).1],0)
  else if hasB p (gy r (dp p) q l).1=true then(p++[(gy r (dp p) q l).1],12)
  else la r q l n (p++[(gy r (dp p) q l).1])
theorem PL (r:Realm)(q:Int)(l:List Int)(n:Nat)(p:List Int):la r q l (n+1) p=
 if(gy r (dp p) q l).1=dp p then(p,0)
 else if(gy r (dp p) q l).2=false∨(hasB p (gy r (dp p) q l).1=true∧(lN r (gy r (dp p) q l).1).accepts=true) then(p++[(gy r (dp p) q l).1],0)
 else if hasB p (gy r (dp p) q l).1=true then(p++[(gy r (dp p) q l).1],12)
 else la r q l n (p++[(gy r (dp p) q l).1]):=rfl
def ji (r:Realm)(a q:Int)(l:List Int):List Int×Int:=if mf r a q l=true∧l.getD 0 0=a then la r q l r.orders.length [a] else([],1)
theorem afE (r:Realm)(pX:B3 r)(hn:r.orders.length≤100000)(a q:Int)(l:List Int)(hl:l.length≤100000):ak T 70 [bk r,.int a,.int q,ints l] (.tup [ints (ji r a q l).1,.int (ji r a q l).2]):=by
 refine .of_tree rfl (lA 21 (by kernel_rfl)) ata ?_;simp[Tr];refine⟨_,XA r a q l hl,?_⟩;cases hf:mf r a q l
 ·simp[ji,hf];rfl
 obtain⟨ha,I8,hx,Aa⟩:=Ny hf;have h0:0<l.length:=by omega
 by_cases DX:l[0]=a
 ·have hE:ji r a q l=la r q l r.orders.length [a]:=by unfold ji;rw[if_pos ⟨hf,by simp[h0,DX]⟩]
  rw[hE];simp[h0,DX,ints];refine aP.forLoop (α:=Nat×List Int) (fun s vr vo=>vr=[.list [],.int 0,.none]∧vo=[ints s.2]∧s.2.Nodup∧(∀x,x∈s.2→0≤x∧x<(r.orders.length:Int))∧s.2≠[]∧s.1+s.2.length=r.orders.length+1∧la r q l s.1 s.2=la r q l r.orders.length [a]) (fun s=>s.1) (r.orders.length,[a]) ?_ ?_
  ·simp[ints];exact ha
  ·rintro⟨n,p⟩ vr vo ⟨rfl,rfl,bn,bt,aw,hlen,DY⟩;simp only at*;have fC:p.length≤r.orders.length:=QU _ p bn bt;have amB:0<p.length:=GM.mpr aw;obtain⟨m,rfl⟩:∃m,n=m+1:=⟨n-1,by omega⟩
   have af:p.length-1<p.length:=by omega
   have kT:dp p=p[p.length-1]:=by simp[dp,af]
   have wO:=bt _ (cS af);rw[←kT] at wO;obtain⟨NT,gw,gx⟩:=VL r pX (dp p) q l hl (Aa _ wO.1 wO.2);have Ou:((p.length:Int)-1).toNat=p.length-1:=by omega
   have Pq:IntKind.i64.wrap ((p.length:Int)-1)=(p.length:Int)-1:=bU (by omega);rw[←DY,PL];obtain⟨L,hL⟩:∃L,L=gy r (dp p) q l:=⟨_,rfl⟩
   rw[←hL] at NT gw gx ⊢;obtain⟨to,whole⟩:=L;simp only at NT gw gx;have w7:to.toNat<r.orders.length:=by omega
   have OJ:lN r to=r.orders[to.toNat]:=by simp[lN,w7]
   simp only[OJ];simp[aro,RH,Pq,Ou,af,←kT,ints];refine⟨by omega,_,NT,?_⟩;by_cases h1:to=dp p
   ·simp[h1]
   simp[h1];refine⟨_,vK p to (by omega),by omega,?_⟩;cases whole
   ·simp
   cases h2:hasB p to
   ·have cQ:to∉p:=fun hm=>by
     have:hasB p to=true:=by simp[hasB,hm]
     rw[h2] at this;cases this
    simp[h2];refine⟨m,by omega,p++[to],by simp,?_,?_,by simp,by simp;omega,rfl⟩
    ·exact B7.mpr ⟨bn,by simp,fun x hx y hy=>by simp at hy;subst hy;exact fun e=>cQ (e▸hx)⟩
    ·intro x hx;rcases dJ.mp hx with h|h
     ·exact bt x h
     ·simp at h;subst h;exact⟨gw,gx⟩
   ·cases h3:r.orders[to.toNat].accepts<;>simp[h2,h3,w7]<;>omega
 ·have hE:ji r a q l=([],1):=by unfold ji;rw[if_neg (by simp[h0,DX])]
  rw[hE];simp[h0,DX];rfl
end Rm
namespace Rm
open Go Go.Proofs Cx
def eL (f:File)(i:Int):Sign:=f.signs.getD i.toNat default
def lO (r:Realm)(forum:Int)(c:Case):List Int:=[forum,gN r (eL c.file c.sign).city,gN r c.file.bill.pay,gN r c.file.bill.city,gN r (r.firms.getD (eL c.file c.sign).who.toNat default).city]
def pD (r:Realm)(forum:Int)(c:Case):Prop:=(eL c.file c.sign).who<0∨(r.firms.length:Int)≤(eL c.file c.sign).who∨forum<0∨(r.orders.length:Int)≤forum
instance (r:Realm) (forum:Int) (c:Case):Decidable (pD r forum c):=by unfold pD;infer_instance
def fZ (r:Realm)(forum:Int)(c:Case):List Int:=if pD r forum c then[] else if hasB (lO r forum c) (-1)=true then[] else lO r forum c
@[simp] theorem aye (r:Realm)(x:Int):yG (bk r) x=gN r x:=by
  unfold yG gN aC;by_cases h:0≤x∧x<(r.cities.length:Int)
  ·have hx:x.toNat<r.cities.length:=by omega
   rw[if_pos (by simpa using h),if_pos (by simpa using h)];simp[hx]
  ·rw[if_neg (by simpa using h),if_neg (by simpa using h)]
theorem acx (r:Realm)(forum:Int)(c:Case)(h1:c.sign.toNat<c.file.signs.length):QW [bk r,.int forum,dZ c]=ints (fZ r forum c):=by
 have hs:eL c.file c.sign=c.file.signs[c.sign.toNat]:=by simp[eL,h1]
 unfold QW fZ;simp[h1];by_cases hb:pD r forum c
 ·rw[if_pos (by simpa [pD,hs] using hb),if_pos hb];rfl
 ·rw[if_neg (by simpa [pD,hs] using hb),if_neg hb];have Jr:(eL c.file c.sign).who.toNat<r.firms.length:=by unfold pD at hb;omega
  have Zx:c.file.signs[c.sign.toNat].who.toNat<r.firms.length:=by rw[←hs];exact Jr
  have ko:lO r forum c=[forum,gN r c.file.signs[c.sign.toNat].city,gN r c.file.bill.pay,gN r c.file.bill.city,gN r r.firms[c.file.signs[c.sign.toNat].who.toNat].city]:=by
   simp[lO,hs,Zx]
  have dg:∀l:List Int,hasB l (-1)=true↔-1∈l:=fun l=>by simp[hasB]
  rw[ko];simp[Zx];split
  ·rename_i h;rw[if_pos ((dg _).mpr (by simpa using h))];rfl
  ·rename_i h;rw[if_neg (fun h'=>h (by simpa using(dg _).mp h'))]
theorem acy (r:Realm)(forum:Int)(c:Case)(h1:0≤c.sign∧c.sign<c.file.signs.length):ak T 40 [bk r,.int forum,dZ c] (ints (fZ r forum c)):=by
 have cw:c.sign.toNat<c.file.signs.length:=by omega
 rw[←acx r forum c cw];have hs:eL c.file c.sign=c.file.signs[c.sign.toNat]:=by simp[eL,cw]
 refine ak.of_nsl rfl asX asY ?_;rw[acx r forum c cw];by_cases hb:pD r forum c
 ·refine .inr ⟨by simp[fZ,hb];rfl,?_⟩;have ew:=hb;simp[pD,hs] at ew;simp[Lx,h1,cw]
  intros;omega
 have q9:fZ r forum c=if hasB (lO r forum c) (-1)=true then[] else lO r forum c:=by unfold fZ;rw[if_neg hb]
 have ew:=hb;simp[pD,hs] at ew;have hw:c.file.signs[c.sign.toNat].who.toNat<r.firms.length:=by omega
 have hC:=vK (lO r forum c) (-1) (by simp[lO]);cases hh:hasB (lO r forum c) (-1)<;>rw[hh] at hC<;>simp[lO,ints,hs,hw] at hC
 ·refine .inl ⟨(lO r forum c).map .int,by simp[lO],by rw[q9,hh];rfl,?_⟩;simp[Tf,h1,cw,hw];rw[if_neg (by omega)];refine⟨_,qz r _,_,qz r _,_,qz r _,by omega,_,qz r _,_,by simpa using hC,?_⟩;simp[lO,hs,hw]
 ·refine .inr ⟨by rw[q9,hh];rfl,?_⟩;simp[Lx,h1,cw,hw]
  intros
  refine⟨_,qz r _,_,qz r _,_,qz r _,by omega,_,qz r _,_,by simpa using hC,?_⟩;simp
end Rm
namespace Rm
open Go Go.Proofs Cx
structure Right (r:Realm):Prop where
 by_:B3 r
 len:r.orders.length≤100000
 ok:∀o,o∈r.orders→o.OK∧o.rules.length≤100000
structure FewS (f:File):Prop where
 signs:f.signs.length≤1000
 alters:f.alters.length≤1000
 acts:f.acts.length≤1000
 facts:f.facts.length≤1000
theorem aez {α:Type}(p:α→Bool)(l:List α):(l.takeWhile p).length≤l.length:=by
 obtain⟨m,h1,h2,_⟩:=LK p l;rw[h2,dW];omega
theorem FewS.at_ {f:File}(h:FewS f)(day:Int):FewS (dY f day):=
 ⟨iv (aez _ _) h.1,iv (pw _ _) h.2,iv (aez _ _) h.3,iv (pw _ _) h.4⟩
def bG (c:Case):Case:={c with file:=dY c.file c.day}
@[simp] theorem ax5 (x:File)(a0 a1 a2 a3 a4 a5 a6 a7 a8 a9 nP nQ a12 nR nS qN qO qP sw:D)(s h d u y:Int):kM 24 (D.agg (eM [a0,a1,a2,a3,a4,a5,a6,a7,a8,a9,nP,nQ,a12,nR,nS,qN,qO,qP,sw,.int s,.int h,.int d,.int u,.int y] 0 [.int x.bill.drawer,.int x.bill.drawee,.int x.bill.payee,.int x.bill.sum,.int x.bill.currency,.int x.bill.tenor.kind,.int x.bill.tenor.n,.int x.bill.tenor.unit,.int x.bill.day,.int x.bill.city,.int x.bill.pay,.int x.bill.need,.int x.bill.rate,.int x.bill.flags,.int x.bill.parts,signs x.signs,alters x.alters,acts x.acts,facts x.facts]))=dZ ⟨x,s,h,d,u,y⟩:=_root_.id rfl
theorem Wl (r:Realm)(c:Case)(hf:FewS c.file):ak T 39 [bk r,dZ c] (.tup [dZ (bG c),cells (bY r (bG c))]):=by
 refine .of_tree rfl (lA 7 (by kernel_rfl)) asW ?_;simp[Te];have h1:=hf.1;have h2:=hf.2;have h3:=hf.3;have h4:=hf.4;refine⟨_,Sy c.file c.day (by omega) (by omega) (by omega) (by omega),?_⟩;have IY:=hf.at_ c.day;have h5:=IY.4;have h6:=IY.2;simp;exact⟨adG r (bG c) (by show(dY c.file c.day).facts.length≤_;omega) (by show(dY c.file c.day).alters.length≤_;omega),(congrArg (kM 24) (aqp (bG c) _ _ _ _ _ _ _ _ _ _ _ _ _ _ _ _ _ _ _ _ _ _ _ _)).trans (af6 (bG c))⟩
theorem afc {r:Realm}{c:Case}(h:bY r c≠[]):0≤c.sign∧c.sign<c.file.signs.length:=by
 unfold bY at h;split at h
 ·rename_i hh;have h1:=hh.1;unfold kc at h1;simp[aC] at h1;omega
 ·exact absurd rfl h
theorem ZZ (r:Realm)(pX:B3 r)(q:Int)(l:List Int)(hl:l.length≤100000)(Aa:∀b:Int,0≤b→b<r.orders.length→mf r b q l=true):∀(n:Nat) (p:List Int),p≠[]→(∀x,x∈p→0≤x∧x<(r.orders.length:Int))→
 (la r q l n p).1≠[]∧∀x,x∈(la r q l n p).1→0≤x∧x<(r.orders.length:Int)
 |0,p,aw,hp=>⟨aw,hp⟩
 |n+1,p,aw,hp=>by
  have af:p.length-1<p.length:=by have:=GM.mpr aw;omega
  have kT:dp p=p[p.length-1]:=by simp[dp,af]
  have wO:=hp _ (cS af);rw[←kT] at wO;obtain⟨_,ht⟩:=VL r pX (dp p) q l hl (Aa _ wO.1 wO.2)
  have aT:∀x,x∈p++[(gy r (dp p) q l).1]→0≤x∧x<(r.orders.length:Int):=fun x hx=>by
   rcases dJ.mp hx with h|h
   ·exact hp x h
   ·simp at h;subst h;exact ht
  rw[PL];split
  ·exact⟨aw,hp⟩
  split
  ·exact⟨by simp,aT⟩
  split
  ·exact⟨by simp,aT⟩
  ·exact ZZ r pX q l hl Aa n _ (by simp) aT
theorem PK {r:Realm}(hr:Right r){a q:Int}{l:List Int}(hl:l.length≤100000)(h:(ji r a q l).2=0):(ji r a q l).1≠[]∧0≤dp (ji r a q l).1∧dp (ji r a q l).1<r.orders.length:=by
 unfold ji at h ⊢;split at h
 ·rename_i hh;rw[if_pos hh];obtain⟨ha,I8,hx,Aa⟩:=Ny hh.1;obtain⟨h1,h2⟩:=ZZ r hr.by_ q l hl Aa r.orders.length [a] (by simp) (fun x hx=>by simp at hx;subst hx;exact ha);refine⟨h1,?_⟩;have af:(la r q l r.orders.length [a]).1.length-1<(la r q l r.orders.length [a]).1.length:=by have:=GM.mpr h1;omega
  have kT:dp (la r q l r.orders.length [a]).1=(la r q l r.orders.length [a]).1[(la r q l r.orders.length [a]).1.length-1]:=by simp[dp,af]
  rw[kT];exact h2 _ (cS af)
 ·cases h
theorem Z0 (r:Realm)(q:Int)(l:List Int):∀(n:Nat) (p:List Int),(la r q l n p).1.length≤p.length+n
 |0,p=>by simp[la]
 |n+1,p=>by
  rw[PL];split
  ·simp
  split
  ·simp
  split
  ·simp
  ·have:=Z0 r q l n (p++[(gy r (dp p) q l).1]);simp at this;omega
theorem anR (r:Realm)(a q:Int)(l:List Int):(ji r a q l).1.length≤1+r.orders.length:=by
 unfold ji;split
 ·exact Z0 r q l _ [a]
 ·simp
@[simp] theorem aBI (a b c d e x:D):eM [a,b,c,d,e] 2 [x]=[a,b,x,d,e]:=_root_.id rfl
@[simp] theorem aBJ (a b c d e x:D):eM [a,b,c,d,e] 3 [x]=[a,b,c,x,e]:=_root_.id rfl
@[simp] theorem aBK (a b c d e x:D):eM [a,b,c,d,e] 4 [x]=[a,b,c,d,x]:=_root_.id rfl
def AP:Said:=⟨dA,-1,[],1⟩
def cY (r:Realm)(forum q:Int)(c:Case):Said×List Cell:=
 if bY r (bG c)=[] then(AP,[]) else if(nE q).2=false then(AP,[]) else if fZ r forum (bG c)=[] then(AP,[]) else
    (⟨dA,if(ji r forum q (fZ r forum (bG c))).2=0 then dp (ji r forum q (fZ r forum (bG c))).1 else-1,(ji r forum q (fZ r forum (bG c))).1,(ji r forum q (fZ r forum (bG c))).2⟩,bY r (bG c))
theorem QX (r:Realm)(forum:Int)(c:Case):(fZ r forum c).length≤5:=by
 unfold fZ;split
 ·simp
 split<;>simp[lO]
theorem Mn (r:Realm)(hr:Right r)(forum q:Int)(c:Case)(hf:FewS c.file):ak T 33 [bk r,.int forum,.int q,dZ c] (.tup [kg (cY r forum q c).1,cells (cY r forum q c).2]):=by
 refine .of_tree rfl (lA 6 (by kernel_rfl)) asV ?_;simp[Td];refine⟨_,Wl r c hf,?_⟩;by_cases hv:bY r (bG c)=[]
 ·simp[hv,cY];exact⟨rfl,rfl⟩
 simp[hv,cY];refine⟨_,QO q,?_⟩;cases hq:(nE q).2
 ·simp[hq];exact⟨rfl,rfl⟩
 simp[hq];refine⟨_,acy r forum (bG c) (afc hv),?_⟩;by_cases hp:fZ r forum (bG c)=[]
 ·simp[hp];exact⟨rfl,rfl⟩
 have fC:=QX r forum (bG c);have aw:ints (fZ r forum (bG c))≠.list []:=fun e=>hp (by simpa [ints] using e);simp[hp];generalize fZ r forum (bG c)=l at*;refine⟨_,afE r hr.by_ hr.len forum q l (by omega),?_⟩;have hlen:=anR r forum q l;have DY:=PK hr (a:=forum) (q:=q) (l:=l) (by omega);have OO:=hr.len;generalize ji r forum q l=L at*;obtain⟨path,err⟩:=L;simp only at*;by_cases he:err=0
 ·obtain⟨h1,h2⟩:=DY he;have amB:=GM.mpr h1;have Pq:IntKind.i64.wrap ((path.length:Int)-1)=(path.length:Int)-1:=bU (by omega);have Ou:((path.length:Int)-1).toNat=path.length-1:=by omega
  have af:path.length-1<path.length:=by omega
  have kT:dp path=path[path.length-1]:=by simp[dp,af]
  simp[he,Pq,Ou,af,←kT];exact⟨by omega,rfl⟩
 ·simp[he];rfl
def fo (r:Realm)(forum q:Int)(c:Case):Said:=
 if(cY r forum q c).1.order=-1 then(cY r forum q c).1
 else⟨(mc (lN r (cY r forum q c).1.order) q (cY r forum q c).2).1,(cY r forum q c).1.order,(cY r forum q c).1.path,(mc (lN r (cY r forum q c).1.order) q (cY r forum q c).2).2⟩
theorem Wi {r:Realm}(hr:Right r)(forum q:Int)(c:Case):(cY r forum q c).1.order=-1∨(0≤(cY r forum q c).1.order∧(cY r forum q c).1.order<r.orders.length):=by
 unfold cY;split
 ·exact .inl rfl
 split
 ·exact .inl rfl
 split
 ·exact .inl rfl
 ·have fC:=QX r forum (bG c);have DY:=PK hr (a:=forum) (q:=q) (l:=fZ r forum (bG c)) (by omega);show(if _ then _ else _)=_∨_;split
  ·rename_i h;exact .inr (DY h).2
  ·exact .inl rfl
theorem G0 (r:Realm)(hr:Right r)(forum q:Int)(c:Case)(hf:FewS c.file):ak T 8 [bk r,.int forum,.int q,dZ c] (kg (fo r forum q c)):=by
 refine .of_tree rfl (lA 5 (by kernel_rfl)) asP ?_;simp[S7];refine⟨_,Mn r hr forum q c hf,?_⟩;have ho:=Wi hr forum q c;unfold fo;generalize cY r forum q c=S at*;obtain⟨s,cs⟩:=S;simp only at*;by_cases h:s.order=-1
 ·obtain⟨⟨kn,n⟩,o,pth,e⟩:=s;simp only at h;subst h;simp;rfl
 ·have h1:0≤s.order∧s.order<r.orders.length:=by omega
  have h2:s.order.toNat<r.orders.length:=by omega
  have h3:lN r s.order=r.orders[s.order.toNat]:=by simp[lN,h2]
  obtain⟨av,hlen⟩:=hr.ok _ (cS h2);simp[h,h1,h2,h3];refine⟨_,aqk _ q cs av (by omega),?_⟩;simp;rfl
def sC (r:Realm)(forum q:Int)(f:File)(day:Int):Said:=fo r forum q ⟨{f with facts:=[]},0,-1,-1,-1,day⟩
theorem agm (r:Realm)(hr:Right r)(forum q:Int)(f:File)(day:Int)(hf:FewS f):ak T 10 [bk r,.int forum,.int q,cZ f,.int day] (kg (sC r forum q f day)):=by
 refine .of_tree rfl (lA 45 (by kernel_rfl)) asQ ?_;simp[S8];refine⟨kg (sC r forum q f day),G0 r hr forum q ⟨{f with facts:=[]},0,-1,-1,-1,day⟩ ⟨hf.1,hf.2,hf.3,by simp⟩,?_⟩;simp
 try rfl
def U8 (s:Said):Int:=if s.err≠0 then 0 else if s.cell.known=false then 2 else if s.cell.n≠0 then 1 else 0
theorem Mm (s:Said):ak T 13 [kg s] (.int (U8 s)):=by
 refine .of_tree rfl (lA 38 (by kernel_rfl)) asU ?_;unfold U8;by_cases h1:s.err=0<;>cases h2:s.cell.known<;>by_cases h3:s.cell.n=0<;>simp[Tc,h1,h2,h3]
def rC (s:Said):Int:=if s.err≠0∨s.cell.known=false then-1 else s.cell.n
theorem Wk (s:Said):ak T 15 [kg s] (.int (rC s)):=by
 refine .of_tree rfl (lA 39 (by kernel_rfl)) asS ?_;unfold rC;by_cases h1:s.err=0<;>cases h2:s.cell.known<;>simp[Ta,h1,h2]
end Rm
namespace Rm
open Go Go.Proofs Cx
end Rm
namespace Rm
open Go Go.Proofs Cx
theorem Jw (r:Realm)(c:Int):ak T 85 [bk r,.int c] (.bool (aC c r.cities.length)):=by
 refine .of_tree rfl (lA 65 (by kernel_rfl)) auE ?_;by_cases h1:0≤c<;>by_cases h2:c<r.cities.length<;>simp[UO,h1,h2,aC]
def ix (n:Int):Bool:=decide (0≤n)&&decide (n≤100000)
theorem Ey (n:Int):ak T 86 [.int n] (.bool (ix n)):=by
 refine .of_tree rfl (lA 66 (by kernel_rfl)) auF ?_;by_cases h1:0≤n<;>by_cases h2:n≤100000<;>simp[UP,h1,h2,ix]
theorem Gw (n:Int):ak T 166 [.int n] (.bool (ix n)):=by
 refine .of_tree rfl (lA 71 (by kernel_rfl)) as6 ?_;by_cases h1:0≤n<;>by_cases h2:n≤100000<;>simp[Tn,h1,h2,ix]
def Lj (t:Tenor):Bool:=decide (t.kind=0)||decide (t.kind=1)
theorem Mb (t:Tenor):ak T 87 [sK t] (.bool (Lj t)):=by
 refine .of_tree rfl (lA 67 (by kernel_rfl)) auD ?_;by_cases h1:t.kind=0<;>simp[UN,h1,Lj]
theorem aaJ (y m d:Int):∃n:Int,ak T 216 [.int y,.int m,.int d] (.int n):=by
 by_cases h:m<3
 ·refine⟨?w,?h⟩
  case h=>
   refine ak.of_tree (d:=.int ?w) rfl Wp aet ?_;simp[LB,h];exact rfl
 ·refine⟨?v,?g⟩
  case g=>
   refine ak.of_tree (d:=.int ?v) rfl Wp aet ?_;simp[LB,h];exact rfl
def EM (y m d:Int):Int:=(aaJ y m d).choose
theorem JR (y m d:Int):ak T 216 [.int y,.int m,.int d] (.int (EM y m d)):=(aaJ y m d).choose_spec
def AJ (y m:Int):Int:=if m=12 then 31 else IntKind.i64.wrap (EM y (IntKind.i64.wrap (m+1)) 1-EM y m 1)
theorem JA (y m:Int):ak T 203 [.int y,.int m] (.int (AJ y m)):=by
 refine .of_tree rfl (lA 73 (by kernel_rfl)) as4 ?_;unfold AJ;by_cases h:m=12
 ·simp[LA,h]
 ·simp[LA,h];refine⟨_,JR _ _ _,_,JR _ _ _,?_⟩;simp
theorem afv (y m d:Int):∃n e:Int,ak T 202 [.int y,.int m,.int d] (.tup [.int n,.int e])∧(e=0→0≤n∧n≤100000):=by
 by_cases h0:(((2000≤y∧y≤2300)∧1≤m)∧m≤12)∧1≤d
 ·by_cases h2:d≤AJ y m
  ·cases h1:ix (EM y m d)
   ·refine⟨0,3,.of_tree rfl G2 Lz ?_,by simp⟩;simp[BT];rw[if_pos h0];refine⟨_,JA y m,?_⟩;simp[h0,h2];refine⟨_,JR _ _ _,_,Gw _,?_⟩;simp[h1]
   ·refine⟨EM y m d,0,.of_tree rfl G2 Lz ?_,fun _=>by simpa [ix] using h1⟩;simp[BT];rw[if_pos h0];exact⟨_,JA y m,⟨h0,h2⟩,_,JR _ _ _,_,Gw _,h1,rfl⟩
  ·refine⟨0,3,.of_tree rfl G2 Lz ?_,by simp⟩;simp[BT];rw[if_pos h0];refine⟨_,JA y m,?_⟩;simp[h0,h2]
 ·refine⟨0,3,.of_tree rfl G2 Lz ?_,by simp⟩;simp[BT];rw[if_neg h0];intro a1 a2 a3 a4 a5;exact absurd ⟨⟨⟨⟨a1,a2⟩,a3⟩,a4⟩,a5⟩ h0
theorem V2 (r:Realm)(fr to:Int)(hl:r.usances.length≤100000):∃n e:Int,ak T 99 [bk r,.int fr,.int to] (.tup [.int n,.int e])∧(e=0→∃u,u∈r.usances∧n=u.days)∧(e=0↔∃u,u∈r.usances∧u.fr=fr∧u.to=to):=by
 let p:Usance→Bool:=fun u=>decide (u.fr=fr)&&decide (u.to=to)
 refine⟨match r.usances.find? p with|some u=>u.days|none=>0,match r.usances.find? p with|some u=>0|none=>4,?_,?_⟩
 ·refine .of_tree rfl (lA 76 (by kernel_rfl)) at7 ?_;simp[Ul];refine aP.scan r.usances.length (fun k=>p (r.usances.getD k default)=false) (fun k=>[.int 0,.int 0,.int k]) (fun _=>[]) ?_ (fun k hk hj av=>?_) (fun k hk hj av=>?_) (fun hj=>?_)
  ·simp
  ·have hw:=bp hk (by omega);have hn:¬(r.usances[k].fr=fr∧r.usances[k].to=to):=by simpa [p,hk] using av
   simp[R3,FJ,hk,hw,hn]
  ·have om:=zP hk (by simpa [hk] using av) (fun j bE=>by have:=hj j bE;simpa [show j<r.usances.length by omega] using this);have hc:r.usances[k].fr=fr∧r.usances[k].to=to:=by simpa [p,hk] using av
   rw[om];simp[R3,FJ,hk,hc]
  ·have om:=Dj (l:=r.usances) (p:=p) (fun j bE=>by have:=hj j bE;simpa [bE] using this);rw[om];simp[R3,FJ]
 ·cases h:r.usances.find? p with
  |none=>
   refine⟨fun h=>(by cases h),fun h=>(by cases h),fun⟨u,hu,h1,h2⟩=>?_⟩;have:=vN.1 h u hu;simp[p,h1,h2] at this
  |some u=>
   have h2:u.fr=fr∧u.to=to:=by simpa [p] using LY h
   exact⟨fun _=>⟨u,vP h,rfl⟩,fun _=>⟨u,vP h,h2⟩,fun _=>rfl⟩
theorem afQ (r:Realm)(fr to:Int)(hl:r.usances.length≤100000):∃n e:Int,ak T 99 [bk r,.int fr,.int to] (.tup [.int n,.int e])∧(e=0→∃u,u∈r.usances∧n=u.days):=by
 obtain⟨n,e,h1,h2,_⟩:=V2 r fr to hl;exact⟨n,e,h1,h2⟩
end Rm
namespace Rm
open Go Go.Proofs Cx
theorem WR (R Y:Int)(hR:0≤R∧R<146097)(h1:365*Y≤R-R/1460+R/36524-R/146096)(h2:R-R/1460+R/36524-R/146096<365*Y+365):0≤R-(365*Y+Y/4-Y/100)∧R-(365*Y+Y/4-Y/100)≤500:=by
 have k0:R/36524≤R/1460:=by omega
 have k1:Y/4≤R/1460:=by omega
 have hY:0≤Y:=by omega
 have hc:R/36524=0∨R/36524=1∨R/36524=2∨R/36524=3∨R/36524=4:=by omega
 have k2:25*(R/36524)≤R/1460:=by omega
 refine⟨?_,?_⟩
 ·rcases Int.lt_or_le Y (100*(R/36524)) with hy|hy
  ·have k3:Y/4≤25*(R/36524)-1:=by omega
   have k4:R/36524-1≤Y/100:=by omega
   omega
  ·have k3:R/36524≤Y/100:=by omega
   omega
 ·omega
theorem WS (n:Int)(h:0≤n∧n≤100400):ak T 201 [.int n] (.tup [.int (fq n).1,.int (fq n).2.1,.int (fq n).2.2]):=by
 refine .of_tree rfl (lA 72 (by kernel_rfl)) as1 ?_;have w:∀x:Int,-1000000000≤x→x≤1000000000→IntKind.i64.wrap x=x:=fun x a b=>bU (by omega);have t:∀x y:Int,0≤x→x.tdiv y=x/y:=fun x y hx=>VJ hx;have u:∀x y:Int,0≤x→x.tmod y=x%y:=fun x y hx=>afC hx;simp[Ti];unfold fq;simp only[];rw[w (n+730425) (by omega) (by omega),u (n+730425) 146097 (by omega),t (n+730425) 146097 (by omega)];have hR:0≤(n+730425)%146097∧(n+730425)%146097<146097:=by omega
 have hE:0≤(n+730425)/146097∧(n+730425)/146097<100:=by omega
 generalize (n+730425)%146097=R at*;generalize (n+730425)/146097=e at*;rw[t R 1460 (by omega),t R 36524 (by omega),t R 146096 (by omega),w (R/1460) (by omega) (by omega),w (R-R/1460) (by omega) (by omega),w (R/36524) (by omega) (by omega),w (R-R/1460+R/36524) (by omega) (by omega),w (R/146096) (by omega) (by omega),w (R-R/1460+R/36524-R/146096) (by omega) (by omega),t (R-R/1460+R/36524-R/146096) 365 (by omega)];have hY:0≤(R-R/1460+R/36524-R/146096)/365∧(R-R/1460+R/36524-R/146096)/365<400:=by omega
 have hD:0≤R-(365*((R-R/1460+R/36524-R/146096)/365)+(R-R/1460+R/36524-R/146096)/365/4-(R-R/1460+R/36524-R/146096)/365/100)∧R-(365*((R-R/1460+R/36524-R/146096)/365)+(R-R/1460+R/36524-R/146096)/365/4-(R-R/1460+R/36524-R/146096)/365/100)≤500:=by
  exact WR R _ hR (by omega) (by omega)
 generalize (R-R/1460+R/36524-R/146096)/365=Y at*;rw[w Y (by omega) (by omega),w (365*Y) (by omega) (by omega),t Y 4 (by omega),t Y 100 (by omega),w (Y/4) (by omega) (by omega),w (Y/100) (by omega) (by omega),w (365*Y+Y/4) (by omega) (by omega),w (365*Y+Y/4-Y/100) (by omega) (by omega),w (R-(365*Y+Y/4-Y/100)) (by omega) (by omega)];generalize R-(365*Y+Y/4-Y/100)=D at*;rw[w (5*D) (by omega) (by omega),w (5*D+2) (by omega) (by omega),t (5*D+2) 153 (by omega)];have hM:0≤(5*D+2)/153∧(5*D+2)/153≤20:=by omega
 generalize (5*D+2)/153=M at*;rw[w M (by omega) (by omega),w (M+3) (by omega) (by omega),w (M+3-12) (by omega) (by omega),w e (by omega) (by omega),w (400*e) (by omega) (by omega),w (Y+400*e) (by omega) (by omega),w (Y+400*e+1) (by omega) (by omega)];rw[w (153*M) (by omega) (by omega),w (153*M+2) (by omega) (by omega),t (153*M+2) 5 (by omega),w ((153*M+2)/5) (by omega) (by omega),w (D-(153*M+2)/5) (by omega) (by omega),w (D-(153*M+2)/5+1) (by omega) (by omega)];refine⟨?_,?_,rfl⟩
 ·generalize (if 12<M+3 then M+3-12 else M+3)=m;split<;>rfl
 ·split<;>rfl
theorem afn (d n:Int):∃x e:Int,ak T 165 [.int d,.int n] (.tup [.int x,.int e])∧(e=0→0≤x∧x≤100000):=by
 by_cases h0:ix d=true∧-5000≤n∧n≤5000
 ·have hd:0≤d∧d≤100400:=by have:=h0.1;simp[ix] at this;omega
  obtain⟨A,hA⟩:∃A,A=IntKind.i64.wrap (IntKind.i64.wrap (IntKind.i64.wrap (IntKind.i64.wrap (12*(fq d).1)+(fq d).2.1)-1)+n):=⟨_,rfl⟩
  obtain⟨Y,hY⟩:∃Y,Y=IntKind.i64.wrap (A.tdiv 12):=⟨_,rfl⟩
  obtain⟨M,hM⟩:∃M,M=IntKind.i64.wrap (A.tmod 12+1):=⟨_,rfl⟩
  obtain⟨x,e,hD,hb⟩:=afv Y M (if AJ Y M<(fq d).2.2 then AJ Y M else(fq d).2.2);refine⟨x,e,.of_tree rfl Wo aes ?_,hb⟩;have n1:¬n< -5000:=by omega
  have n2:¬5000<n:=by omega
  simp[Ly,n1,n2];refine⟨_,Gw d,?_⟩;simp[h0.1];refine⟨_,WS d hd,?_⟩;simp[←hA,←hY,←hM];refine⟨_,JA Y M,?_⟩;by_cases hl:AJ Y M<(fq d).2.2
  ·simp only[if_pos hl] at hD;simp[hl];refine⟨_,hD,?_⟩;simp
  ·simp only[if_neg hl] at hD;simp[hl];refine⟨_,hD,?_⟩;simp
 ·refine⟨0,3,.of_tree rfl Wo aes ?_,by simp⟩;simp[Ly];refine⟨_,Gw d,?_⟩;simp;intro a b c;exact absurd ⟨a,b,c⟩ h0
end Rm
