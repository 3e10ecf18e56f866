/-
  Shared texts of this claim.
-/
import Derived.Test.YtmnnipoiigfapaaGreatDoorKAO
import Derived.Lib.Mul64
set_option linter.unusedSimpArgs false
set_option linter.unusedVariables false
namespace Rm
open Go Go.Proofs Cx
def BL (r:Realm)(k:Nat):Bool:=decide (((r.cities.getD k default).feasts.length:Int)≤70)&&decide (((r.cities.getD k default).shut.length:Int)≤210)&&decide (((r.cities.getD k default).rest.length:Int)≤8)
def BM (r:Realm)(k:Nat):Bool:=decide (((r.orders.getD k default).choices.length:Int)≤40)&&decide (((r.orders.getD k default).rules.length:Int)≤40)
def GF (r:Realm):Bool:=decide ((r.currencies.length:Int)<50)&&decide ((r.cities.length:Int)<50)&&decide ((r.groups.length:Int)<50)&&decide ((r.firms.length:Int)<210)&&decide ((r.orders.length:Int)<50)&&decide ((r.usances.length:Int)<110)&&decide ((r.rates.length:Int)<110)&&decide ((r.halts.length:Int)<50)
def oK (r:Realm):Bool:=ei (min r.cities.length 50) (BL r)&&ei (min r.orders.length 50) (BM r)&&GF r
theorem amX (r:Realm)(hr:r.OK):ao T 48 [ba r] (.bool (oK r)):=by
 refine .of_tree rfl (lA 100 (by kernel_rfl)) apx ?_;simp[Rw];refine fY (min r.cities.length 50) (BL r) (fun k=>[.bool false,.int k]) (fun _=>[]) ?_ (fun k hk ho=>?_) (fun k hk ho hb=>?_) (fun hj=>?_)
 ·simp
 ·have bt:k<r.cities.length:=by omega
  have cu:k<50:=by omega
  have hw:=br cu (by omega);simp[BL,bt] at ho;obtain⟨⟨a1,a2⟩,a3⟩:=ho;have b1:¬(70:Int)<r.cities[k].feasts.length:=by omega
  have b2:¬(210:Int)<r.cities[k].shut.length:=by omega
  have b3:¬(8:Int)<r.cities[k].rest.length:=by omega
  simp[DL,wV,bt,cu,hw,b1,b2,b3];omega
 ·have bt:k<r.cities.length:=by omega
  have cu:k<50:=by omega
  have hf:oK r=false:=by simp only[oK,hb,q6]
  rw[hf];simp[BL,bt] at ho;by_cases b1:(70:Int)<r.cities[k].feasts.length
  ·simp[DL,wV,bt,cu,b1];omega
  by_cases b2:(210:Int)<r.cities[k].shut.length
  ·simp[DL,wV,bt,cu,b1,b2];omega
  have b3:(8:Int)<r.cities[k].rest.length:=by have:=ho (by omega) (by omega);omega
  simp[DL,wV,bt,cu,b1,b2,b3];omega
 ·have hn:¬((min r.cities.length 50:Nat):Int)<r.cities.length∨¬((min r.cities.length 50:Nat):Int)<50:=by omega
  simp[DL,wV];rw[if_neg (by omega)];refine fY (min r.orders.length 50) (BM r) (fun k=>[.bool false,.int k]) (fun _=>[]) ?_ (fun k hk ho=>?_) (fun k hk ho hb=>?_) (fun vL=>?_)
  ·simp
  ·have bt:k<r.orders.length:=by omega
   have cu:k<50:=by omega
   have hw:=br cu (by omega);simp[BM,bt] at ho;obtain⟨a1,a2⟩:=ho;have b1:¬(40:Int)<r.orders[k].choices.length:=by omega
   have b2:¬(40:Int)<r.orders[k].rules.length:=by omega
   simp[I7,Ap,bt,cu,hw,b1,b2];omega
  ·have bt:k<r.orders.length:=by omega
   have cu:k<50:=by omega
   have hf:oK r=false:=by simp only[oK,hb,q6,xg]
   rw[hf];simp[BM,bt] at ho;by_cases b1:(40:Int)<r.orders[k].choices.length
   ·simp[I7,Ap,bt,cu,b1];omega
   have b2:(40:Int)<r.orders[k].rules.length:=by have:=ho (by omega);omega
   simp[I7,Ap,bt,cu,b1,b2];omega
  ·have hf:oK r=GF r:=by simp only[oK,hj,vL,xh]
   rw[hf];simp[I7,Ap];rw[if_neg (by omega)];unfold GF;by_cases c1:(r.currencies.length:Int)<50<;>simp[c1];by_cases c2:(r.cities.length:Int)<50<;>simp[c2];by_cases c3:(r.groups.length:Int)<50<;>simp[c3];by_cases c4:(r.firms.length:Int)<210<;>simp[c4];by_cases c5:(r.orders.length:Int)<50<;>simp[c5];by_cases c6:(r.usances.length:Int)<110<;>simp[c6];by_cases c7:(r.rates.length:Int)<110<;>simp[c7]
theorem Lz {r:Realm}(hr:r.OK)(h:oK r=true):Small r:=by
 simp only[oK,GF,ak,decide_eq_true_eq,xr] at h;obtain⟨⟨h1,h2⟩,⟨⟨⟨⟨⟨⟨⟨c1,c2⟩,c3⟩,c4⟩,c5⟩,c6⟩,c7⟩,c8⟩⟩:=h;obtain⟨k1,⟨k2,k2'⟩,⟨k3,k3'⟩,⟨k4,k4'⟩,⟨k5,k5'⟩,⟨k6,k6'⟩,⟨k7,k7'⟩,⟨k8,k8'⟩⟩:=hr;refine⟨by omega,by omega,by omega,by omega,by omega,by omega,by omega,by omega,fun c hc=>?_,fun o ho=>?_,fun x hx=>?_⟩
 ·obtain⟨k,hk,rfl⟩:=lE hc;have:=h1 k (by omega);simp[BL,hk] at this;have:=k2' _ hc;exact⟨by omega,by omega,by omega,fun y hy=>this.2.2.2.1.2 y hy⟩
 ·obtain⟨k,hk,rfl⟩:=lE ho;have:=h2 k (by omega);simp[BM,hk] at this;omega
 ·have:=k7' x hx;exact⟨this.2.2.1,this.2.2.2.1⟩
def rK (r:Realm)(f:File):Bool:=(oK r&&BN f)&&ei r.orders.length (fun k=>qa (r.orders.getD k default))
theorem anf (r:Realm)(f:File)(hr:r.OK):ao T 21 [ba r,aY f] (.bool (rK r f)):=by
 refine .of_tree rfl (lA 99 (by kernel_rfl)) apN ?_;simp[RN];refine⟨_,amX r hr,?_⟩;cases e1:oK r
 ·simp[rK,e1]
 simp;refine⟨_,ane f,?_⟩;cases e2:BN f
 ·simp[rK,e1,e2]
 have hs:=Lz hr e1;have ho:=hs.orders;have hf:rK r f=ei r.orders.length (fun k=>qa (r.orders.getD k default)):=by simp only[rK,e1,e2,xh]
 rw[hf];simp;have hO:=hr.2.2.2.2.1.2;refine fY r.orders.length (fun k=>qa (r.orders.getD k default)) (fun k=>[.bool false,.int k]) (fun _=>[]) ?_ (fun k hk ho=>?_) (fun k hk ho hb=>?_) (fun hj=>?_)
 ·simp
 ·have hw:=br hk (by omega);simp[hk] at ho;simp[PS,D1,hk];refine⟨_,aaj _ (hO _ (dA hk)),?_⟩;simp[ho,hw]
 ·simp only[aK] at hb;rw[hb];simp[hk] at ho;simp[PS,D1,hk];refine⟨_,aaj _ (hO _ (dA hk)),?_⟩;simp[ho]
 ·simp only[aK] at hj;rw[hj];simp[PS,D1]
def GM (r:Realm)(f:File):Bool:=rK r f&&decide (lK r=0)
def oE (n:Int):Int:=min (max n (-1099511627776)) 1099511627776
theorem JE (n:Int):ao T 162 [.int n] (.int (oE n)):=by
 refine .of_tree rfl (lA 78 (by kernel_rfl)) aqt ?_;simp[Su,oE];by_cases h1:-1099511627776>n
 ·have:¬(1099511627776:Int)< -1099511627776:=by omega
  simp[h1];omega
 ·by_cases h2:(1099511627776:Int)<n
  ·simp[h1,h2];omega
  ·simp[h1,h2];omega
def ml (v:Int):Int×Bool:=if v<0∨19<v then(0,false) else if v<7 then(0,true) else(1,true)
theorem abw (v:Int):ao T 160 [.int v] (.tup [.int (ml v).1,.bool (ml v).2]):=by
 refine .of_tree rfl (lA 79 (by kernel_rfl)) aqp ?_;simp[Sp,ml];by_cases h1:v<0
 ·simp[h1]
 by_cases h2:19<v
 ·simp[h1,h2]
 by_cases h3:v<7
 ·simp[h1,h2,h3]
 ·simp[h1,h2,h3]
def Db (t:Tm):Int×Int:=
 if 0<t.args.length then(0,2) else if t.op=0 then(if oE t.n≠t.n then(0,3) else(0,0)) else if t.op=1 then(if t.n<0∨1<t.n then(0,3) else(1,0)) else if(ml t.n).2=false then(0,10) else((ml t.n).1,0)
theorem aoD (t:Tm):ao T 158 [dD t] (.tup [.int (Db t).1,.int (Db t).2]):=by
 refine .of_tree rfl (lA 77 (by kernel_rfl)) aqu ?_;simp[Sv,Db];by_cases h0:0<t.args.length
 ·have fL:(0:Int)<t.args.length:=by omega
  simp[h0,fL]
 simp[h0];by_cases h1:t.op=0
 ·simp[h1];refine⟨_,JE _,?_⟩;by_cases h2:oE t.n=t.n<;>simp[h2]
 by_cases h2:t.op=1
 ·simp[h1,h2];by_cases h3:t.n<0<;>by_cases h4:1<t.n<;>simp[h3,h4]
 simp[h1,h2];refine⟨_,abw _,?_⟩;cases h3:(ml t.n).2<;>simp[h3]
def eK (op:Int):List Int×Int:=
 if op=3 then([1],1) else if op=4∨op=5 then([1,1],1) else if op=6 then([1,-1,-1],-1) else if op=7 then([0,0],1) else if op=8 then([-1,-1],1) else([0,0],0)
def BI (s:List Int×Int):D:=.agg [ints s.1,.int s.2]
@[simp] theorem atm (s:List Int×Int):(BI s).cells=[ints s.1,.int s.2]:=_root_.id rfl
@[simp] theorem atk (s:List Int×Int):(BI s).c 0=ints s.1:=_root_.id rfl
@[simp] theorem atl (s:List Int×Int):(BI s).c 1=.int s.2:=_root_.id rfl
@[simp] theorem aw5 (s:List Int×Int):D.agg [ints s.1,.int s.2]=BI s:=_root_.id rfl
@[simp] theorem axY (x y:Int):sK (.int x) 0 (.int y)=.int y:=_root_.id rfl
theorem aoF (op:Int):ao T 159 [.int op] (BI (eK op)):=by
 refine .of_tree rfl (lA 80 (by kernel_rfl)) aqy ?_;simp[Sz,eK];by_cases h3:op=3
 ·simp[h3];rfl
 by_cases h4:op=4
 ·simp[h4];rfl
 by_cases h5:op=5
 ·simp[h5];rfl
 by_cases h6:op=6
 ·simp[h6];rfl
 by_cases h7:op=7
 ·simp[h7];rfl
 by_cases h8:op=8
 ·simp[h8];rfl
 simp[h3,h4,h5,h6,h7,h8];rfl
end Rm
namespace Rm
open Go Go.Proofs Cx
def fF (f:Tm→Int):List Tm→Int→Int
 |[],n=>n
 |a::l,n=>if 60<n+f a then n+f a else fF f l (n+f a)
def cL:Nat→Tm→Int
 |0,_=>61
 |L+1,t=>fF (cL L) t.args 1
def dJ (f:Tm→Int)(l:List Tm):Int:=(l.map f).sum
theorem H5 {f:Tm→Int}{l:List Tm}{k:Nat}(h:k<l.length):dJ f (l.take (k+1))=dJ f (l.take k)+f l[k]:=by
 unfold dJ;rw[AF f h,List.sum_append];simp
theorem XI {f:Tm→Int}:∀{l:List Tm} {n:Int} {k:Nat},(hk:k<l.length)→(∀j,j<k→n+dJ f (l.take (j+1))≤60)→60<n+dJ f (l.take (k+1))→fF f l n=n+dJ f (l.take (k+1))
 |a::l,n,0,hk,_,h=>by
  simp[dJ] at h ⊢;unfold fF;rw[if_pos (by omega)]
 |a::l,n,k+1,hk,hj,h=>by
  have h0:=hj 0 (by omega);simp[dJ] at h0;unfold fF;rw[if_neg (by omega)];have e:∀j,n+dJ f ((a::l).take (j+1+1))=n+f a+dJ f (l.take (j+1)):=by intro j;simp[dJ];omega
  rw[XI (l:=l) (k:=k) (by simpa using hk) (fun j Hm=>by have:=hj (j+1) (by omega);rw[e] at this;exact this) (by rw[←e];exact h),e]
theorem XK {f:Tm→Int}:∀{l:List Tm} {n:Int},(∀j,j<l.length→n+dJ f (l.take (j+1))≤60)→fF f l n=n+dJ f l
 |[],n,_=>by simp[fF,dJ]
 |a::l,n,hj=>by
  have h0:=hj 0 (by simp);simp[dJ] at h0;unfold fF;rw[if_neg (by omega)];have e:∀j,n+dJ f ((a::l).take (j+1+1))=n+f a+dJ f (l.take (j+1)):=by intro j;simp[dJ];omega
  rw[XK (l:=l) (fun j fO=>by have:=hj (j+1) (by simpa using fO);rw[e] at this;exact this)];simp[dJ];omega
theorem XJ {f:Tm→Int}(hf:∀a,1≤f a):∀{l:List Tm} {n:Int},n≤fF f l n
 |[],n=>by simp[fF]
 |a::l,n=>by
  unfold fF;have:=hf a;split
  ·omega
  ·have:=XJ hf (l:=l) (n:=n+f a);omega
theorem wx:∀(L:Nat) (t:Tm),1≤cL L t
 |0,t=>by simp[cL]
 |L+1,t=>XJ (wx L)
theorem XL {f:Tm→Int}{B:Int}(hf:∀a,f a≤B)(hB:0≤B):∀{l:List Tm} {n:Int},n≤60→fF f l n≤60+B
 |[],n,h=>by simp[fF];omega
 |a::l,n,h=>by
  unfold fF;have:=hf a;split
  ·omega
  ·exact XL hf hB (by omega)
theorem XN:∀(L:Nat) (t:Tm),cL L t≤61+60*L
 |0,t=>by simp[cL]
 |L+1,t=>by
  have:=XL (f:=cL L) (fun a=>XN L a) (by omega) (l:=t.args) (n:=1) (by omega);show fF _ _ _≤_;omega
theorem XM {f:Tm→Int}(hf:∀a,1≤f a):∀{l:List Tm} {n:Int},fF f l n≤60→(n:Int)+l.length≤60∧∀a,a∈l→f a≤60-n
 |[],n,h=>by simp[fF] at h ⊢;exact h
 |a::l,n,h=>by
  unfold fF at h;have:=hf a;split at h
  ·omega
  ·obtain⟨h1,h2⟩:=XM hf h;refine⟨by simp;omega,fun b hb=>?_⟩;rcases cD.1 hb with rfl|hb
   ·omega
   ·have:=h2 b hb;omega
theorem NN {L:Nat}{t:Tm}(h:cL (L+1) t≤60):t.args.length≤59∧∀a,a∈t.args→cL L a≤60:=by
 obtain⟨h1,h2⟩:=XM (wx L) h;exact⟨by omega,fun a ha=>by have:=h2 a ha;omega⟩
theorem QK:∀(L:Nat) (t:Tm) (lv:Int),t.OK→L≤8→lv=9-(L:Int)→ao T 146 [dD t,.int lv] (.int (cL L t))
 |0,t,lv,ht,hL,Mr=>by
  refine .of_tree rfl TZ abE ?_;subst Mr;simp[JK,cL]
 |L+1,t,lv,ht,hL,Mr=>by
  refine .of_tree rfl TZ abE ?_;have hl:=ht.len;have h8:¬(8<lv):=by omega
  have zo:IntKind.i64.wrap (lv+1)=lv+1:=bV (by omega);simp[JK,h8];refine .scan t.args.length (fun k=>1+dJ (cL L) (t.args.take (k+1))≤60) (fun k=>[.int (1+dJ (cL L) (t.args.take k)),.int k]) (fun _=>[]) ?_ (fun k hk hj ho=>?_) (fun k hk hj ho=>?_) (fun hj=>?_)
  ·simp[dJ]
  all_goals try rw[H5 hk] at ho
  ·have hw:IntKind.i64.wrap ((k:Int)+1)=(k:Int)+1:=bV (by omega);have ir:=QK L t.args[k] (lv+1) (ht.arg (dA hk)) (by omega) (by omega);rw[H5 hk];have hs:0≤dJ (cL L) (t.args.take k):=by
    unfold dJ;have:∀(l:List Tm),0≤(l.map (cL L)).sum:=by
     intro l
     induction l with
     |nil=>simp
     |cons a l ih=>have:=wx L a;simp;omega
    exact this _
   have gP:=wx L t.args[k];generalize dJ (cL L) (t.args.take k)=m at*;generalize cL L t.args[k]=v at*;have oZ:IntKind.i64.wrap (1+m+v)=1+m+v:=bV (by omega);have dT:¬60<1+m+v:=by omega
   simp[Qi,Eo,hk,zo];refine⟨_,ir,?_⟩;simp[oZ,dT,hw];omega
  ·have ir:=QK L t.args[k] (lv+1) (ht.arg (dA hk)) (by omega) (by omega);have hf:cL (L+1) t=1+dJ (cL L) (t.args.take (k+1)):=XI hk hj (by rw[H5 hk];omega);rw[hf,H5 hk];have hs:0≤dJ (cL L) (t.args.take k)∧1+dJ (cL L) (t.args.take k)≤60:=by
    constructor
    ·unfold dJ;have:∀(l:List Tm),0≤(l.map (cL L)).sum:=by
       intro l
       induction l with
       |nil=>simp
       |cons a l ih=>have:=wx L a;simp;omega
     exact this _
    ·cases k with
     |zero=>simp[dJ]
     |succ k=>exact hj k (by omega)
   have gP:=wx L t.args[k];have cY:=XN L t.args[k];generalize dJ (cL L) (t.args.take k)=m at*;generalize cL L t.args[k]=v at*;have oZ:IntKind.i64.wrap (1+m+v)=1+m+v:=bV (by omega);have dT:60<1+m+v:=by omega
   simp[Qi,Eo,hk,zo];refine⟨_,ir,?_⟩;simp[oZ,dT];omega
  ·have hf:cL (L+1) t=1+dJ (cL L) t.args:=XK hj;rw[hf];simp[Qi,Eo]
def mP (ws ts:List Int):Nat→Int
 |0=>-1
 |k+1=>if ws.getD k 0=-1∧mP ws ts k=-1 then ts.getD k 0 else mP ws ts k
def nH (ws ts:List Int)(k:Nat):Bool:=if ws.getD k 0=-1 then decide (mP ws ts k=-1)||decide (ts.getD k 0=mP ws ts k) else decide (ts.getD k 0=ws.getD k 0)
def wz (t:Tm)(ks:List Int):Int×Int:=
 if t.op<0∨13<t.op then(0,1) else if t.op=0∨t.op=1∨t.op=2 then Db t else
 if ks.length≠(eK t.op).1.length∨t.n≠0 then(0,2) else
 if ei (eK t.op).1.length (nH (eK t.op).1 ks)=false then(0,11) else if(eK t.op).2=-1 then(mP (eK t.op).1 ks (eK t.op).1.length,0) else((eK t.op).2,0)
def ct:Nat→Tm→Int×Int
 |0,_=>(0,0)
 |L+1,t=>if fq t.args.length (fun k=>(ct L (t.args.getD k default)).2)≠0 then(0,fq t.args.length (fun k=>(ct L (t.args.getD k default)).2)) else wz t (t.args.map fun a=>(ct L a).1)
theorem Lb (L:Nat)(t:Tm):ct (L+1) t=if fq t.args.length (fun k=>(ct L (t.args.getD k default)).2)≠0 then(0,fq t.args.length (fun k=>(ct L (t.args.getD k default)).2)) else wz t (t.args.map fun a=>(ct L a).1):=rfl
theorem QA {α:Type}(A:List α)(z:α){k n:Nat}(hA:A.length=n)(hk:k<n):(A.take k++List.replicate (n-k) z).set k A[k]=A.take (k+1)++List.replicate (n-(k+1)) z:=by
 have h1:(A.take k).length=k:=by rw[dR];omega
 rw[List.set_append_right _ _ (by omega),h1,J7];have:n-k=(n-(k+1))+1:=by omega
 rw[this,List.replicate_succ,List.set_cons_zero,m9 (by omega),pP];rfl
theorem aoc (op:Int):(eK op).1.length≤3:=by
 unfold eK;repeat' split
 all_goals simp
theorem QJ:∀(L:Nat) (t:Tm),t.OK→cL L t≤60→ao T 147 [dD t] (.tup [.int (ct L t).1,.int (ct L t).2])
 |0,t,ht,hm=>by simp[cL] at hm
 |L+1,t,ht,hm=>by
  refine .of_tree rfl (lA 76 (by kernel_rfl)) aqr ?_;obtain⟨hl,hp⟩:=NN hm;simp[Sr];refine⟨by omega,?_⟩;refine nY t.args.length (fun k=>(ct L (t.args.getD k default)).2) (fun k=>[.int 0,.int 0,.int k]) (fun k=>[ints ((t.args.map fun a=>(ct L a).1).take k++List.replicate (t.args.length-k) 0)]) ?_ (fun k hk ho=>?_) (fun k hk ho hb=>?_) (fun hj=>?_)
  ·simp[ints]
  ·have hw:=br hk (by omega);have cV:=dA hk;have ir:=QJ L t.args[k] (ht.arg cV) (hp _ cV);have hs:=QA (t.args.map fun a=>(ct L a).1) 0 (n:=t.args.length) (by simp) hk;rw[←hs];have hlen:((t.args.map fun a=>(ct L a).1).take k++List.replicate (t.args.length-k) (0:Int)).length=t.args.length:=by simp;omega
   have Ml:(t.args.map fun a=>(ct L a).1)[k]'(by simpa using hk)=(ct L t.args[k]).1:=by simp
   rw[Ml];generalize (t.args.map fun a=>(ct L a).1).take k++List.replicate (t.args.length-k) (0:Int)=A at*;simp[hk] at ho;rw[ho] at ir;generalize (ct L t.args[k]).1=kd at*;simp[Qg,Em,hk];refine⟨_,ir,?_⟩;simp[hlen,hk,hw,ints]
  ·have cV:=dA hk;have ir:=QJ L t.args[k] (ht.arg cV) (hp _ cV);have hf:ct (L+1) t=(0,(ct L (t.args.getD k default)).2):=by
    rw[Lb,hb,if_pos ho]
   rw[hf];simp[hk] at ho ⊢;simp[Qg,Em,hk];refine⟨_,ir,?_⟩;simp[ho]
  ·have hf:ct (L+1) t=wz t (t.args.map fun a=>(ct L a).1):=by
    rw[Lb,hj];simp
   rw[hf]
   have e0:(t.args.map fun a=>(ct L a).1).take t.args.length++List.replicate (t.args.length-t.args.length) 0=t.args.map fun a=>(ct L a).1:=by
    rw[J7,AX (by simp)];simp
   rw[e0];have VY:(t.args.map fun a=>(ct L a).1).length=t.args.length:=by simp
   generalize (t.args.map fun a=>(ct L a).1)=ks at*;simp[Qg,Em];unfold wz;by_cases h1:t.op<0
   ·simp[h1]
   by_cases h2:13<t.op
   ·simp[h1,h2]
   simp[h1,h2];by_cases h3:t.op=0∨t.op=1∨t.op=2
   ·have eT:(t.op=0∨t.op=1)∨t.op=2:=by omega
    simp[h3,eT];refine⟨_,aoD t,?_⟩;simp
   have eT:¬((t.op=0∨t.op=1)∨t.op=2):=by omega
   simp[h3,eT];refine⟨_,aoF _,?_⟩;have hsl:=aoc t.op;generalize eK t.op=sh at*;simp;by_cases h4:ks.length=sh.1.length
   case neg=>
    have rO:¬((ks.length:Int)=sh.1.length):=by omega
    have GU:¬t.args.length=sh.1.length:=by omega
    simp[h4,rO,GU]
   have rO:(ks.length:Int)=sh.1.length:=by omega
   have GU:t.args.length=sh.1.length:=by omega
   by_cases h5:t.n=0
   case neg=>simp[h4,rO,GU,h5]
   simp[h4,rO,GU,h5];refine fY sh.1.length (nH sh.1 ks) (fun k=>[.int 0,.int 0,.int (mP sh.1 ks k),.int k]) (fun _=>[]) ?_ (fun k hk ho=>?_) (fun k hk ho hb=>?_) (fun hj=>?_)
   ·simp[mP]
   ·have hw:=br hk (by omega);have cu:k<ks.length:=by omega
    simp only[mP];unfold nH at ho;simp only[aK,bA hk,bA cu,jj] at ho ⊢;generalize mP sh.1 ks k=c at*;by_cases a1:sh.1[k]=-1
    ·by_cases a2:c=-1
     ·simp[At,uB,hk,cu,hw,ints,a1,a2]
     ·simp[a1,a2] at ho;simp[At,uB,hk,cu,hw,ints,a1,a2,ho]
    ·simp[a1] at ho;simp[At,uB,hk,cu,hw,ints,a1,ho]
   ·rw[hb];have cu:k<ks.length:=by omega
    unfold nH at ho;simp only[aK,bA hk,bA cu,jj] at ho;generalize mP sh.1 ks k=c at*;by_cases a1:sh.1[k]=-1
    ·by_cases a2:c=-1
     ·simp[a1,a2] at ho
     ·simp[a1,a2] at ho;simp[At,uB,hk,cu,ints,a1,a2,ho]
    ·simp[a1] at ho;simp[At,uB,hk,cu,ints,a1,ho]
   ·rw[hj];simp[At,uB];by_cases a1:sh.2=-1<;>simp[a1]
def ng (t:Tm):Int×Int:=if 60<cL 8 t then(0,6) else ct 8 t
theorem abv (t:Tm)(ht:t.OK):ao T 133 [dD t] (.tup [.int (ng t).1,.int (ng t).2]):=by
 refine .of_tree rfl (lA 74 (by kernel_rfl)) aqn ?_;simp[Sn,ng];refine⟨_,QK 8 t 1 ht (by omega) (by omega),?_⟩;by_cases h:60<cL 8 t
 ·simp[h]
 simp[h];refine⟨_,QJ 8 t ht (by omega),?_⟩;simp
end Rm
namespace Rm
open Go Go.Proofs Cx
abbrev u (n:Nat):D:=.v (.int .u64 n)
theorem abP (n:Int):IntKind.u64.wrap n=n%18446744073709551616:=rfl
theorem EN {n:Int}(h:0≤n∧n<18446744073709551616):IntKind.u64.wrap n=n:=by
 rw[abP];omega
theorem xd {n:Nat}(h:n<18446744073709551616):IntKind.u64.wrap (n:Int)=n:=EN (by omega)
theorem aod (a s:Nat)(h:s≤64):cX .shr .u64 a s=((a/2^s:Nat):Int):=by
 show Int.fdiv (a:Int) (2^(min (s:Int).toNat 64))=_;have:min (s:Int).toNat 64=s:=by simp;omega
 rw[this,ab3 _ (Int.le_of_lt (Int.pow_pos (by decide)))];rw[Int.natCast_ediv,Int.natCast_pow];rfl
theorem Ki (a:Nat)(h:a<18446744073709551616):cX .and .u64 a 4294967295=((a%4294967296:Nat):Int):=by
 show IntKind.u64.wrap ((BitVec.ofInt 64 (a:Int)&&& BitVec.ofInt 64 4294967295).toNat:Nat)=_;have e:(BitVec.ofInt 64 (a:Int)&&& BitVec.ofInt 64 4294967295).toNat=a%4294967296:=by
  rw[BitVec.toNat_and];have e1:(BitVec.ofInt 64 (a:Int)).toNat=a:=by simp[BitVec.ofInt,BitVec.toNat_ofNat];omega
  have e2:(BitVec.ofInt 64 4294967295).toNat=2^32-1:=by decide
  rw[e1,e2,Nat.and_two_pow_sub_one_eq_mod]
 rw[e,xd (by omega)]
@[simp] theorem AB (a:Nat):cX .shr .u64 a 32=((a/4294967296:Nat):Int):=aod a 32 (by decide)
set_option maxHeartbeats 2000000 in
theorem als (a b:Nat)(ha:a<18446744073709551616)(hb:b<18446744073709551616):ao T 173 [u a,u b] (.tup [u (a*b/18446744073709551616),u (a*b%18446744073709551616)]):=by
 refine .of_tree rfl (lA 88 (by kernel_rfl)) aoT ?_;obtain⟨h1,h2,h3,h4⟩:=Go.Lib.mul64_hi a b ha hb;have elo:IntKind.u64.wrap ((a:Int)*(b:Int))=((a*b%18446744073709551616:Nat):Int):=by rw[abP,Int.natCast_emod,Int.natCast_mul];rfl
 have Lq:cX .shr .u64 (a:Int) 32=((a/4294967296:Nat):Int):=AB a;have ea0:cX .and .u64 (a:Int) 4294967295=((a%4294967296:Nat):Int):=Ki a ha;have Lr:cX .shr .u64 (b:Int) 32=((b/4294967296:Nat):Int):=AB b;have eb0:cX .and .u64 (b:Int) 4294967295=((b%4294967296:Nat):Int):=Ki b hb;have awd:=Go.Lib.half_mul_le (a:=a/4294967296) (b:=b/4294967296) (by omega) (by omega);have awc:=Go.Lib.half_mul_le (a:=a/4294967296) (b:=b%4294967296) (by omega) (by omega);have awb:=Go.Lib.half_mul_le (a:=a%4294967296) (b:=b/4294967296) (by omega) (by omega);have awa:=Go.Lib.half_mul_le (a:=a%4294967296) (b:=b%4294967296) (by omega) (by omega);have Mn:a*b/18446744073709551616<18446744073709551616:=by
  have:a*b<18446744073709551616*18446744073709551616:=Nat.mul_lt_mul'' ha hb;exact Nat.div_lt_of_lt_mul this
 simp only[QU];generalize a/4294967296=a1 at*;generalize a%4294967296=a0 at*;generalize b/4294967296=b1 at*;generalize b%4294967296=b0 at*;have p11:IntKind.u64.wrap ((a1:Int)*(b1:Int))=((a1*b1:Nat):Int):=by rw[←Int.natCast_mul];exact xd (by omega)
 have p10:IntKind.u64.wrap ((a1:Int)*(b0:Int))=((a1*b0:Nat):Int):=by rw[←Int.natCast_mul];exact xd (by omega)
 have p01:IntKind.u64.wrap ((a0:Int)*(b1:Int))=((a0*b1:Nat):Int):=by rw[←Int.natCast_mul];exact xd (by omega)
 have p00:IntKind.u64.wrap ((a0:Int)*(b0:Int))=((a0*b0:Nat):Int):=by rw[←Int.natCast_mul];exact xd (by omega)
 rw[←h4] at Mn ⊢;generalize a1*b1=P at*;generalize a1*b0=Q at*;generalize a0*b1=R at*;generalize a0*b0=S at*;have s1:cX .shr .u64 (S:Int) 32=((S/4294967296:Nat):Int):=AB S;have s2:IntKind.u64.wrap ((Q:Int)+((S/4294967296:Nat):Int))=((Q+S/4294967296:Nat):Int):=by rw[EN (by omega)];omega
 generalize S/4294967296=S1 at*;generalize hT:Q+S1=TT at*;have s3:cX .shr .u64 (TT:Int) 32=((TT/4294967296:Nat):Int):=AB TT;have s4:cX .and .u64 (TT:Int) 4294967295=((TT%4294967296:Nat):Int):=Ki TT (by omega);have s5:IntKind.u64.wrap (((TT%4294967296:Nat):Int)+(R:Int))=((TT%4294967296+R:Nat):Int):=by rw[EN (by omega)];omega
 generalize hU:TT%4294967296+R=U at*;have s6:cX .shr .u64 (U:Int) 32=((U/4294967296:Nat):Int):=AB U;have s7:IntKind.u64.wrap ((P:Int)+((TT/4294967296:Nat):Int))=((P+TT/4294967296:Nat):Int):=by rw[EN (by omega)];omega
 have s8:IntKind.u64.wrap (((P+TT/4294967296:Nat):Int)+((U/4294967296:Nat):Int))=((P+TT/4294967296+U/4294967296:Nat):Int):=by rw[EN (by omega)];omega
 simp[-AB,-Int.natCast_add,-Int.natCast_mul,-Int.natCast_ediv,-Int.natCast_emod,elo,Lq,ea0,Lr,eb0,p11,p10,p01,p00,s1,s2,s3,s4,s5,s6,s7,s8]
def sr (m:Nat):Int:=if m<1099511627776 then m else 1099511627776
def zY (a b:Int):Int:=if(decide (a<0)!=decide (b<0))=true then-sr (a.natAbs*b.natAbs) else sr (a.natAbs*b.natAbs)
theorem ZK (m:Nat):0≤sr m∧sr m≤1099511627776:=by unfold sr;split<;>omega
set_option maxHeartbeats 1000000 in
theorem aoE (a b:Int)(ha:-1099511627776≤a∧a≤1099511627776)(hb:-1099511627776≤b∧b≤1099511627776):ao T 171 [.int a,.int b] (.int (zY a b)):=by
 refine .of_tree rfl (lA 87 (by kernel_rfl)) aqx ?_;have wa:IntKind.u64.wrap (a.natAbs:Int)=a.natAbs:=xd (by omega);have wb:IntKind.u64.wrap (b.natAbs:Int)=b.natAbs:=xd (by omega);have w0a:IntKind.i64.wrap (0-a)=-a:=by rw[bV (by omega)];omega
 have w0b:IntKind.i64.wrap (0-b)=-b:=by rw[bV (by omega)];omega
 have aq4:IntKind.i64.wrap (-a)=-a:=bV (by omega);have aq5:IntKind.i64.wrap (-b)=-b:=bV (by omega);have ea:(if a< -a then D.int (-a) else D.int a)=D.int a.natAbs:=by split<;>congr 1<;>omega
 have eb:(if b< -b then D.int (-b) else D.int b)=D.int b.natAbs:=by split<;>congr 1<;>omega
 have ea':(if a< -a then-a else a)=(a.natAbs:Int):=by split<;>omega
 have eb':(if b< -b then-b else b)=(b.natAbs:Int):=by split<;>omega
 simp[Sy,aq4,aq5,ea,eb,ea',eb'];rw[wa,wb];refine⟨_,als a.natAbs b.natAbs (by omega) (by omega),?_⟩;unfold zY;generalize a.natAbs*b.natAbs=m;have hs:(decide (a<0)!=decide (b<0))=false↔(a<0↔b<0):=by
  by_cases h1:a<0<;>by_cases h2:b<0<;>simp[h1,h2]
 have key:((if((m/18446744073709551616:Nat):Int)=0∧((m%18446744073709551616:Nat):Int)<1099511627776 then IntKind.i64.wrap ((m%18446744073709551616:Nat):Int) else 1099511627776):Int)=sr m:=by
  unfold sr;by_cases hm:m<1099511627776
  ·have h1:m/18446744073709551616=0:=by omega
   have h2:m%18446744073709551616=m:=by omega
   rw[h1,h2,if_pos ⟨rfl,by omega⟩,if_pos hm,bV (by omega)]
  ·rw[if_neg hm,if_neg];rintro⟨h1,h2⟩;omega
 have gi:=ZK m;have ajA:(if((m/18446744073709551616:Nat):Int)=0∧((m%18446744073709551616:Nat):Int)<1099511627776 then D.int (IntKind.i64.wrap ((m%18446744073709551616:Nat):Int)) else D.int 1099511627776)=D.int (sr m):=by
  rw[←key];split<;>rfl
 show(if a<0↔b<0 then(if((m/18446744073709551616:Nat):Int)=0∧((m%18446744073709551616:Nat):Int)<1099511627776 then D.int (IntKind.i64.wrap ((m%18446744073709551616:Nat):Int)) else D.int 1099511627776)=_ else
  IntKind.i64.wrap (-(if((m/18446744073709551616:Nat):Int)=0∧((m%18446744073709551616:Nat):Int)<1099511627776 then IntKind.i64.wrap ((m%18446744073709551616:Nat):Int) else 1099511627776))=_)
 rw[ajA,key];generalize sr m=n at*;split
 ·rename_i h;rw[hs.2 h];simp
 ·rename_i h;have:(decide (a<0)!=decide (b<0))=true:=by
   cases e:(decide (a<0)!=decide (b<0)) with
   |true=>rfl
   |false=>exact absurd (hs.1 e) h
  rw[this,bV (by omega)];simp
def xu (op a b:Int):Int:=if op=9 then oE (a+b) else if op=10 then oE (a-b) else if op=11 then zY a b else if op=12 then min a b else max a b
theorem aoB (op a b:Int)(ha:-1099511627776≤a∧a≤1099511627776)(hb:-1099511627776≤b∧b≤1099511627776):ao T 163 [.int op,.int a,.int b] (.int (xu op a b)):=by
 refine .of_tree rfl (lA 86 (by kernel_rfl)) aqq ?_;have w1:IntKind.i64.wrap (a+b)=a+b:=bV (by omega);have w2:IntKind.i64.wrap (a-b)=a-b:=bV (by omega);simp[Sq,xu,w1,w2];by_cases h1:op=9
 ·simp[h1];exact JE _
 by_cases h2:op=10
 ·simp[h1,h2];exact JE _
 by_cases h3:op=11
 ·simp[h1,h2,h3];exact aoE a b ha hb
 by_cases h4:op=12
 ·simp[h1,h2,h3,h4];by_cases h5:b<a<;>simp[h5]<;>omega
 simp[h1,h2,h3,h4];by_cases h5:b>a<;>simp[h5]<;>omega
def gJ (b:Bool):Cell:=if b then⟨true,1⟩ else⟨true,0⟩
theorem uM (b:Bool):ao T 161 [.bool b] (cR (gJ b)):=by
 refine .of_tree rfl (lA 84 (by kernel_rfl)) aqz ?_;cases b<;>simp[SA,gJ]<;>rfl
def ed:Cell:=⟨false,0⟩
@[simp] theorem aw9:D.agg [.bool false,.int 0]=cR ed:=_root_.id rfl
@[simp] theorem axa:ed.known=false:=rfl
@[simp] theorem axb:ed.n=0:=rfl
def cellAt (cs:List Cell)(v:Int):Cell:=cs.getD v.toNat default
def ly (cs:List Cell)(v:Int):Cell:=if cs.length≤v.toNat∨(cellAt cs v).known=false then ed else if(ml v).1=1 then gJ (decide ((cellAt cs v).n≠0)) else⟨true,oE (cellAt cs v).n⟩
abbrev Lt (cs:List Cell):D:=.agg [cells cs]
theorem aoG (cs:List Cell)(v:Int)(hv:0≤v):ao T 148 [Lt cs,.int v] (cR (ly cs v)):=by
 refine .of_tree rfl (lA 83 (by kernel_rfl)) aqw ?_;obtain⟨k,rfl⟩:=q9 hv;simp[Sw,ly,cellAt];by_cases h1:cs.length≤k
 ·simp[h1]
 have cK:k<cs.length:=by omega
 simp[h1,cK];cases h2:cs[k].known
 ·simp[h2]
 simp[h2];refine⟨_,abw _,?_⟩;by_cases h3:(ml k).1=1
 ·simp[h3,cK];refine⟨_,uM _,?_⟩;simp;rfl
 ·simp[h3,cK];refine⟨_,JE _,?_⟩;simp;rfl
@[simp] theorem awv (a b:Int):(a==b)=decide (a=b):=_root_.id rfl
@[simp] theorem aww (a b:Int):(a !=b)= !decide (a=b):=_root_.id rfl
def bm (l:List Cell)(k:Nat):Cell:=l.getD k default
def gM (op:Int)(l:List Cell):Cell:=
 if op=3 then(if(bm l 0).known=true then gJ (decide ((bm l 0).n=0)) else ed)
 else if(op=4∨op=5)∧(bm l 0=gJ (decide (op=5))∨bm l 1=gJ (decide (op=5))) then gJ (decide (op=5))
 else if op=6 then(if(bm l 1).known=true∧bm l 1=bm l 2 then bm l 1 else ed)
 else if(bm l 0).known=false∨(bm l 1).known=false then ed
 else if op=4∨op=5 then gJ (decide (op=4))
 else if op=7 then gJ (decide ((bm l 0).n<(bm l 1).n)) else if op=8 then gJ (decide ((bm l 0).n=(bm l 1).n)) else⟨true,xu op (bm l 0).n (bm l 1).n⟩
theorem ade (a b:Cell):a=b↔a.known=b.known∧a.n=b.n:=by cases a;cases b;simp
theorem aoC (op:Int)(l:List Cell)(h1:1≤l.length)(h2:op≠3→2≤l.length)(h3:op=6→3≤l.length)
 (hb:9≤op→(-1099511627776≤(bm l 0).n∧(bm l 0).n≤1099511627776)∧(-1099511627776≤(bm l 1).n∧(bm l 1).n≤1099511627776)) (h9:op<3∨8<op→9≤op):
 ao T 149 [.int op,cells l] (cR (gM op l)):=by
 refine .of_tree rfl (lA 85 (by kernel_rfl)) aqs ?_;have g0:0<l.length:=by omega
 have vz:l[0]=bm l 0:=by simp[bm,g0]
 simp[Ss];unfold gM;by_cases o3:op=3
 ·simp[o3,g0,vz];cases e:(bm l 0).known
  ·simp
  ·simp[g0];refine⟨_,uM _,?_⟩;simp
 have g1:1<l.length:=by have:=h2 o3;omega
 have BX:l[1]=bm l 1:=by simp[bm,g1]
 have eR:(1:Int)<l.length:=by omega
 simp[o3];have fin:∀a b:Cell,(a=b)=(a.known=b.known∧a.n=b.n):=fun a b=>propext (ade a b);rcases ET (op=4) with o4|o4
 ·subst o4;simp;refine⟨_,uM _,?_⟩;simp[g0,g1,eR,vz,BX,fin];split
  ·rfl
  ·split
   ·rfl
   ·refine⟨_,uM _,?_⟩;simp
 rcases ET (op=5) with o5|o5
 ·subst o5;simp;refine⟨_,uM _,?_⟩;simp[g0,g1,eR,vz,BX,fin];split
  ·rfl
  ·split
   ·rfl
   ·refine⟨_,uM _,?_⟩;simp
 rcases ET (op=6) with o6|o6
 ·subst o6;have g2:2<l.length:=by have:=h3 rfl;omega
  have gg2:l[2]=bm l 2:=by simp[bm,g2]
  have np:(2:Int)<l.length:=by omega
  simp[g1,g2,eR,np,BX,gg2,fin];cases e1:(bm l 1).known
  ·simp
  by_cases e2:(bm l 1).known=(bm l 2).known∧(bm l 1).n=(bm l 2).n
  ·rw[e1] at e2;simp[e1,e2]
  ·rw[e1] at e2;have tl:¬((bm l 2).known=true∧(bm l 1).n=(bm l 2).n):=fun h=>e2 ⟨h.1.symm,h.2⟩;simp only[e1,true_and,if_true]
   first|(rw[if_neg tl,if_neg tl])|(simp[tl])
 simp[o4,o5,o6,g0,g1,eR,vz,BX];cases e1:(bm l 0).known
 ·simp
 cases e2:(bm l 1).known
 ·simp
 simp[g1,eR,BX];rcases ET (op=7) with o7|o7
 ·subst o7;simp;refine⟨_,uM _,?_⟩;simp
 rcases ET (op=8) with o8|o8
 ·subst o8;simp;refine⟨_,uM _,?_⟩;simp
 simp[o7,o8];obtain⟨b1,b2⟩:=hb (h9 (by omega));refine⟨_,aoB op _ _ b1 b2,?_⟩;simp;rfl
end Rm
namespace Rm
open Go Go.Proofs Cx
def bL:Nat→List Cell→Tm→Cell
 |0,_,_=>ed
 |L+1,cs,t=>if t.op=0∨t.op=1 then⟨true,t.n⟩ else if t.op=2 then ly cs t.n else
   if t.op=6∧(bm (t.args.map (bL L cs)) 0).known=true then bm (t.args.map (bL L cs)) (2-(bm (t.args.map (bL L cs)) 0).n).toNat else gM t.op (t.args.map (bL L cs))
def dV:Nat→List Cell→Tm→List Int
 |0,_,_=>[]
 |L+1,cs,t=>if t.op=0∨t.op=1 then[] else if t.op=2 then(if(ly cs t.n).known=true then[] else[t.n]) else
   if t.op=6∧(bm (t.args.map (bL L cs)) 0).known=true then(t.args.map (dV L cs)).getD (2-(bm (t.args.map (bL L cs)) 0).n).toNat [] else
   if(gM t.op (t.args.map (bL L cs))).known=true then[] else(t.args.map (dV L cs)).flatten
theorem GB (L:Nat)(cs:List Cell)(t:Tm):bL (L+1) cs t=if t.op=0∨t.op=1 then⟨true,t.n⟩ else if t.op=2 then ly cs t.n else
 if t.op=6∧(bm (t.args.map (bL L cs)) 0).known=true then bm (t.args.map (bL L cs)) (2-(bm (t.args.map (bL L cs)) 0).n).toNat else gM t.op (t.args.map (bL L cs)):=rfl
theorem H8 (L:Nat)(cs:List Cell)(t:Tm):dV (L+1) cs t=if t.op=0∨t.op=1 then[] else if t.op=2 then(if(ly cs t.n).known=true then[] else[t.n]) else
 if t.op=6∧(bm (t.args.map (bL L cs)) 0).known=true then(t.args.map (dV L cs)).getD (2-(bm (t.args.map (bL L cs)) 0).n).toNat [] else
 if(gM t.op (t.args.map (bL L cs))).known=true then[] else(t.args.map (dV L cs)).flatten:=rfl
theorem Lc {L:Nat}{t:Tm}{k:Int}(h:ct (L+1) t=(k,0)):(∀a,a∈t.args→(ct L a).2=0)∧wz t (t.args.map fun a=>(ct L a).1)=(k,0):=by
 rw[Lb] at h;by_cases e:fq t.args.length (fun k=>(ct L (t.args.getD k default)).2)=0
 ·rw[if_neg (by simpa using e)] at h;refine⟨fun a ha=>?_,h⟩;obtain⟨j,hj,rfl⟩:=lE ha;have:=UY.1 e j hj;simpa [hj] using this
 ·rw[if_pos e] at h;injection h with _ h
  exact absurd h e
inductive Node (ks:List Int) (t:Tm):Int→Prop where
 |int (h:t.op=0) (ha:t.args=[]) (hn:-1099511627776≤t.n∧t.n≤1099511627776):Node ks t 0
 |bool (h:t.op=1) (ha:t.args=[]) (hn:t.n=0∨t.n=1):Node ks t 1
 |var (h:t.op=2) (ha:t.args=[]) (hn:0≤t.n∧t.n≤19):Node ks t (ml t.n).1
 |not (h:t.op=3) (hk:ks=[1]):Node ks t 1
 |log (h:t.op=4∨t.op=5) (hk:ks=[1,1]):Node ks t 1
 |ite (k:Int) (h:t.op=6) (hk:ks=[1,k,k]):Node ks t k
 |less (h:t.op=7) (hk:ks=[0,0]):Node ks t 1
 |equal (k:Int) (h:t.op=8) (hk:ks=[k,k]):Node ks t 1
 |num (h:9≤t.op∧t.op≤13) (hk:ks=[0,0]):Node ks t 0
theorem aq1 (v:Int):(ml v).1=0∨(ml v).1=1:=by
 unfold ml;repeat' split
 all_goals simp
theorem alE {t:Tm}{ks:List Int}{k:Int}(hl:ks.length=t.args.length)(iO:∀x,x∈ks→x=0∨x=1)(h:wz t ks=(k,0)):Node ks t k:=by
 unfold wz at h;split at h
 ·injection h with _ h;cases h
 rename_i bS;split at h
 ·rename_i h3;unfold Db at h;split at h
  ·injection h with _ h;cases h
  rename_i ha0;have ha:t.args=[]:=JV (by omega);split at h
  ·rename_i h0;split at h
   ·injection h with _ h;cases h
   ·rename_i hc;injection h with h _
    subst h;refine .int h0 ha ?_;unfold oE at hc;omega
  split at h
  ·rename_i h0;split at h
   ·injection h with _ h;cases h
   ·rename_i hc;injection h with h _
    subst h;exact .bool h0 ha (by omega)
  split at h
  ·injection h with _ h;cases h
  ·rename_i g0 g1 hc;injection h with h _
   subst h;refine .var (by omega) ha ?_;unfold ml at hc;split at hc
   ·simp at hc
   ·omega
 rename_i h3;split at h
 ·injection h with _ h;cases h
 rename_i hlen;have nz:ks.length=(eK t.op).1.length:=by
  refine AQ fun hh=>hlen (.inl hh)
 split at h
 ·injection h with _ h;cases h
 rename_i aA;have jB:∀j,j<(eK t.op).1.length→nH (eK t.op).1 ks j=true:=xr.1 (by simpa using aA)
 have two:∀{n:Nat},ks.length=2→∃a b,ks=[a,b]:=fun h=>by
  match ks,h with
  |[a,b],_=>exact⟨a,b,rfl⟩
 by_cases o3:t.op=3
 ·have e:eK t.op=([1],1):=by simp[eK,o3]
  rw[e] at nz jB h
  match ks,nz with
  |[a],_=>
   have:=jB 0 (by simp);simp[nH] at this;simp at h;subst h this;exact .not o3 rfl
 by_cases Ic:t.op=4∨t.op=5
 ·have e:eK t.op=([1,1],1):=by simp[eK,o3,Ic]
  rw[e] at nz jB h
  match ks,nz with
  |[a,b],_=>
   have t1:=jB 0 (by simp);have t2:=jB 1 (by simp);simp[nH] at t1 t2;simp at h;subst h t1 t2;exact .log Ic rfl
 by_cases o6:t.op=6
 ·have e:eK t.op=([1,-1,-1],-1):=by simp[eK,o6]
  rw[e] at nz jB h
  match ks,nz,iO with
  |[a,b,c],_,iO=>
   have t1:=jB 0 (by simp);have t3:=jB 2 (by simp);have hb:=iO b (by simp);have qe:¬b=-1:=by omega
   simp[nH] at t1;simp[nH,mP,qe] at t3;simp[mP,qe] at h;subst h t1 t3;exact .ite _ o6 rfl
 by_cases o7:t.op=7
 ·have e:eK t.op=([0,0],1):=by simp[eK,o7]
  rw[e] at nz jB h
  match ks,nz with
  |[a,b],_=>
   have t1:=jB 0 (by simp);have t2:=jB 1 (by simp);simp[nH] at t1 t2;simp at h;subst h t1 t2;exact .less o7 rfl
 by_cases o8:t.op=8
 ·have e:eK t.op=([-1,-1],1):=by simp[eK,o8]
  rw[e] at nz jB h
  match ks,nz,iO with
  |[a,b],_,iO=>
   have t2:=jB 1 (by simp);have ha:=iO a (by simp);have han:¬a=-1:=by omega
   simp[nH,mP,han] at t2;simp at h;subst h t2;exact .equal _ o8 rfl
 have e:eK t.op=([0,0],0):=by simp[eK,o3,Ic,o6,o7,o8]
 rw[e] at nz jB h
 match ks,nz with
 |[a,b],_=>
  have t1:=jB 0 (by simp);have t2:=jB 1 (by simp);simp[nH] at t1 t2;simp at h;subst h t1 t2;exact .num (by omega) rfl
theorem Ld:∀{L:Nat} {t:Tm} {k:Int},ct (L+1) t=(k,0)→Node (t.args.map fun a=>(ct L a).1) t k∧(k=0∨k=1)
 |L,t,k,h=>by
  obtain⟨h1,h2⟩:=Lc h
  have iO:∀x,x∈(t.args.map fun a=>(ct L a).1)→x=0∨x=1:=by
   intro x hx;obtain⟨a,ha,rfl⟩:=eO.1 hx;cases L with
   |zero=>exact .inl rfl
   |succ L=>exact(Ld (L:=L) (t:=a) (k:=(ct (L+1) a).1) (by rw[←h1 a ha])).2
  have hn:=alE (by simp) iO h2;refine⟨hn,?_⟩;cases hn with
  |int=>simp
  |bool=>simp
  |var=>exact aq1 _
  |not=>simp
  |log=>simp
  |ite k _ hk=>exact iO k (by rw[hk];simp)
  |less=>simp
  |equal=>simp
  |num=>simp
end Rm
namespace Rm
open Go Go.Proofs Cx
def va (k:Int)(c:Cell):Prop:=(c.known=false→c=ed)∧(c.known=true→(k=1→c.n=0∨c.n=1)∧(k=0→-1099511627776≤c.n∧c.n≤1099511627776))
theorem uC (k:Int):va k ed:=⟨fun _=>rfl,fun h=>by cases h⟩
theorem Aw (b:Bool):va 1 (gJ b):=⟨fun h=>(by cases b<;>cases h),fun _=>⟨fun _=>(by cases b<;>simp[gJ]),fun h=>by cases h⟩⟩
theorem Lj (n:Int):-1099511627776≤oE n∧oE n≤1099511627776:=by unfold oE;omega
theorem anW (cs:List Cell)(v:Int)(hv:0≤v∧v≤19):va (ml v).1 (ly cs v):=by
 unfold ly;split
 ·exact uC _
 ·split
  ·rename_i h;rw[h];exact Aw _
  ·rename_i h;refine⟨fun h=>(by cases h),fun _=>⟨fun h'=>absurd h' h,fun _=>Lj _⟩⟩
theorem amQ (a b:Int):-1099511627776≤zY a b∧zY a b≤1099511627776:=by
 unfold zY;have:=ZK (a.natAbs*b.natAbs);split<;>omega
theorem acD (op a b:Int)(ha:-1099511627776≤a∧a≤1099511627776)(hb:-1099511627776≤b∧b≤1099511627776):-1099511627776≤xu op a b∧xu op a b≤1099511627776:=by
 unfold xu;split
 ·exact Lj _
 split
 ·exact Lj _
 split
 ·exact amQ _ _
 split<;>omega
theorem alf {α β:Type}{f:α→β}{l:List α}{x:β}(h:l.map f=[x]):∃a,l=[a]∧f a=x:=by
 match l,h with
 |[a],h=>exact⟨a,rfl,by simpa using h⟩
theorem zw {α β:Type}{f:α→β}{l:List α}{x y:β}(h:l.map f=[x,y]):∃a b,l=[a,b]∧f a=x∧f b=y:=by
 match l,h with
 |[a,b],h=>exact⟨a,b,rfl,by simpa using h⟩
theorem NL {α β:Type}{f:α→β}{l:List α}{x y z:β}(h:l.map f=[x,y,z]):∃a b c,l=[a,b,c]∧f a=x∧f b=y∧f c=z:=by
 match l,h with
 |[a,b,c],h=>exact⟨a,b,c,rfl,by simpa using h⟩
theorem UN:∀{L:Nat} {t:Tm} {k:Int} (cs:List Cell),ct L t=(k,0)→va k (bL L cs t)
 |0,t,k,cs,h=>uC _
 |L+1,t,k,cs,h=>by
  obtain⟨hn,hk⟩:=Ld h;obtain⟨ha,_⟩:=Lc h;have ih:∀a,a∈t.args→va (ct L a).1 (bL L cs a):=fun a hm=>UN cs (show ct L a=((ct L a).1,0) by rw[←ha a hm]);rw[GB];cases hn with
  |int h0 ha hn=>rw[if_pos (.inl h0)];exact⟨fun h=>(by cases h),fun _=>⟨fun h=>(by cases h),fun _=>hn⟩⟩
  |bool h0 ha hn=>rw[if_pos (.inr h0)];exact⟨fun h=>(by cases h),fun _=>⟨fun _=>hn,fun h=>by cases h⟩⟩
  |var h0 ha hn=>rw[if_neg (by omega),if_pos h0];exact anW cs _ hn
  |not h0 hk=>
   rw[if_neg (by omega),if_neg (by omega),if_neg (by omega)];unfold gM;rw[if_pos h0];split
   ·exact Aw _
   ·exact uC _
  |log h0 hk=>
   rw[if_neg (by omega),if_neg (by omega),if_neg (by omega)];unfold gM;rw[if_neg (by omega)];split
   ·exact Aw _
   rw[if_neg (by omega)];split
   ·exact uC _
   exact Aw _
  |ite k h0 cu=>
   obtain⟨a,b,c,hl,e1,e2,e3⟩:=NL cu;rw[hl] at ih ⊢;have r1:=ih a (by simp);have r2:=ih b (by simp);have r3:=ih c (by simp);rw[e1] at r1;rw[e2] at r2;rw[e3] at r3;rw[if_neg (by omega),if_neg (by omega)];simp only[gx,E0,bm,sS];split
   ·rename_i hh;rcases(r1.2 hh.2).1 rfl with h1|h1<;>rw[h1]
    ·exact r3
    ·exact r2
   ·unfold gM;rw[if_neg (by omega),if_neg (by omega),if_pos h0];simp only[bm,sS,AU];split
    ·exact r2
    ·exact uC _
  |less h0 hk=>
   rw[if_neg (by omega),if_neg (by omega),if_neg (by omega)];unfold gM;rw[if_neg (by omega),if_neg (by omega),if_neg (by omega)];split
   ·exact uC _
   repeat' split
   all_goals exact Aw _
  |equal k h0 hk=>
   rw[if_neg (by omega),if_neg (by omega),if_neg (by omega)];unfold gM;rw[if_neg (by omega),if_neg (by omega),if_neg (by omega)];split
   ·exact uC _
   repeat' split
   all_goals exact Aw _
  |num h0 cu=>
   obtain⟨a,b,hl,e1,e2⟩:=zw cu;rw[hl] at ih ⊢;have r1:=ih a (by simp);have r2:=ih b (by simp);rw[e1] at r1;rw[e2] at r2;rw[if_neg (by omega),if_neg (by omega),if_neg (by omega)];unfold gM;rw[if_neg (by omega),if_neg (by omega),if_neg (by omega)];simp only[gx,E0,bm,sS,AU];split
   ·exact uC _
   rename_i Cr;rw[if_neg (by omega),if_neg (by omega),if_neg (by omega)];have k1:(bL L cs a).known=true:=by
    cases e:(bL L cs a).known with
    |true=>rfl
    |false=>exact absurd (.inl e) Cr
   have k2:(bL L cs b).known=true:=by
    cases e:(bL L cs b).known with
    |true=>rfl
    |false=>exact absurd (.inr e) Cr
   exact⟨fun h=>(by cases h),fun _=>⟨fun h=>(by cases h),fun _=>acD _ _ _ ((r1.2 k1).2 rfl) ((r2.2 k2).2 rfl)⟩⟩
theorem XW:∀(L:Nat) (cs:List Cell) (t:Tm),cL L t≤60→((dV L cs t).length:Int)≤cL L t
 |0,cs,t,h=>by simp[cL] at h
 |L+1,cs,t,h=>by
  have h1:=wx (L+1) t;obtain⟨hl,hp⟩:=NN h;have hs:∀(l:List Tm) (n:Int),(∀a,a∈l→cL L a≤60)→fF (cL L) l n≤60→((l.map (dV L cs)).flatten.length:Int)+n≤fF (cL L) l n∧∀j,(((l.map (dV L cs)).getD j []).length:Int)+n≤fF (cL L) l n:=by
   intro l
   induction l with
   |nil=>intro n _ _;simp[fF]
   |cons a l ih=>
    intro n hp hm;have ha:=XW L cs a (hp a (by simp));unfold fF at hm ⊢;split at hm
    ·omega
    ·rename_i h60;rw[if_neg h60];obtain⟨i1,i2⟩:=ih (n+cL L a) (fun b hb=>hp b (by simp[hb])) hm;refine⟨by rw[gx,TC,ko];omega,fun j=>?_⟩;cases j with
     |zero=>simp;omega
     |succ j=>have:=i2 j;simp at this ⊢;omega
  obtain⟨oX,eY⟩:=hs t.args 1 hp h;rw[H8];split
  ·simp;omega
  split
  ·split<;>simp<;>omega
  split
  ·have:=eY (2-(bm (t.args.map (bL L cs)) 0).n).toNat;show _≤fF _ _ _;omega
  split
  ·simp;omega
  ·show _≤fF _ _ _;omega
@[simp] theorem axZ (x y:List Int):sK (ints x) 0 (ints y)=ints y:=_root_.id rfl
@[simp] theorem aoh (x y:Cell):sK (cR x) 0 (cR y)=cR y:=_root_.id rfl
@[simp] theorem awx (a b:List Int):D.list (a.map D.int++b.map D.int)=ints (a++b):=by simp[ints]
def lists (l:List (List Int)):D:=.list (l.map ints)
@[simp] theorem awJ (l:List (List Int)):(lists l).l=l.map ints:=_root_.id rfl
theorem abS (l:List (List Int))(hl:l.length≤1000)(hs:l.flatten.length≤1000000):ao T 150 [lists l] (ints l.flatten):=by
 refine .of_tree rfl (lA 89 (by kernel_rfl)) aqb ?_;simp[Sa];have hb:∀k,(l.take k).flatten.length≤l.flatten.length:=by
  intro k
  conv=>rhs;rw[←J5 k l]
  rw[List.flatten_append,ko];omega
 have bt:∀k (hk:k<l.length),(l.take (k+1)).flatten=(l.take k).flatten++l[k]:=fun k hk=>by
  rw[m9 hk,List.flatten_append];simp
 refine aT.forRounds l.length (fun k=>[.int ((l.take k).flatten.length:Nat),.int k]) (fun k=>[]) ?_ (fun k hk=>?_) ?_
 ·simp
 ·have hw:=br hk (by omega);have h1:=bt k hk;have h2:=hb (k+1);rw[h1] at h2 ⊢;rw[ko] at h2 ⊢;generalize (l.take k).flatten.length=m at*;have oZ:IntKind.i64.wrap ((m:Int)+(l[k].length:Int))=(m:Int)+l[k].length:=bV (by omega);have CC:¬((m:Int)+l[k].length<0):=by omega
  simp[aaz,Je,hk,hw,oZ,CC]
 ·simp[aaz,Je];have VT:ao T 164 [.list [],.int (l.flatten.length:Nat)] (.list []):=by
   refine .of_ext (g:=fun _ ds=>GN ds) rfl ⟨0,fun _ _=>?_⟩;show(if(0:Int)≤(l.flatten.length:Nat)∧((l.flatten.length:Nat):Int)≤4294967296 then some (D.list []) else none)=some (D.list []);rw[if_pos (by omega)]
  rw[List.length_flatten] at VT;refine⟨_,VT,?_⟩;refine aT.forRounds l.length (fun k=>[.none,.int k]) (fun k=>[ints (l.take k).flatten]) ?_ (fun k hk=>?_) ?_
  ·simp[ints]
  ·have hw:=br hk (by omega);have h1:=bt k hk;have h2:=hb (k+1);rw[h1] at h2 ⊢;rw[ko] at h2;generalize (l.take k).flatten=m at*;simp[aaA,Jf,hk,hw];omega
  ·simp[aaA,Jf]
theorem ady {op:Int}{l:List Cell}(h:(gM op l).known=false):gM op l=ed:=by
 have hy:∀b,(gJ b).known=true:=fun b=>by cases b<;>simp[gJ]
 unfold gM at h ⊢;split<;>rename_i c1
 ·rw[if_pos c1] at h;split<;>rename_i c2
  ·rw[if_pos c2,hy] at h;cases h
  ·rfl
 rw[if_neg c1] at h;split<;>rename_i c2
 ·rw[if_pos c2,hy] at h;cases h
 rw[if_neg c2] at h;split<;>rename_i c3
 ·rw[if_pos c3] at h;split<;>rename_i c4
  ·rw[if_pos c4,c4.1] at h;cases h
  ·rfl
 rw[if_neg c3] at h;split<;>rename_i c4
 ·rfl
 rw[if_neg c4] at h
 repeat' split at h
 all_goals first|(rw[hy] at h;cases h)|cases h
theorem aby:∀(L:Nat) (cs:List Cell) (t:Tm) (k:Int),t.OK→cL L t≤60→ct L t=(k,0)→ao T 134 [Lt cs,dD t] (.tup [cR (bL L cs t),ints (dV L cs t)])
 |0,cs,t,k,ht,hm,hc=>by simp[cL] at hm
 |L+1,cs,t,k,ht,hm,hc=>by
  refine .of_tree rfl (lA 82 (by kernel_rfl)) aqv ?_;obtain⟨hl,hp⟩:=NN hm;obtain⟨ha,_⟩:=Lc hc;obtain⟨hn,av7⟩:=Ld hc;have ir:∀a,a∈t.args→ao T 134 [Lt cs,dD a] (.tup [cR (bL L cs a),ints (dV L cs a)]):=fun a eV=>aby L cs a (ct L a).1 (ht.arg eV) (hp a eV) (by rw[←ha a eV]);have CR:∀a,a∈t.args→va (ct L a).1 (bL L cs a):=fun a eV=>UN cs (show ct L a=((ct L a).1,0) by rw[←ha a eV]);have Wd:∀a,a∈t.args→(dV L cs a).length≤60:=fun a eV=>by have:=XW L cs a (hp a eV);have:=hp a eV;omega
  by_cases iO:t.op=0∨t.op=1
  ·
   have e1:bL (L+1) cs t=⟨true,t.n⟩:=by rw[GB,if_pos iO]
   have e2:dV (L+1) cs t=[]:=by rw[H8,if_pos iO]
   rw[e1,e2];rcases iO with h|h<;>simp[EK,h]<;>exact⟨rfl,rfl⟩
  have o0:t.op≠0:=fun h=>iO (.inl h);have o1:t.op≠1:=fun h=>iO (.inr h);by_cases o2:t.op=2
  ·have hv:0≤t.n:=by
    cases hn with
    |var h0 ha hn=>exact hn.1
    |_=>omega
   have e1:bL (L+1) cs t=ly cs t.n:=by rw[GB,if_neg iO,if_pos o2]
   have e2:dV (L+1) cs t=if(ly cs t.n).known=true then[] else[t.n]:=by rw[H8,if_neg iO,if_pos o2]
   rw[e1,e2];simp[EK,o2];refine⟨_,aoG cs t.n hv,?_⟩;cases e:(ly cs t.n).known
   ·have:ly cs t.n=ed:=by
     unfold ly at e ⊢;split
     ·rfl
     ·rename_i h;rw[if_neg h] at e;split at e
      ·cases hb:decide ((cellAt cs t.n).n≠0)<;>rw[hb] at e<;>cases e
      ·cases e
    rw[this];simp[ints]
   ·have h:ly cs t.n=⟨true,(ly cs t.n).n⟩:=by rw[←e]
    rw[h];simp[ints]
    try rfl
  have hlen:1≤t.args.length∧(t.op≠3→2≤t.args.length)∧(t.op=6→3≤t.args.length):=by
   cases hn with
   |int h0 ha hn=>omega
   |bool h0 ha hn=>omega
   |var h0 ha hn=>omega
   |not h0 hk=>obtain⟨a,hl,_⟩:=alf hk;rw[hl];simp;omega
   |log h0 hk=>obtain⟨a,b,hl,_⟩:=zw hk;rw[hl];simp;omega
   |ite k h0 hk=>obtain⟨a,b,c,hl,_⟩:=NL hk;rw[hl];simp
   |less h0 hk=>obtain⟨a,b,hl,_⟩:=zw hk;rw[hl];simp;omega
   |equal k h0 hk=>obtain⟨a,b,hl,_⟩:=zw hk;rw[hl];simp;omega
   |num h0 hk=>obtain⟨a,b,hl,_⟩:=zw hk;rw[hl];simp;omega
  have hb9:9≤t.op→(-1099511627776≤(bm (t.args.map (bL L cs)) 0).n∧(bm (t.args.map (bL L cs)) 0).n≤1099511627776)∧(-1099511627776≤(bm (t.args.map (bL L cs)) 1).n∧(bm (t.args.map (bL L cs)) 1).n≤1099511627776):=by
   intro h9;have rb:∀c:Cell,va 0 c→-1099511627776≤c.n∧c.n≤1099511627776:=by
    intro c hr;cases e:c.known with
    |false=>rw[hr.1 e];simp
    |true=>exact(hr.2 e).2 rfl
   cases hn with
   |num h0 hk=>
    obtain⟨a,b,hl,ea,eb⟩:=zw hk;rw[hl] at CR ⊢;have r1:=CR a (by simp);have r2:=CR b (by simp);rw[ea] at r1;rw[eb] at r2;exact⟨rb _ r1,rb _ r2⟩
   |log h0 hk=>omega
   |_=>omega
  have h6:t.op=6→(bm (t.args.map (bL L cs)) 0).known=true→(bm (t.args.map (bL L cs)) 0).n=0∨(bm (t.args.map (bL L cs)) 0).n=1:=by
   intro o6 Cr;cases hn with
   |ite k h0 hk=>
    obtain⟨a,b,c,hl,ea,_⟩:=NL hk;rw[hl] at CR Cr ⊢;have r1:=CR a (by simp);rw[ea] at r1;exact(r1.2 Cr).1 rfl
   |log h0 hk=>omega
   |num h0 hk=>omega
   |_=>omega
  have bS:t.op<3∨8<t.op→9≤t.op:=by
   cases hn with
   |log h0 hk=>omega
   |num h0 hk=>omega
   |_=>omega
  have e1:bL (L+1) cs t=if t.op=6∧(bm (t.args.map (bL L cs)) 0).known=true then bm (t.args.map (bL L cs)) (2-(bm (t.args.map (bL L cs)) 0).n).toNat else gM t.op (t.args.map (bL L cs)):=by
   rw[GB,if_neg iO,if_neg o2]
  have e2:dV (L+1) cs t=if t.op=6∧(bm (t.args.map (bL L cs)) 0).known=true then(t.args.map (dV L cs)).getD (2-(bm (t.args.map (bL L cs)) 0).n).toNat [] else if(gM t.op (t.args.map (bL L cs))).known=true then[] else(t.args.map (dV L cs)).flatten:=by
   rw[H8,if_neg iO,if_neg o2]
  rw[e1,e2];simp[EK,o0,o1,o2];refine⟨by omega,?_⟩;refine aT.forRounds t.args.length (fun k=>[.int k]) (fun k=>[cells ((t.args.map (bL L cs)).take k++List.replicate (t.args.length-k) ed),lists ((t.args.map (dV L cs)).take k++List.replicate (t.args.length-k) [])]) ?_ (fun k hk=>?_) ?_
  ·simp[cells,lists,ints]
  ·have hw:=br hk (by omega);have cV:=dA hk;have hr:=ir _ cV;have s1:=QA (t.args.map (bL L cs)) ed (n:=t.args.length) (by simp) hk;have s2:=QA (t.args.map (dV L cs)) [] (n:=t.args.length) (by simp) hk;rw[←s1,←s2];have l1:((t.args.map (bL L cs)).take k++List.replicate (t.args.length-k) ed).length=t.args.length:=by simp;omega
   have l2:((t.args.map (dV L cs)).take k++List.replicate (t.args.length-k) []).length=t.args.length:=by simp;omega
   have g1:(t.args.map (bL L cs))[k]'(by simpa using hk)=bL L cs t.args[k]:=by simp
   have g2:(t.args.map (dV L cs))[k]'(by simpa using hk)=dV L cs t.args[k]:=by simp
   rw[g1,g2];generalize (t.args.map (bL L cs)).take k++List.replicate (t.args.length-k) ed=A at*;generalize (t.args.map (dV L cs)).take k++List.replicate (t.args.length-k) []=B at*;generalize bL L cs t.args[k]=c at*;generalize dV L cs t.args[k]=d at*;simp[Qh,En,hk];refine⟨_,hr,?_⟩;simp[hw,hk,l1,l2,cells,lists]
  ·have hA:(t.args.map (bL L cs)).take t.args.length++List.replicate (t.args.length-t.args.length) ed=t.args.map (bL L cs):=by rw[J7,List.replicate_zero,lC,AX (by simp)]
   have hB:(t.args.map (dV L cs)).take t.args.length++List.replicate (t.args.length-t.args.length) []=t.args.map (dV L cs):=by rw[J7,List.replicate_zero,lC,AX (by simp)]
   have lA:(t.args.map (bL L cs)).length=t.args.length:=by simp
   have lB:(t.args.map (dV L cs)).length=t.args.length:=by simp
   have jv:∀l:List Tm,(∀a,a∈l→a∈t.args)→((l.map (dV L cs)).flatten.length≤l.length*60):=by
    intro l
    induction l with
    |nil=>intro _;simp
    |cons a l ih=>
     intro h;have h1:=Wd a (h a (by simp));have h2:=ih (fun b hb=>h b (by simp[hb]));rw[gx,TC,ko,m8];omega
   have jv:=jv t.args (fun a h=>h);have hBg:∀m:Nat,(Option.map (dV L cs) t.args[m]?).getD []=(t.args.map (dV L cs)).getD m []:=fun m=>by simp[aK]
   rw[hA,hB];generalize t.args.map (bL L cs)=A at*;generalize t.args.map (dV L cs)=B at*;have g0:0<A.length:=by omega
   have vz:A[0]=bm A 0:=by simp[bm,g0]
   by_cases GW:t.op=6∧(bm A 0).known=true
   ·obtain⟨o6,kn⟩:=GW;have hv:=h6 o6 kn;have hw:IntKind.i64.wrap (2-(bm A 0).n)=2-(bm A 0).n:=bV (by omega);have h3:3≤t.args.length:=hlen.2.2 o6;rw[if_pos ⟨o6,kn⟩,if_pos ⟨o6,kn⟩];obtain⟨m,eV⟩:∃m:Nat,m=(2-(bm A 0).n).toNat:=⟨_,rfl⟩
    have Cy:m<A.length:=by omega
    have Mt:m<B.length:=by omega
    simp[Qh,En,o6,kn,g0,vz,hw,←eV,Cy,Mt,cells,lists];refine⟨by omega,by omega,by simp[bm,Cy],?_⟩;rw[hBg,aK,bA Mt];rfl
   ·rw[if_neg GW,if_neg GW];have ahg:=aoC t.op A (by omega) (by omega) (by omega) hb9 bS;have ahi:=abS B (by omega) (by omega);simp[Qh,En,g0,vz];rw[if_neg GW];refine⟨_,ahg,?_⟩;cases e:(gM t.op A).known
    ·have dZ:gM t.op A=ed:=ady e;rw[dZ];simp;exact ahi
    ·have h:gM t.op A=⟨true,(gM t.op A).n⟩:=by rw[←e]
     rw[h];simp[ints]
     try rfl
end Rm
namespace Rm
open Go Go.Proofs Cx
def lZ (n:Nat)(g:Nat→Bool):Int:=if(List.range n).findIdx g<n then((List.range n).findIdx g:Nat) else-1
theorem C9 (n:Nat)(g:Nat→Bool):(lZ n g=-1∧∀k,k<n→g k=false)∨∃k:Nat,k<n∧lZ n g=k∧g k=true∧∀i,i<k→g i=false:=by
 unfold lZ;split
 ·rename_i h;refine .inr ⟨_,h,rfl,?_,fun i hi=>?_⟩
  ·have:=List.findIdx_getElem (p:=g) (xs:=List.range n) (w:=by simpa using h);simpa using this
  ·have:=List.not_of_lt_findIdx (p:=g) (xs:=List.range n) hi;simpa using this
 ·rename_i h;refine .inl ⟨rfl,fun k hk=>?_⟩;have:=List.not_of_lt_findIdx (p:=g) (xs:=List.range n) (i:=k) (by omega);simpa using this
theorem HO {n:Nat}{g:Nat→Bool}(h:∀k,k<n→g k=false):lZ n g=-1:=by
 rcases C9 n g with⟨h1,_⟩|⟨k,hk,_,h2,_⟩
 ·exact h1
 ·rw[h k hk] at h2;cases h2
theorem HP {n k:Nat}{g:Nat→Bool}(hk:k<n)(h:g k=true)(hj:∀i,i<k→g i=false):lZ n g=k:=by
 rcases C9 n g with⟨_,h1⟩|⟨m,hm,h1,h2,h3⟩
 ·rw[h1 k hk] at h;cases h
 ·rcases Nat.lt_trichotomy m k with h4|h4|h4
  ·rw[hj m h4] at h2;cases h2
  ·rw[h1,h4]
  ·rw[h3 k h4] at h;cases h
theorem Nr (n:Nat)(g:Nat→Bool):decide (0≤lZ n g)=(List.range n).any g:=by
 rcases C9 n g with⟨h1,h2⟩|⟨m,hm,h1,h2,h3⟩
 ·rw[h1]
  symm
  simp;exact h2
 ·rw[h1];simp;exact⟨m,hm,h2⟩
theorem abZ (l:List Rule)(f:Nat)(caps:List D)(g:Nat→Bool)(hg:∀k (hk:k<l.length),ao T f (rG l[k]::caps) (.bool (g k)))(hl:l.length≤4294967296):
 ao T 131 [rules l,.clo f caps] (.int (lZ l.length g)):=by
 refine .of_tree rfl (lA 73 (by kernel_rfl)) aqj ?_;simp[Sj];refine .scan l.length (fun k=>g k=false) (fun k=>[.int 0,.int k]) (fun _=>[]) ?_ (fun k hk hj ho=>?_) (fun k hk hj ho=>?_) (fun hj=>?_)
 ·simp
 ·have hw:=br hk hl;simp[Qc,Ei,hk,hw];refine⟨_,_,⟨rfl,rfl⟩,_,hg k hk,?_⟩;simp[ho,hw]
 ·have he:=HP hk (by simpa using ho) hj;simp[Qc,Ei,hk,he];refine⟨_,_,⟨rfl,rfl⟩,_,hg k hk,?_⟩;simp[ho]
 ·have he:=HO hj;simp[Qc,Ei,he]
theorem ab0 (l:List Int)(f:Nat)(caps:List D)(g:Nat→Bool)(hg:∀k (hk:k<l.length),ao T f (.int l[k]::caps) (.bool (g k)))(hl:l.length≤4294967296):
 ao T 157 [ints l,.clo f caps] (.int (lZ l.length g)):=by
 refine .of_tree rfl (lA 68 (by kernel_rfl)) aqk ?_;simp[Sk];refine .scan l.length (fun k=>g k=false) (fun k=>[.int 0,.int k]) (fun _=>[]) ?_ (fun k hk hj ho=>?_) (fun k hk hj ho=>?_) (fun hj=>?_)
 ·simp
 ·have hw:=br hk hl;simp[Qd,Ej,hk,hw,ints];refine⟨_,_,⟨rfl,rfl⟩,_,hg k hk,?_⟩;simp[ho,hw]
 ·have he:=HP hk (by simpa using ho) hj;simp[Qd,Ej,hk,he,ints];refine⟨_,_,⟨rfl,rfl⟩,_,hg k hk,?_⟩;simp[ho]
 ·have he:=HO hj;simp[Qd,Ej,he,ints]
theorem abX (l:List Alter)(f:Nat)(caps:List D)(g:Nat→Bool)(hg:∀k (hk:k<l.length),ao T f (oI l[k]::caps) (.bool (g k)))(hl:l.length≤4294967296):
 ao T 156 [alters l,.clo f caps] (.int (lZ l.length g)):=by
 refine .of_tree rfl (lA 59 (by kernel_rfl)) aqh ?_;simp[Sg];refine .scan l.length (fun k=>g k=false) (fun k=>[.int 0,.int k]) (fun _=>[]) ?_ (fun k hk hj ho=>?_) (fun k hk hj ho=>?_) (fun hj=>?_)
 ·simp
 ·have hw:=br hk hl;simp[Qa,Eg,hk,hw];refine⟨_,_,⟨rfl,rfl⟩,_,hg k hk,?_⟩;simp[ho,hw]
 ·have he:=HP hk (by simpa using ho) hj;simp[Qa,Eg,hk,he];refine⟨_,_,⟨rfl,rfl⟩,_,hg k hk,?_⟩;simp[ho]
 ·have he:=HO hj;simp[Qa,Eg,he]
theorem abV (l:List Int)(f:Nat)(caps:List D)(g:Nat→Bool)(hg:∀k (hk:k<l.length),ao T f (.int l[k]::caps) (.bool (g k)))(hl:l.length≤4294967296):
 ao T 144 [ints l,.clo f caps] (.bool ((List.range l.length).any g)):=by
 refine .of_tree rfl (lA 67 (by kernel_rfl)) aqe ?_;simp[Sd];refine⟨_,ab0 l f caps g hg hl,?_⟩;have:=Nr l.length g;simp[←this]
theorem abT (l:List Alter)(f:Nat)(caps:List D)(g:Nat→Bool)(hg:∀k (hk:k<l.length),ao T f (oI l[k]::caps) (.bool (g k)))(hl:l.length≤4294967296):
 ao T 140 [alters l,.clo f caps] (.bool ((List.range l.length).any g)):=by
 refine .of_tree rfl (lA 58 (by kernel_rfl)) aqc ?_;simp[Sb];refine⟨_,abX l f caps g hg hl,?_⟩;have:=Nr l.length g;simp[←this]
def yK (cs:List Cell)(t:Tm):Cell:=if(ng t).2=0 then bL 8 cs t else ed
theorem adp {t:Tm}(h:(ng t).2=0):cL 8 t≤60∧ct 8 t=((ng t).1,0):=by
 unfold ng at h ⊢;split at h
 ·cases h
 ·rename_i hm;rw[if_neg hm];exact⟨by omega,by rw[←h]⟩
theorem aoA (t:Tm)(cs:List Cell)(ht:t.OK):ao T 105 [dD t,cells cs] (cR (yK cs t)):=by
 refine .of_tree rfl (lA 81 (by kernel_rfl)) aqo ?_;simp[So,yK];refine⟨_,abv t ht,?_⟩;by_cases h:(ng t).2=0
 ·obtain⟨h1,h2⟩:=adp h;simp[h];refine⟨_,aby 8 cs t _ ht h1 h2,?_⟩;simp
  try rfl
 ·simp[h]
  try rfl
def NV:List Int:=[6,7,10,12,13,14,15,16,20,21]
def lu (ask:Int):Int×Bool:=if ask<0∨22≤ask then(0,false) else if hasB NV ask then(0,true) else(1,true)
theorem OH (ask:Int):ao T 101 [.int ask] (.tup [.int (lu ask).1,.bool (lu ask).2]):=by
 refine .of_tree rfl (lA 63 (by kernel_rfl)) api ?_;simp[Rj,lu];by_cases h0:ask<0
 ·simp[h0]
 by_cases h1:22≤ask
 ·simp[h0,h1]
 simp[h0,h1];refine⟨_,AR NV ask (by decide),?_⟩;cases h:hasB NV ask<;>simp[h]
def H9:Tm:=⟨0,0,[]⟩
def uF (o:Order)(ask:Int)(k:Nat):Bool:=decide ((o.rules.getD k default).ask=ask)
def Ex (o:Order)(i:Int):Tm:=(o.rules.getD i.toNat default).term
def findF (o:Order)(ask:Int):Tm×Int:=
 if(lu ask).2=false then(H9,1) else if lZ o.rules.length (uF o ask)<0 then(H9,4) else
    if(ng (Ex o (lZ o.rules.length (uF o ask)))).2≠0∨(ng (Ex o (lZ o.rules.length (uF o ask)))).1≠(lu ask).1 then(H9,11) else(Ex o (lZ o.rules.length (uF o ask)),0)
theorem aa0 {o:Order}(ho:o.OK){m:Nat}(hm:m<o.rules.length):o.rules[m].term.OK:=(ho.2.2 _ (dA hm)).2
theorem NU:H9.OK:=by
 exact .mk 0 0 [] (by unfold aN;omega) (by unfold aN;omega) (by decide) (fun _ h=>by cases h)
theorem ae3 {o:Order}(ho:o.OK)(ask:Int):(findF o ask).1.OK:=by
 unfold findF;split
 ·exact NU
 split
 ·exact NU
 split
 ·exact NU
 ·rename_i h _;rcases C9 o.rules.length (uF o ask) with⟨h1,h2⟩|⟨m,hm,h1,h2,h3⟩
  ·exact absurd (by rw[h1];decide) h
  ·rw[h1];simp[Ex,hm];exact aa0 ho hm
theorem ae1 (r:Rule)(ask:Int):ao T 132 [rG r,.ref (.int ask)] (.bool (decide (r.ask=ask))):=by
 refine .of_tree rfl (lA 72 (by kernel_rfl)) apj ?_;simp[Rl]
theorem amq (o:Order)(ask:Int)(ho:o.OK)(hl:o.rules.length≤4294967296):ao T 104 [jo o,.int ask] (.tup [dD (findF o ask).1,.int (findF o ask).2]):=by
 refine .of_tree rfl (lA 71 (by kernel_rfl)) apk ?_;simp[Rk,findF];refine⟨_,OH ask,?_⟩;cases h0:(lu ask).2
 ·simp[h0]
  try rfl
 simp[h0];refine⟨_,abZ o.rules 132 [.ref (.int ask)] (uF o ask) (fun k hk=>by simpa [uF,hk] using ae1 o.rules[k] ask) hl,?_⟩;rcases C9 o.rules.length (uF o ask) with⟨h1,h2⟩|⟨m,hm,h1,h2,h3⟩
 ·rw[h1];simp
  try rfl
 ·rw[h1];have CC:¬((m:Int)<0):=by omega
  have htm:o.rules[m].term.OK:=aa0 ho hm;simp[hm,Ex,CC];refine⟨_,abv _ htm,?_⟩;by_cases h4:(ng o.rules[m].term).2=0<;>by_cases h5:(ng o.rules[m].term).1=(lu ask).1<;>simp[h4,h5]<;>try rfl
def pW (o:Order)(ask:Int)(cs:List Cell):Cell×Int:=
 if(findF o ask).2≠0 then(ed,(findF o ask).2) else
    (if(lu ask).1=0∧(yK cs (findF o ask).1).known=true then⟨true,min (max (yK cs (findF o ask).1).n 0) 20000⟩ else yK cs (findF o ask).1,0)
theorem amo (o:Order)(ask:Int)(cs:List Cell)(ho:o.OK)(hl:o.rules.length≤4294967296):ao T 84 [jo o,.int ask,cells cs] (.tup [cR (pW o ask cs).1,.int (pW o ask cs).2]):=by
 refine .of_tree rfl (lA 70 (by kernel_rfl)) aph ?_;simp[Ri];refine⟨_,amq o ask ho hl,?_⟩;have hf:(findF o ask).1.OK:=ae3 ho ask;by_cases h:(findF o ask).2=0
 ·simp[h,pW];refine⟨_,aoA _ cs hf,_,OH ask,?_⟩;generalize yK cs (findF o ask).1=c;obtain⟨kn,n⟩:=c;by_cases h1:(lu ask).1=0
  ·cases kn
   ·simp[h1,cR]
   ·by_cases h2:n<0
    ·have:min (max n 0) 20000=0:=by omega
     simp[h1,cR,h2,this];rfl
    ·by_cases h3:20000<n
     ·have:min (max n 0) 20000=20000:=by omega
      simp[h1,cR,h2,h3,this];rfl
     ·have:min (max n 0) 20000=n:=by omega
      simp[h1,cR,h2,h3,this];rfl
  ·simp[h1,cR]
 ·simp[h,pW]
  try rfl
end Rm
namespace Rm
open Go Go.Proofs Cx
theorem aaK (b:Bool):ao T 142 [.bool b] (cR (gJ b)):=by
 refine .of_tree rfl (lA 61 (by kernel_rfl)) ap9 ?_;cases b<;>simp[R8,gJ]<;>rfl
def GD (kind sign:Int)(x:Fact):Bool:=decide (x.kind=kind)&&decide (x.at_=sign)
def kP (f:File)(kind sign:Int):Cell:=match f.facts.find? (GD kind sign) with|none=>ed|some x=>gJ (decide (x.n≠0))
theorem GG {α:Type}{p:α→Bool}:∀{l:List α} {k:Nat} (hk:k<l.length),p l[k]=true→(∀j (hj:j<k),p (l[j]'(by omega))=false)→l.find? p=some l[k]
 |a::l,0,hk,h,hj=>by simp at h;simp[h]
 |a::l,k+1,hk,h,hj=>by
  have h0:=hj 0 (by omega);simp at h0;simp only[List.find?_cons,h0,List.getElem_cons_succ];exact GG (by simpa using hk) (by simpa using h) (fun j cE=>by simpa using hj (j+1) (by omega))
theorem LB {α:Type}{p:α→Bool}{l:List α}(h:∀j (hj:j<l.length),p l[j]=false):l.find? p=none:=by
 rw[xl];intro x hx;obtain⟨j,hj,rfl⟩:=lE hx;rw[h j hj];decide
theorem Et (f:File)(kind sign:Int)(hl:f.facts.length≤4294967296):ao T 143 [aY f,.int kind,.int sign] (cR (kP f kind sign)):=by
 refine .of_tree rfl (lA 62 (by kernel_rfl)) ap6 ?_;simp[R6];refine .scan f.facts.length (fun k=>GD kind sign (f.facts.getD k default)=false) (fun k=>[.int k]) (fun _=>[cR ed]) ?_ (fun k hk hj ho=>?_) (fun k hk hj ho=>?_) (fun hj=>?_)
 ·simp
 ·have hw:=br hk hl;simp[hk,GD] at ho;by_cases h1:f.facts[k].kind=kind<;>by_cases h2:f.facts[k].at_=sign
  ·exact absurd h2 (ho h1)
  all_goals simp[P7,Ef,hk,hw,h1,h2]
 ·have hw:=br hk hl;have hf:kP f kind sign=gJ (decide (f.facts[k].n≠0)):=by
   unfold kP;rw[GG hk (by simpa [hk] using ho) (fun j cE=>by have:=hj j cE;simpa [show j<f.facts.length by omega] using this)]
  simp[hk,GD] at ho;simp[P7,Ef,hk,hw,ho,hf];refine⟨_,aaK _,?_⟩;simp
  try rfl
 ·have hf:kP f kind sign=ed:=by
   unfold kP;rw[LB (fun j cE=>by have:=hj j cE;simpa [cE] using this)]
  simp[P7,Ef,hf]
  try rfl
def l9 (r:Realm)(c:Int):Int:=if aD c r.cities.length=true then(r.cities.getD c.toNat default).order else-1
theorem qL (r:Realm)(c:Int):ao T 128 [ba r,.int c] (.int (l9 r c)):=by
 refine .of_tree rfl (lA 60 (by kernel_rfl)) apT ?_;simp[RT,l9];refine⟨_,fI c r.cities.length,?_⟩;cases h:aD c r.cities.length
 ·simp[h]
 ·simp[aD] at h;have h1:c.toNat<r.cities.length:=by omega
  simp[h,h1]
def JP (day:Int)(l:List Sign):List Sign:=l.takeWhile fun s=>decide (s.day≤day)
def upA (day:Int)(l:List Act):List Act:=l.takeWhile fun s=>decide (s.day≤day)
def pV (n:Nat)(a:Alter):Bool:=decide (a.at_≤(n:Int))
def rJ (n:Nat)(x:Fact):Bool:=aD x.at_ n
def jm (f:File)(day:Int):File:=
 ⟨f.bill,JP day f.signs,f.alters.filter (pV (JP day f.signs).length),upA day f.acts,f.facts.filter (rJ (JP day f.signs).length)⟩
theorem JM {α:Type}(p:α→Bool):∀(l:List α),∃m,m≤l.length∧l.takeWhile p=l.take m∧(∀k (hk:k<l.length),k<m→p l[k]=true)∧(∀hk:m<l.length,p l[m]=false)
 |[]=>⟨0,by simp,by simp,fun k hk=>by simp at hk,fun hk=>by simp at hk⟩
 |a::l=>by
  by_cases h:p a=true
  ·obtain⟨m,h1,h2,h3,h4⟩:=JM p l;refine⟨m+1,by simp;omega,by simp[h,h2],fun k hk hm=>?_,fun hk=>?_⟩
   ·cases k with
    |zero=>simpa using h
    |succ k=>simpa using h3 k (by simpa using hk) (by omega)
   ·simpa using h4 (by simpa using hk)
  ·refine⟨0,by simp,by simp[h],fun k hk hm=>by omega,fun hk=>by simpa using h⟩
theorem QH {α:Type}(p:α→Bool)(l:List α){k:Nat}(hk:k<l.length):(l.take (k+1)).filter p=(l.take k).filter p++if p l[k] then[l[k]] else[]:=by
 rw[m9 hk,EW]
 congr 1
 cases h:p l[k]<;>simp[h]
def A0 (b:Bill)(w x y z:D):D:=.agg [.int b.drawer,.int b.drawee,.int b.payee,.int b.sum,.int b.currency,.int b.tenor.kind,.int b.tenor.n,.int b.tenor.unit,.int b.day,.int b.city,.int b.pay,.int b.need,.int b.rate,.int b.flags,.int b.parts,w,x,y,z]
def nA {α:Type}(l:List α):D:=match l with|[]=>.list []|_=>.none
@[simp] theorem awj {α:Type}:nA ([]:List α)=.list []:=rfl
@[simp] theorem awi {α:Type}(l:List α)(x:α):nA (l++[x])=.none:=by cases l<;>rfl
theorem aaJ (f:File)(day:Int)(h1:f.signs.length≤4294967295)(h2:f.acts.length≤4294967295)(h3:f.alters.length≤4294967295)(h4:f.facts.length≤4294967295):ao T 13 [aY f,.int day] (aY (jm f day)):=by
 refine .of_tree rfl (lA 54 (by kernel_rfl)) ap5 ?_;simp[R5];obtain⟨m,hm,hS,Vu,yV⟩:=JM (fun s:Sign=>decide (s.day≤day)) f.signs;obtain⟨n,hn,hA,hA1,hA2⟩:=JM (fun s:Act=>decide (s.day≤day)) f.acts;refine aT.forRounds m (fun k=>[.int k]) (fun k=>[signs (f.signs.take k),A0 f.bill (nA (f.signs.take k)) (.list []) (.list []) (.list [])]) ?_ (fun k hk=>?_) ?_
 ·simp[A0,signs]
  try rfl
 ·have bn:k<f.signs.length:=by omega
  have hw:=br bn (by omega);have hd:=Vu k bn hk;simp at hd;have gB:¬day<f.signs[k].day:=by omega
  have hle:(k:Int)+1≤4294967296:=by omega
  have ht:=m9 bn;rw[ht];have hlen:(f.signs.take k).length=k:=by simp;omega
  generalize f.signs.take k=A at*;simp[P3,Eb,bn,hw,gB,hlen];exact⟨hle,by simp[signs],rfl⟩
 have hSl:(f.signs.take m).length≤4294967295:=by rw[dR];omega
 have hAt:jm f day=⟨f.bill,f.signs.take m,f.alters.filter (pV (f.signs.take m).length),f.acts.take n,f.facts.filter (rJ (f.signs.take m).length)⟩:=by
  unfold jm JP upA;rw[hS,hA]
 rw[hAt];generalize f.signs.take m=S at*;have hAl:(f.acts.take n).length≤4294967295:=by rw[dR];omega
 by_cases eV:m<f.signs.length
 case' pos=>
  have hd:=yV eV;simp at hd;simp[P3,Eb,eV,hd];generalize D.bool true=bb
 case' neg=>
  have Cw:m=f.signs.length:=by omega
  simp[P3,Eb,eV,Cw];generalize D.bool false=bb
 all_goals
  refine aT.forRounds n (fun k=>[.int k]) (fun k=>[acts (f.acts.take k),A0 f.bill (nA S) (.list []) (nA (f.acts.take k)) (.list [])]) ?_ (fun k hk=>?_) ?_
  ·simp[acts]
  ·have bn:k<f.acts.length:=by omega
   have hw:=br bn (by omega);have hd:=hA1 k bn hk;simp at hd;have gB:¬day<f.acts[k].day:=by omega
   have hle:(k:Int)+1≤4294967296:=by omega
   have ht:=m9 bn;rw[ht];have hlen:(f.acts.take k).length=k:=by simp;omega
   generalize f.acts.take k=A at*;simp[P4,Ec,bn,hw,gB,hlen];exact⟨hle,by simp[acts],rfl⟩
  generalize f.acts.take n=A at*;by_cases jy:n<f.acts.length
  case' pos=>
   have hd:=hA2 jy;simp at hd;simp[P4,Ec,jy,hd];generalize D.bool true=bc
  case' neg=>
   have oT:n=f.acts.length:=by omega
   simp[P4,Ec,jy,oT];generalize D.bool false=bc
  all_goals
   refine aT.forRounds f.alters.length (fun k=>[.int k]) (fun k=>[A0 f.bill (nA S) (nA ((f.alters.take k).filter (pV S.length))) (nA A) (.list []),alters ((f.alters.take k).filter (pV S.length))]) ?_ (fun k hk=>?_) ?_
   ·simp[alters]
   ·have hw:=br hk (by omega);have ht:=QH (pV S.length) f.alters hk;rw[ht];have hlen:((f.alters.take k).filter (pV S.length)).length≤k:=lG (sU _ _) (by simp;omega);generalize (f.alters.take k).filter (pV S.length)=B at*;by_cases hd:f.alters[k].at_≤(S.length:Int)
    ·simp[P5,Ed,pV,hk,hw,hd];exact⟨by omega,rfl,by simp[alters]⟩
    ·simp[P5,Ed,pV,hk,hw,hd]
   simp[P5,Ed];generalize f.alters.filter (pV S.length)=B at*;refine aT.forRounds f.facts.length (fun k=>[.int k]) (fun k=>[A0 f.bill (nA S) (nA B) (nA A) (nA ((f.facts.take k).filter (rJ S.length))),facts ((f.facts.take k).filter (rJ S.length))]) ?_ (fun k hk=>?_) ?_
   ·simp[facts]
   ·have hw:=br hk (by omega);have ht:=QH (rJ S.length) f.facts hk;rw[ht];have hlen:((f.facts.take k).filter (rJ S.length)).length≤k:=lG (sU _ _) (by simp;omega);generalize (f.facts.take k).filter (rJ S.length)=C at*;cases hd:aD f.facts[k].at_ S.length
    ·simp[P6,Ee,rJ,hk,hw,hd];refine⟨_,pE _ _,?_⟩;simp[hd,hw]
    ·simp[P6,Ee,rJ,hk,hw,hd];refine⟨_,pE _ _,?_⟩;simp[hd,hw];exact⟨by omega,rfl,by simp[facts]⟩
   simp[P6,Ee];rfl
end Rm
namespace Rm
open Go Go.Proofs Cx
end Rm
namespace Rm
open Go Go.Proofs Cx
def gL (g:Nat→Cell):D:=.list ((List.range 20).map fun i=>cR (g i))
theorem Uh {g g':Nat→Cell}(h:∀i,i<20→g i=g' i):gL g=gL g':=by
 unfold gL
 congr 1
 exact uY fun i hi=>by rw[h i (by simpa using hi)]
theorem Ui (g:Nat→Cell)(k:Nat)(c:Cell):D.list ((gL g).l.set k (cR c))=gL (fun i=>if i=k then c else g i):=by
 unfold gL
 congr 1
 show((List.range 20).map fun i=>cR (g i)).set k (cR c)=_;apply List.ext_getElem
 ·simp
 ·intro i h1 h2;simp at h2;rw[List.getElem_set];by_cases h:k=i
  ·simp[h]
  ·have h':¬i=k:=fun e=>h e.symm;simp[h,h']
@[simp] theorem aul (g:Nat→Cell):(gL g).l.length=20:=by
  show((List.range 20).map fun i=>cR (g i)).length=20;simp
theorem Fh (g:Nat→Cell){k:Nat}(hk:k<20):(gL g).l[k]?.getD D.none=cR (g k):=by
 show((List.range 20).map fun i=>cR (g i))[k]?.getD D.none=cR (g k);simp[hk]
theorem adf (g:Nat→Cell){k:Nat}(hk:k<(gL g).l.length):(gL g).l[k]=cR (g k):=by
 have h:=Fh g (k:=k) (by simpa using hk);rw[bA hk] at h;exact h
theorem adh (g:Nat→Cell)(k:Nat)(c:Cell):(gL g).l.set k (cR c)=(gL (fun i=>if i=k then c else g i)).l:=congrArg D.l (Ui g k c)
theorem adg (g:Nat→Cell):D.list (gL g).l=gL g:=rfl
@[simp] theorem axX (x:Cell)(b:Bool)(n:Int):sK (cR x) 0 (D.agg [D.bool b,D.int n])=cR ⟨b,n⟩:=_root_.id rfl
def yM {α:Type}(l:List (Int×α))(val:α→Cell)(g0:Nat→Cell)(i:Nat):Cell:=match l.find? (fun p=>decide (p.1=(i:Int))) with|some p=>val p.2|none=>g0 i
def qA {α:Type}(enc:α→D)(p:Int×α):D:=.tup [.int p.1,enc p.2]
theorem XC {α:Type}{J o:Nat}{ps cH:List Nat}{a:PC}{ρ:Env}{Q:Out→Prop}(l:List (Int×α))(enc:α→D)(val:α→Cell)(g0:Nat→Cell)
 (nd:∀p q,p∈l→q∈l→p.1=q.1→p=q) (Qr:∀p,p∈l→0≤p.1) (he:ρ.o J=.tup [.list [],.map (l.map fun p=>(.int p.1,enc p.2))]) (h0:ρ.o o=gL g0)
 (step:∀p,p∈l→∀g done,aI T (pH [o] a) ((ρ.put ps (cH.map (qA enc p).tget) [o] [gL g]).setO J (.tup [.list (done++[qA enc p]),.map (l.map fun p=>(.int p.1,enc p.2))])) (fun y=>∃ρ',y=.next ρ'∧ρ'.o o=.list ((gL g).l.set p.1.toNat (cR (val p.2)))))
 (last:Q (.next (ρ.put [] [] [o] [gL (yM l val g0)]))):aT T (.meach J ps cH [o] a) ρ Q:=by
 have mK:gX (.map (l.map fun p=>((D.int p.1,enc p.2):D×D)))=l.map (qA enc):=by
  simp[gX,qA]
 refine .meachR _ he (fun done vo=>∃g:Nat→Cell,vo=[gL g]∧(∀p,p∈l→qA enc p∈done→g p.1.toNat=val p.2)∧∀i:Nat,(∀p,p∈l→qA enc p∈done→p.1≠i)→g i=g0 i) ⟨g0,by simp[h0],(fun p _ h=>by cases h),fun i _=>rfl⟩ (fun done x rest vo hp ⟨g,hv,Cl,ij⟩=>?_) ⟨_,fun done hp vo ⟨g,hv,Cl,ij⟩=>?_,last⟩
 ·subst hv;rw[mK] at hp;have hx:x∈l.map (qA enc):=hp.subset (by simp);obtain⟨p,eX,rfl⟩:=eO.mp hx;refine xp _ (fun y ⟨ρ',e,ho⟩=>⟨ρ',e,fun i=>if i=p.1.toNat then val p.2 else g i,by simp[ho,Ui],fun q hq MV=>?_,fun i hi=>?_⟩) (step p eX g done)
  ·have MW:=Qr q hq;have oW:=Qr p eX;by_cases h:q.1=p.1
   ·rw[nd q p hq eX h];simp
   ·show(if q.1.toNat=p.1.toNat then val p.2 else g q.1.toNat)=val q.2;rw[if_neg (by omega)];rcases dB.mp MV with h1|h1
    ·exact Cl q hq h1
    ·simp[qA] at h1;exact absurd h1.1 h
  ·have oW:=Qr p eX;have cU:=hi p eX (by simp);show(if i=p.1.toNat then val p.2 else g i)=g0 i;rw[if_neg (by omega)];exact ij i fun q hq MV=>hi q hq (by simp[MV])
 ·rw[hv,mK] at*
  congr 1
  refine Uh fun i hi=>?_;unfold yM;cases hf:l.find? (fun p=>decide (p.1=(i:Int))) with
  |some p=>
   have eX:=xo hf;have HD:p.1=(i:Int):=by simpa using JW hf
   have:=Cl p eX (hp.symm.subset (List.mem_map_of_mem eX));simp only;rw[←this,HD];rfl
  |none=>
   refine ij i fun p eX _=>?_;have:=xl.mp hf p eX;simpa using this
@[simp] theorem awH (a b:Int):ec (D.int a) (D.int b)=decide (a=b):=by
  show((a==b)&&true)=decide (a=b);rw[Bool.and_true];by_cases h:a=b<;>simp[h]
def tz (n k:Int):Bool:=decide (cX .and .i64 n k≠0)
def zu (s:Sign)(due:Int):Int:=if due=-1 then 0 else s.day-due
def TV (f:File)(sign:Int):Bool:=(List.range f.alters.length).any fun k=>decide ((f.alters.getD k default).at_≤sign)
def oU (c:Case):Int:=if c.holder<0 then 0 else c.holder
def uD (c:Case)(s:Sign):List (Int×Int):=[(0,c.file.bill.sum),(1,c.file.bill.parts),(2,c.file.bill.tenor.kind),(3,c.file.bill.rate),(4,s.kind),(5,c.defence),(6,zu s c.due)]
def uE (r:Realm)(c:Case)(s:Sign):List (Int×Bool):=[(7,tz c.file.bill.flags 1),(8,decide (c.file.bill.payee=-1)),(9,tz c.file.bill.flags 4),(10,tz c.file.bill.flags 2),(11,decide (l9 r c.file.bill.city≠l9 r c.file.bill.pay)),(12,TV c.file c.sign),(13,tz s.flags 1),(14,decide (0<zu s c.due))]
def LN (r:Realm)(c:Case)(s:Sign):List Cell:=
 (uD c s).map (fun p=>⟨true,p.2⟩)++(uE r c s).map (fun p=>gJ p.2)++
    [kP c.file 0 c.sign,kP c.file 1 c.sign,kP c.file 2 c.sign,kP c.file 3 (oU c),kP c.file 4 (oU c)]
@[simp] theorem atT (x:Case):jP 19 (fo x)=aY x.file:=_root_.id rfl
@[simp] theorem atP (x:Case):jP 15 (fo x)=fK x.file.bill:=_root_.id rfl
@[simp] theorem atQ (x:File):jP 15 (aY x)=fK x.bill:=_root_.id rfl
def tg (c:Case):Bool:=aD c.sign c.file.signs.length&&decide (-1≤c.holder)&&decide (oU c<c.file.signs.length)&&(decide (c.due=-1)||aD c.due 100001)
def kg (r:Realm)(c:Case):List Cell:=if tg c=true∧aD (c.file.signs.getD c.sign.toNat default).day 100001=true then LN r c (c.file.signs.getD c.sign.toNat default) else[]
theorem anK (r:Realm)(c:Case)(h2:c.file.facts.length≤100000)(h3:c.file.alters.length≤100000):ao T 127 [ba r,fo c] (cells (kg r c)):=by
 refine .of_tree rfl (lA 56 (by kernel_rfl)) ap8 ?_;cases hs:aD c.sign c.file.signs.length
 ·have hv:kg r c=[]:=by unfold kg tg;rw[hs];simp
  rw[hv];simp[uO];refine⟨_,pE _ _,?_⟩;simp[hs];rfl
 by_cases hh:c.holder< -1
 ·have hv:kg r c=[]:=by unfold kg tg;rw[hs];simp;intros;omega
  rw[hv];simp[uO,hh];exact⟨⟨_,pE _ _⟩,rfl⟩
 by_cases hm:(c.file.signs.length:Int)≤oU c
 ·have hv:kg r c=[]:=by unfold kg tg;rw[hs];simp;intros;omega
  rw[hv];unfold oU at hm;simp[uO,hm];exact⟨⟨_,pE _ _⟩,rfl⟩
 by_cases hd:c.due≠-1∧aD c.due 100001=false
 ·have hv:kg r c=[]:=by unfold kg tg;rw[hs];simp[hd]
  rw[hv];unfold oU at hm;obtain⟨bj,dN⟩:=hd;simp[uO,hh,hm,bj];refine⟨_,pE _ _,?_⟩;simp[hs,hh,hm,bj];refine⟨_,pE _ _,?_⟩;simp[hs,hh,hm,bj,dN];rfl
 have hcb:tg c=true:=by
  unfold tg;rw[hs];simp;refine⟨⟨by omega,by omega⟩,?_⟩;by_cases h:c.due=-1
  ·exact .inl h
  ·right;cases hb:aD c.due 100001
   ·exact absurd ⟨h,hb⟩ hd
   ·rfl
 have hlen:c.sign.toNat<c.file.signs.length:=by simp[aD] at hs;omega
 have eY:0≤c.sign∧c.sign<(c.file.signs.length:Int):=by simpa [aD] using hs
 obtain⟨s,CU⟩:∃s:Sign,s=c.file.signs[c.sign.toNat]:=⟨_,rfl⟩
 have tT:c.file.signs.getD c.sign.toNat default=s:=by rw[CU];simp[hlen]
 have hv:kg r c=if aD s.day 100001=true then LN r c s else[]:=by
  unfold kg;rw[tT,hcb];simp
 rw[hv];unfold oU at hm;by_cases Ce:c.due=-1
 case' pos=>
  have VH:(c.due=-1)=True:=eq_true Ce;simp[uO,hh,hm,VH];refine⟨_,pE _ _,?_⟩;simp[hs,hh,hm,VH,hlen,←CU,eY]
 case' neg=>
  have tH:aD c.due 100001=true:=by
   cases hb:aD c.due 100001
   ·exact absurd ⟨Ce,hb⟩ hd
   ·rfl
  simp[uO,hh,hm,Ce];refine⟨_,pE _ _,?_⟩;simp[hs,hh,hm,Ce];refine⟨_,pE _ _,?_⟩;simp[hs,hh,hm,Ce,tH,hlen,←CU,eY]
 all_goals
  refine⟨_,pE _ _,?_⟩;cases tG:aD s.day 100001
  ·simp[tG];rfl
  simp[tG,cQ];refine XC (uD c s) D.int (fun n=>⟨true,n⟩) (fun _=>ed) ?_ ?_ ?_ ?_ (fun p hp g done=>?_) ?_
  ·intro p q hp hq h;simp[uD] at hp hq;rcases hp with rfl|rfl|rfl|rfl|rfl|rfl|rfl<;>rcases hq with rfl|rfl|rfl|rfl|rfl|rfl|rfl<;>first|rfl|(simp at h)
  ·intro p hp;simp[uD] at hp;rcases hp with rfl|rfl|rfl|rfl|rfl|rfl|rfl<;>simp
  ·have Mk:(if c.due=-1 then(0:Int) else IntKind.i64.wrap (s.day-c.due))=zu s c.due:=by
        unfold zu;by_cases h:c.due=-1
        ·simp[h]
        ·have tH:aD c.due 100001=true:=by
          cases hb:aD c.due 100001
          ·exact absurd ⟨h,hb⟩ hd
          ·rfl
         simp[aD] at tH tG;rw[if_neg h,if_neg h];exact bV (by omega)
   simp[uD,cQ,hlen,←CU];rw[←Mk];by_cases h:c.due=-1<;>simp[h]
  ·simp[gL];rfl
  ·have hr:0≤p.1∧p.1<20:=by
        simp[uD] at hp;rcases hp with rfl|rfl|rfl|rfl|rfl|rfl|rfl<;>simp
   have hk:p.1.toNat<20:=by omega
   simp[anA,P8,qA,Fh g hk];exact hr
  have ah3:∀k (hk:k<c.file.alters.length),ao T 141 (oI c.file.alters[k]::[.ref (fo c)]) (.bool (decide ((c.file.alters.getD k default).at_≤c.sign))):=fun k hk=>by
   refine .of_tree rfl (lA 57 (by kernel_rfl)) ap7 ?_;simp[R7,hk]
  simp;refine⟨_,abT c.file.alters _ _ _ ah3 (by omega),_,qL r _,_,qL r _,?_⟩;have Mk:(if c.due=-1 then(0:Int) else IntKind.i64.wrap (s.day-c.due))=zu s c.due:=by
   unfold zu;by_cases h:c.due=-1
   ·simp[h]
   ·have tH:aD c.due 100001=true:=by
     cases hb:aD c.due 100001
     ·exact absurd ⟨h,hb⟩ hd
     ·rfl
    simp[aD] at tH tG;rw[if_neg h,if_neg h];exact bV (by omega)
  have Mj:cells (LN r c s)=gL (fun i=>if i=15 then kP c.file 0 c.sign else if i=16 then kP c.file 1 c.sign else if i=17 then kP c.file 2 c.sign else if i=18 then kP c.file 3 (oU c) else if i=19 then kP c.file 4 (oU c) else yM (uE r c s) gJ (yM (uD c s) (fun n=>⟨true,n⟩) (fun _=>ed)) i):=by
   rfl
  generalize yM (uD c s) (fun n=>(⟨true,n⟩:Cell)) (fun _=>ed)=g1 at*;refine XC (uE r c s) D.bool gJ g1 ?_ ?_ ?_ ?_ (fun p hp g done=>?_) ?_
  ·intro p q hp hq h;simp[uE] at hp hq;rcases hp with rfl|rfl|rfl|rfl|rfl|rfl|rfl|rfl<;>rcases hq with rfl|rfl|rfl|rfl|rfl|rfl|rfl|rfl<;>first|rfl|(simp at h)
  ·intro p hp;simp[uE] at hp;rcases hp with rfl|rfl|rfl|rfl|rfl|rfl|rfl|rfl<;>simp
  ·simp[uE,cQ,hlen,←CU,tz];rw[←Mk];by_cases h:c.due=-1<;>simp[h,TV]
  ·simp
  ·have hr:0≤p.1∧p.1<20:=by
        simp[uE] at hp;rcases hp with rfl|rfl|rfl|rfl|rfl|rfl|rfl|rfl<;>simp
   have hk:p.1.toNat<20:=by omega
   simp[anB,P9,qA,Fh g hk];refine⟨_,aaK _,?_⟩;simp[Fh g hk];exact hr
  simp;generalize yM (uE r c s) gJ g1=g2 at*;have hho:(if c.holder<0 then D.int 0 else D.int c.holder)=D.int (oU c):=by
   unfold oU;split<;>rfl
  rw[hho];refine⟨_,Et _ _ _ (by omega),_,Et _ _ _ (by omega),_,Et _ _ _ (by omega),_,Et _ _ _ (by omega),_,Et _ _ _ (by omega),?_⟩;rw[Mj];simp only[adf,aoh,adh,adg];refine Uh fun i hi=>?_;by_cases GP:i=15
  ·subst GP;simp
  by_cases GQ:i=16
  ·subst GQ;simp
  by_cases GR:i=17
  ·subst GR;simp
  by_cases GS:i=18
  ·subst GS;simp
  by_cases Vi:i=19
  ·subst Vi;simp
  simp[GP,GQ,GR,GS,Vi]
end Rm
namespace Rm
open Go Go.Proofs Cx
def It (n:Nat)(x:Int):Bool:=decide (x<0)||decide ((n:Int)≤x)
def lN (r:Realm)(a q:Int)(l:List Int):Bool:=
 !(decide (a<0)||decide ((r.orders.length:Int)≤a)||decide (q<0)||decide (22≤q)||decide (l.length≠5))&& !((List.range l.length).any fun k=>It r.orders.length (l.getD k 0))
theorem ae4 (x n:Int):ao T 145 [.int x,.ref (.int n)] (.bool (decide (x<0)||decide (n≤x))):=by
 refine .of_tree rfl (lA 66 (by kernel_rfl)) aoZ ?_;by_cases h:x<0<;>simp[Q0,h]
theorem UX (r:Realm)(a q:Int)(l:List Int)(hl:l.length≤100000):ao T 129 [ba r,.int a,.int q,ints l] (.bool (lN r a q l)):=by
 refine .of_tree rfl (lA 65 (by kernel_rfl)) ao0 ?_;by_cases h1:a<0
 ·simp[uN,lN,h1]
 by_cases h2:(r.orders.length:Int)≤a
 ·simp[uN,lN,h1,h2]
 by_cases h3:q<0
 ·simp[uN,lN,h1,h2,h3]
 by_cases h4:22≤q
 ·simp[uN,lN,h1,h2,h3,h4]
 by_cases h5:(l.length:Int)=5
 ·have GV:l.length=5:=by omega
  simp[uN,h1,h2,h3,h4,GV];refine⟨_,abV l 145 [.ref (.int r.orders.length)] (fun k=>It r.orders.length (l.getD k 0)) (fun k hk=>by simpa [It,hk] using ae4 l[k] r.orders.length) (by omega),?_⟩;simp only[lN,GV];simp[h1,h2,h3,h4]
 ·have GV:¬l.length=5:=by omega
  simp[uN,lN,h1,h2,h3,h4,GV];intro h;omega
theorem LD {r:Realm}{a q:Int}{l:List Int}(h:lN r a q l=true):(0≤a∧a<r.orders.length)∧l.length=5∧(∀x,x∈l→0≤x∧x<r.orders.length)∧∀b:Int,0≤b→b<r.orders.length→lN r b q l=true:=by
 unfold lN at h ⊢;rw[ak] at h;obtain⟨h1,h2⟩:=h;simp at h1;refine⟨by omega,h1.2,fun x hx=>?_,fun b gP cY=>?_⟩
 ·obtain⟨k,hk,rfl⟩:=lE hx;simp[It] at h2;have:=h2 k hk;simp[hk] at this;omega
 ·rw[h2];simp;omega
def AP (r:Realm):Prop:=∀o,o∈r.orders→o.choices.length≤100000∧∀ch,ch∈o.choices→0≤ch.by_∧ch.by_<5
def wg (q:Int)(ch:Choice):Bool:=decide (ch.ask=q)&&decide (ch.by_≠0)
def nL (r:Realm)(a:Int):Order:=r.orders.getD a.toNat default
def fT (r:Realm)(a q:Int)(l:List Int):Int×Bool:=
 (match(nL r a).choices.find? (wg q) with|some ch=>l.getD ch.by_.toNat 0|none=>a,match(nL r a).choices.find? (wg q) with|some ch=>ch.whole|none=>false)
theorem Tv (r:Realm)(ns:AP r)(a q:Int)(l:List Int)(hl:l.length≤100000)(hf:lN r a q l=true):
 ao T 130 [ba r,.int a,.int q,ints l] (.tup [.int (fT r a q l).1,.bool (fT r a q l).2])∧0≤(fT r a q l).1∧(fT r a q l).1<r.orders.length:=by
 obtain⟨ha,VZ,hx,_⟩:=LD hf;have yZ:a.toNat<r.orders.length:=by omega
 obtain⟨aW,lP⟩:=ns _ (dA yZ);obtain⟨o,ho⟩:∃o,o=r.orders[a.toNat]:=⟨_,rfl⟩
 rw[←ho] at aW lP;have MG:nL r a=o:=by rw[ho];simp[nL,yZ]
 unfold fT;rw[MG];refine⟨?_,?_⟩
 ·refine .of_tree rfl (lA 69 (by kernel_rfl)) aoY ?_;simp[QZ];refine⟨_,UX r a q l hl,?_⟩;simp[hf,yZ,←ho,ha];refine aT.scan o.choices.length (fun k=>wg q (o.choices.getD k default)=false) (fun k=>[.int 0,.bool false,.int k]) (fun _=>[]) ?_ (fun k hk hj aA=>?_) (fun k hk hj aA=>?_) (fun hj=>?_)
  ·simp
  ·have hw:=br hk (by omega);have hn:¬(o.choices[k].ask=q∧¬o.choices[k].by_=0):=by simpa [wg,hk] using aA
   simp[Pt,DF,yZ,←ho,hk,hw,hn]
  ·have kQ:=GG hk (by simpa [hk] using aA) (fun j cE=>by have:=hj j cE;simpa [show j<o.choices.length by omega] using this);rw[kQ];have hc:o.choices[k].ask=q∧¬o.choices[k].by_=0:=by simpa [wg,hk] using aA
   have hb:=lP _ (dA hk);have G4:o.choices[k].by_.toNat<l.length:=by omega
   simp[Pt,DF,yZ,←ho,hk,hc,ints,G4];omega
  ·have kQ:=LB (l:=o.choices) (p:=wg q) (fun j cE=>by have:=hj j cE;simpa [cE] using this);rw[kQ];simp[Pt,DF,yZ,←ho]
 ·cases kQ:o.choices.find? (wg q) with
  |none=>exact ha
  |some ch=>
   have hb:=lP _ (xo kQ);have G4:ch.by_.toNat<l.length:=by omega
   simp[G4];exact hx _ (dA G4)
theorem OO:∀(N:Nat) (l:List Int),l.Nodup→(∀x,x∈l→0≤x∧x<(N:Int))→l.length≤N
 |0,l,hn,h=>by
  cases l with
  |nil=>simp
  |cons a l=>have:=h a (by simp);omega
 |N+1,l,hn,h=>by
  by_cases hm:(N:Int)∈l
  ·have h1:=OO N (l.erase (N:Int)) (hn.erase _) (fun x hx=>by
    have da:=(hn.mem_erase_iff).mp hx;have:=h x da.2;have aB:=da.1;omega)
   rw[List.length_erase_of_mem hm] at h1;omega
  ·have h1:=OO N l hn (fun x hx=>by
    have:=h x hx;have aB:x≠(N:Int):=fun e=>hm (e▸hx);omega)
   omega
def dh (l:List Int):Int:=l.getD (l.length-1) 0
def kI (r:Realm)(q:Int)(l:List Int):Nat→List Int→List Int×Int
 |0,p=>(p,0)
 |n+1,p=>
  if(fT r (dh p) q l).1=dh p then(p,0)
  else if(fT r (dh p) q l).2=false∨(hasB p (fT r (dh p) q l).1=true∧(nL r (fT r (dh p) q l).1).accepts=true) then(p++[(fT r (dh p) q l).1],0)
  else if hasB p (fT r (dh p) q l).1=true then(p++[(fT r (dh p) q l).1],12)
  else kI r q l n (p++[(fT r (dh p) q l).1])
theorem Nw (r:Realm)(q:Int)(l:List Int)(n:Nat)(p:List Int):kI r q l (n+1) p=
 if(fT r (dh p) q l).1=dh p then(p,0)
 else if(fT r (dh p) q l).2=false∨(hasB p (fT r (dh p) q l).1=true∧(nL r (fT r (dh p) q l).1).accepts=true) then(p++[(fT r (dh p) q l).1],0)
 else if hasB p (fT r (dh p) q l).1=true then(p++[(fT r (dh p) q l).1],12)
 else kI r q l n (p++[(fT r (dh p) q l).1]):=rfl
def iW (r:Realm)(a q:Int)(l:List Int):List Int×Int:=if lN r a q l=true∧l.getD 0 0=a then kI r q l r.orders.length [a] else([],1)
theorem ab6 (r:Realm)(ns:AP r)(hn:r.orders.length≤100000)(a q:Int)(l:List Int)(hl:l.length≤100000):ao T 103 [ba r,.int a,.int q,ints l] (.tup [ints (iW r a q l).1,.int (iW r a q l).2]):=by
 refine .of_tree rfl (lA 64 (by kernel_rfl)) aoX ?_;simp[QY];refine⟨_,UX r a q l hl,?_⟩;cases hf:lN r a q l
 ·simp[iW,hf];rfl
 obtain⟨ha,VZ,hx,yX⟩:=LD hf;have h0:0<l.length:=by omega
 by_cases Cs:l[0]=a
 ·have hE:iW r a q l=kI r q l r.orders.length [a]:=by unfold iW;rw[if_pos ⟨hf,by simp[h0,Cs]⟩]
  rw[hE];simp[h0,Cs,ints];refine aT.forLoop (α:=Nat×List Int) (fun s vr vo=>vr=[.list [],.int 0,.none]∧vo=[ints s.2]∧s.2.Nodup∧(∀x,x∈s.2→0≤x∧x<(r.orders.length:Int))∧s.2≠[]∧s.1+s.2.length=r.orders.length+1∧kI r q l s.1 s.2=kI r q l r.orders.length [a]) (fun s=>s.1) (r.orders.length,[a]) ?_ ?_
  ·simp[ints];exact ha
  ·rintro⟨n,p⟩ vr vo ⟨rfl,rfl,bk,bD,aB,hlen,Ct⟩;simp only at*;have eX:p.length≤r.orders.length:=OO _ p bk bD;have aiz:0<p.length:=J1.mpr aB;obtain⟨m,rfl⟩:∃m,n=m+1:=⟨n-1,by omega⟩
   have af:p.length-1<p.length:=by omega
   have kD:dh p=p[p.length-1]:=by simp[dh,af]
   have vN:=bD _ (dA af);rw[←kD] at vN;obtain⟨LX,fQ,fR⟩:=Tv r ns (dh p) q l hl (yX _ vN.1 vN.2);have Ms:((p.length:Int)-1).toNat=p.length-1:=by omega
   have Ni:IntKind.i64.wrap ((p.length:Int)-1)=(p.length:Int)-1:=bV (by omega);rw[←Ct,Nw];obtain⟨L,hL⟩:∃L,L=fT r (dh p) q l:=⟨_,rfl⟩
   rw[←hL] at LX fQ fR ⊢;obtain⟨to,whole⟩:=L;simp only at LX fQ fR;have zj:to.toNat<r.orders.length:=by omega
   have MG:nL r to=r.orders[to.toNat]:=by simp[nL,zj]
   simp only[MG];simp[anx,Ps,Ni,Ms,af,←kD,ints];refine⟨by omega,_,LX,?_⟩;by_cases h1:to=dh p
   ·simp[h1]
   simp[h1];refine⟨_,AR p to (by omega),by omega,?_⟩;cases whole
   ·simp
   cases h2:hasB p to
   ·have cI:to∉p:=fun hm=>by
     have:hasB p to=true:=by simp[hasB,hm]
     rw[h2] at this;cases this
    simp[h2];refine⟨m,by omega,p++[to],by simp,?_,?_,by simp,by simp;omega,rfl⟩
    ·exact AW.mpr ⟨bk,by simp,fun x hx y hy=>by simp at hy;subst hy;exact fun e=>cI (e▸hx)⟩
    ·intro x hx;rcases dB.mp hx with h|h
     ·exact bD x h
     ·simp at h;subst h;exact⟨fQ,fR⟩
   ·cases h3:r.orders[to.toNat].accepts<;>simp[h2,h3,zj]<;>omega
 ·have hE:iW r a q l=([],1):=by unfold iW;rw[if_neg (by simp[h0,Cs])]
  rw[hE];simp[h0,Cs];rfl
end Rm
namespace Rm
open Go Go.Proofs Cx
def eE (f:File)(i:Int):Sign:=f.signs.getD i.toNat default
def ma (r:Realm)(ar:Int)(c:Case):List Int:=[ar,l9 r (eE c.file c.sign).city,l9 r c.file.bill.pay,l9 r c.file.bill.city,l9 r (r.firms.getD (eE c.file c.sign).who.toNat default).city]
def pX (r:Realm)(ar:Int)(c:Case):Prop:=(eE c.file c.sign).who<0∨(r.firms.length:Int)≤(eE c.file c.sign).who∨ar<0∨(r.orders.length:Int)≤ar
instance (r:Realm) (ar:Int) (c:Case):Decidable (pX r ar c):=by unfold pX;infer_instance
def j7 (r:Realm)(ar:Int)(c:Case):List Int:=if pX r ar c then[] else if hasB (ma r ar c) (-1)=true then[] else ma r ar c
@[simp] theorem aue (r:Realm)(x:Int):xx (ba r) x=l9 r x:=by
  unfold xx l9 aD;by_cases h:0≤x∧x<(r.cities.length:Int)
  ·have hx:x.toNat<r.cities.length:=by omega
   rw[if_pos (by simpa using h),if_pos (by simpa using h)];simp[hx]
  ·rw[if_neg (by simpa using h),if_neg (by simpa using h)]
theorem ZI (r:Realm)(ar:Int)(c:Case)(h1:c.sign.toNat<c.file.signs.length):OP [ba r,.int ar,fo c]=ints (j7 r ar c):=by
 have hs:eE c.file c.sign=c.file.signs[c.sign.toNat]:=by simp[eE,h1]
 unfold OP j7;simp[h1];by_cases hb:pX r ar c
 ·rw[if_pos (by simpa [pX,hs] using hb),if_pos hb];rfl
 ·rw[if_neg (by simpa [pX,hs] using hb),if_neg hb];have HL:(eE c.file c.sign).who.toNat<r.firms.length:=by unfold pX at hb;omega
  have WD:c.file.signs[c.sign.toNat].who.toNat<r.firms.length:=by rw[←hs];exact HL
  have jV:ma r ar c=[ar,l9 r c.file.signs[c.sign.toNat].city,l9 r c.file.bill.pay,l9 r c.file.bill.city,l9 r r.firms[c.file.signs[c.sign.toNat].who.toNat].city]:=by
   simp[ma,hs,WD]
  have cV:∀l:List Int,hasB l (-1)=true↔-1∈l:=fun l=>by simp[hasB]
  rw[jV];simp[WD];split
  ·rename_i h;rw[if_pos ((cV _).mpr (by simpa using h))];rfl
  ·rename_i h;rw[if_neg (fun h'=>h (by simpa using(cV _).mp h'))]
theorem amK (r:Realm)(ar:Int)(c:Case)(h1:0≤c.sign∧c.sign<c.file.signs.length):ao T 102 [ba r,.int ar,fo c] (ints (j7 r ar c)):=by
 have cK:c.sign.toNat<c.file.signs.length:=by omega
 rw[←ZI r ar c cK];have hs:eE c.file c.sign=c.file.signs[c.sign.toNat]:=by simp[eE,cK]
 refine ao.of_nsl rfl aoR aoS ?_;rw[ZI r ar c cK];by_cases hb:pX r ar c
 ·refine .inr ⟨by simp[j7,hb];rfl,?_⟩;have gi:=hb;simp[pX,hs] at gi;simp[JH,h1,cK]
  intros;omega
 have qe:j7 r ar c=if hasB (ma r ar c) (-1)=true then[] else ma r ar c:=by unfold j7;rw[if_neg hb]
 have gi:=hb;simp[pX,hs] at gi;have hw:c.file.signs[c.sign.toNat].who.toNat<r.firms.length:=by omega
 have hC:=AR (ma r ar c) (-1) (by simp[ma]);cases hh:hasB (ma r ar c) (-1)<;>rw[hh] at hC<;>simp[ma,ints,hs,hw] at hC
 ·refine .inl ⟨(ma r ar c).map .int,by simp[ma],by rw[qe,hh];rfl,?_⟩;simp[QT,h1,cK,hw];rw[if_neg (by omega)];refine⟨_,qL r _,_,qL r _,_,qL r _,by omega,_,qL r _,_,by simpa using hC,?_⟩;simp[ma,hs,hw]
 ·refine .inr ⟨by rw[qe,hh];rfl,?_⟩;simp[JH,h1,cK,hw]
  intros
  refine⟨_,qL r _,_,qL r _,_,qL r _,by omega,_,qL r _,_,by simpa using hC,?_⟩;simp
end Rm
namespace Rm
open Go Go.Proofs Cx
structure Right (r:Realm):Prop where
 by_:AP r
 len:r.orders.length≤100000
 ok:∀o,o∈r.orders→o.OK∧o.rules.length≤100000
structure FewS (f:File):Prop where
 signs:f.signs.length≤1000
 alters:f.alters.length≤1000
 acts:f.acts.length≤1000
 facts:f.facts.length≤1000
theorem abH {α:Type}(p:α→Bool)(l:List α):(l.takeWhile p).length≤l.length:=by
 obtain⟨m,h1,h2,_⟩:=JM p l;rw[h2,dR];omega
theorem FewS.at_ {f:File}(h:FewS f)(day:Int):FewS (jm f day):=
 ⟨lG (abH _ _) h.1,lG (sU _ _) h.2,lG (abH _ _) h.3,lG (sU _ _) h.4⟩
def iw (c:Case):Case:={c with file:=jm c.file c.day}
@[simp] theorem at3 (x:File)(a0 a1 a2 a3 a4 a5 a6 a7 a8 a9 rj rk rl rn rp vc vd ve vf:D)(s h d u y:Int):jP 24 (D.agg (cl [a0,a1,a2,a3,a4,a5,a6,a7,a8,a9,rj,rk,rl,rn,rp,vc,vd,ve,vf,.int s,.int h,.int d,.int u,.int y] 0 [.int x.bill.drawer,.int x.bill.drawee,.int x.bill.payee,.int x.bill.sum,.int x.bill.currency,.int x.bill.tenor.kind,.int x.bill.tenor.n,.int x.bill.tenor.unit,.int x.bill.day,.int x.bill.city,.int x.bill.pay,.int x.bill.need,.int x.bill.rate,.int x.bill.flags,.int x.bill.parts,signs x.signs,alters x.alters,acts x.acts,facts x.facts]))=fo ⟨x,s,h,d,u,y⟩:=_root_.id rfl
theorem acJ (r:Realm)(c:Case)(hf:FewS c.file):ao T 100 [ba r,fo c] (.tup [fo (iw c),cells (kg r (iw c))]):=by
 refine .of_tree rfl (lA 53 (by kernel_rfl)) aoQ ?_;simp[QS];have h1:=hf.1;have h2:=hf.2;have h3:=hf.3;have h4:=hf.4;refine⟨_,aaJ c.file c.day (by omega) (by omega) (by omega) (by omega),?_⟩;have Hd:=hf.at_ c.day;have h5:=Hd.4;have h6:=Hd.2;simp;exact⟨anK r (iw c) (by show(jm c.file c.day).facts.length≤_;omega) (by show(jm c.file c.day).alters.length≤_;omega),(congrArg (jP 24) (amt (iw c) _ _ _ _ _ _ _ _ _ _ _ _ _ _ _ _ _ _ _ _ _ _ _ _)).trans (acy (iw c))⟩
theorem aq2 {r:Realm}{c:Case}(h:kg r c≠[]):0≤c.sign∧c.sign<c.file.signs.length:=by
 unfold kg at h;split at h
 ·rename_i hh;have h1:=hh.1;unfold tg at h1;simp[aD] at h1;omega
 ·exact absurd rfl h
theorem W2 (r:Realm)(ns:AP r)(q:Int)(l:List Int)(hl:l.length≤100000)(yX:∀b:Int,0≤b→b<r.orders.length→lN r b q l=true):∀(n:Nat) (p:List Int),p≠[]→(∀x,x∈p→0≤x∧x<(r.orders.length:Int))→
 (kI r q l n p).1≠[]∧∀x,x∈(kI r q l n p).1→0≤x∧x<(r.orders.length:Int)
 |0,p,aB,hp=>⟨aB,hp⟩
 |n+1,p,aB,hp=>by
  have af:p.length-1<p.length:=by have:=J1.mpr aB;omega
  have kD:dh p=p[p.length-1]:=by simp[dh,af]
  have vN:=hp _ (dA af);rw[←kD] at vN;obtain⟨_,ht⟩:=Tv r ns (dh p) q l hl (yX _ vN.1 vN.2)
  have aS:∀x,x∈p++[(fT r (dh p) q l).1]→0≤x∧x<(r.orders.length:Int):=fun x hx=>by
   rcases dB.mp hx with h|h
   ·exact hp x h
   ·simp at h;subst h;exact ht
  rw[Nw];split
  ·exact⟨aB,hp⟩
  split
  ·exact⟨by simp,aS⟩
  split
  ·exact⟨by simp,aS⟩
  ·exact W2 r ns q l hl yX n _ (by simp) aS
theorem W0 {r:Realm}(hr:Right r){a q:Int}{l:List Int}(hl:l.length≤100000)(h:(iW r a q l).2=0):(iW r a q l).1≠[]∧0≤dh (iW r a q l).1∧dh (iW r a q l).1<r.orders.length:=by
 unfold iW at h ⊢;split at h
 ·rename_i hh;rw[if_pos hh];obtain⟨ha,VZ,hx,yX⟩:=LD hh.1;obtain⟨h1,h2⟩:=W2 r hr.by_ q l hl yX r.orders.length [a] (by simp) (fun x hx=>by simp at hx;subst hx;exact ha);refine⟨h1,?_⟩;have af:(kI r q l r.orders.length [a]).1.length-1<(kI r q l r.orders.length [a]).1.length:=by have:=J1.mpr h1;omega
  have kD:dh (kI r q l r.orders.length [a]).1=(kI r q l r.orders.length [a]).1[(kI r q l r.orders.length [a]).1.length-1]:=by simp[dh,af]
  rw[kD];exact h2 _ (dA af)
 ·cases h
theorem W3 (r:Realm)(q:Int)(l:List Int):∀(n:Nat) (p:List Int),(kI r q l n p).1.length≤p.length+n
 |0,p=>by simp[kI]
 |n+1,p=>by
  rw[Nw];split
  ·simp
  split
  ·simp
  split
  ·simp
  ·have:=W3 r q l n (p++[(fT r (dh p) q l).1]);simp at this;omega
theorem ajC (r:Realm)(a q:Int)(l:List Int):(iW r a q l).1.length≤1+r.orders.length:=by
 unfold iW;split
 ·exact W3 r q l _ [a]
 ·simp
@[simp] theorem axU (a b c d e x:D):cl [a,b,c,d,e] 2 [x]=[a,b,x,d,e]:=_root_.id rfl
@[simp] theorem axV (a b c d e x:D):cl [a,b,c,d,e] 3 [x]=[a,b,c,x,e]:=_root_.id rfl
@[simp] theorem axW (a b c d e x:D):cl [a,b,c,d,e] 4 [x]=[a,b,c,d,x]:=_root_.id rfl
def NS:Said:=⟨ed,-1,[],1⟩
def iJ (r:Realm)(ar q:Int)(c:Case):Said×List Cell:=
 if kg r (iw c)=[] then(NS,[]) else if(lu q).2=false then(NS,[]) else if j7 r ar (iw c)=[] then(NS,[]) else
    (⟨ed,if(iW r ar q (j7 r ar (iw c))).2=0 then dh (iW r ar q (j7 r ar (iw c))).1 else-1,(iW r ar q (j7 r ar (iw c))).1,(iW r ar q (j7 r ar (iw c))).2⟩,kg r (iw c))
theorem ZJ (r:Realm)(ar:Int)(c:Case):(j7 r ar c).length≤5:=by
 unfold j7;split
 ·simp
 split<;>simp[ma]
theorem acI (r:Realm)(hr:Right r)(ar q:Int)(c:Case)(hf:FewS c.file):ao T 83 [ba r,.int ar,.int q,fo c] (.tup [rH (iJ r ar q c).1,cells (iJ r ar q c).2]):=by
 refine .of_tree rfl (lA 52 (by kernel_rfl)) aoP ?_;simp[QR];refine⟨_,acJ r c hf,?_⟩;by_cases hv:kg r (iw c)=[]
 ·simp[hv,iJ];exact⟨rfl,rfl⟩
 simp[hv,iJ];refine⟨_,OH q,?_⟩;cases hq:(lu q).2
 ·simp[hq];exact⟨rfl,rfl⟩
 simp[hq];refine⟨_,amK r ar (iw c) (aq2 hv),?_⟩;by_cases hp:j7 r ar (iw c)=[]
 ·simp[hp];exact⟨rfl,rfl⟩
 have eX:=ZJ r ar (iw c);have aB:ints (j7 r ar (iw c))≠.list []:=fun e=>hp (by simpa [ints] using e);simp[hp];generalize j7 r ar (iw c)=l at*;refine⟨_,ab6 r hr.by_ hr.len ar q l (by omega),?_⟩;have hlen:=ajC r ar q l;have Ct:=W0 hr (a:=ar) (q:=q) (l:=l) (by omega);have MK:=hr.len;generalize iW r ar q l=L at*;obtain⟨path,err⟩:=L;simp only at*;by_cases he:err=0
 ·obtain⟨h1,h2⟩:=Ct he;have aiz:=J1.mpr h1;have Ni:IntKind.i64.wrap ((path.length:Int)-1)=(path.length:Int)-1:=bV (by omega);have Ms:((path.length:Int)-1).toNat=path.length-1:=by omega
  have af:path.length-1<path.length:=by omega
  have kD:dh path=path[path.length-1]:=by simp[dh,af]
  simp[he,Ni,Ms,af,←kD];exact⟨by omega,rfl⟩
 ·simp[he];rfl
def oy (r:Realm)(ar q:Int)(c:Case):Said:=
 if(iJ r ar q c).1.order=-1 then(iJ r ar q c).1
 else⟨(pW (nL r (iJ r ar q c).1.order) q (iJ r ar q c).2).1,(iJ r ar q c).1.order,(iJ r ar q c).1.path,(pW (nL r (iJ r ar q c).1.order) q (iJ r ar q c).2).2⟩
theorem acE {r:Realm}(hr:Right r)(ar q:Int)(c:Case):(iJ r ar q c).1.order=-1∨(0≤(iJ r ar q c).1.order∧(iJ r ar q c).1.order<r.orders.length):=by
 unfold iJ;split
 ·exact .inl rfl
 split
 ·exact .inl rfl
 split
 ·exact .inl rfl
 ·have eX:=ZJ r ar (iw c);have Ct:=W0 hr (a:=ar) (q:=q) (l:=j7 r ar (iw c)) (by omega);show(if _ then _ else _)=_∨_;split
  ·rename_i h;exact .inr (Ct h).2
  ·exact .inl rfl
theorem acF (r:Realm)(hr:Right r)(ar q:Int)(c:Case)(hf:FewS c.file):ao T 65 [ba r,.int ar,.int q,fo c] (rH (oy r ar q c)):=by
 refine .of_tree rfl (lA 51 (by kernel_rfl)) aoM ?_;simp[QO];refine⟨_,acI r hr ar q c hf,?_⟩;have ho:=acE hr ar q c;unfold oy;generalize iJ r ar q c=S at*;obtain⟨s,cs⟩:=S;simp only at*;by_cases h:s.order=-1
 ·obtain⟨⟨kn,n⟩,o,pth,e⟩:=s;simp only at h;subst h;simp;rfl
 ·have h1:0≤s.order∧s.order<r.orders.length:=by omega
  have h2:s.order.toNat<r.orders.length:=by omega
  have h3:nL r s.order=r.orders[s.order.toNat]:=by simp[nL,h2]
  obtain⟨aA,hlen⟩:=hr.ok _ (dA h2);simp[h,h1,h2,h3];refine⟨_,amo _ q cs aA (by omega),?_⟩;simp;rfl
def Fc (r:Realm)(ar q:Int)(f:File)(day:Int):Said:=oy r ar q ⟨{f with facts:=[]},0,-1,-1,-1,day⟩
theorem acG (r:Realm)(hr:Right r)(ar q:Int)(f:File)(day:Int)(hf:FewS f):ao T 35 [ba r,.int ar,.int q,aY f,.int day] (rH (Fc r ar q f day)):=by
 refine .of_tree rfl (lA 50 (by kernel_rfl)) aoN ?_;simp[QP];refine⟨rH (Fc r ar q f day),acF r hr ar q ⟨{f with facts:=[]},0,-1,-1,-1,day⟩ ⟨hf.1,hf.2,hf.3,by simp⟩,?_⟩;simp
 try rfl
def uj (s:Said):Int:=if s.err≠0∨s.cell.known=false then-1 else s.cell.n
theorem acH (s:Said):ao T 34 [rH s] (.int (uj s)):=by
 refine .of_tree rfl (lA 90 (by kernel_rfl)) aoO ?_;unfold uj;by_cases h1:s.err=0<;>cases h2:s.cell.known<;>simp[QQ,h1,h2]
end Rm
namespace Rm
open Go Go.Proofs Cx
def gZ (day:Int)(l:List Act)(es:List (D×D)):List (D×D):=l.foldl (fun es a=>if a.kind=7∧a.day≤day then cQ (.int a.at_) (.bool true) es else es) es
theorem aor (day:Int)(l:List Act){k:Nat}(hk:k<l.length):gZ day (l.take (k+1)) []=if l[k].kind=7∧l[k].day≤day then cQ (.int l[k].at_) (.bool true) (gZ day (l.take k) []) else gZ day (l.take k) []:=by
 unfold gZ;rw[m9 hk,JX];rfl
theorem ZN (k v:D):∀es:List (D×D),(cQ k v es).length≤es.length+1
 |[]=>by simp[cQ]
 |e::es=>by
  unfold cQ;split
  ·simp
  ·have:=ZN k v es;simp;omega
theorem abj (day:Int):∀(l:List Act) (es:List (D×D)),(gZ day l es).length≤es.length+l.length
 |[],es=>by simp[gZ]
 |a::l,es=>by
  have h:=abj day l (if a.kind=7∧a.day≤day then cQ (.int a.at_) (.bool true) es else es);have hp:=ZN (.int a.at_) (.bool true) es;show(gZ day l (if a.kind=7∧a.day≤day then cQ (.int a.at_) (.bool true) es else es)).length≤_;split at h
  ·rename_i hc;rw[if_pos hc];simp;omega
  ·rename_i hc;rw[if_neg hc];simp;omega
theorem abA (f:File)(day:Int)(hl:f.acts.length≤100000):ao T 33 [aY f,.int day] (.map (gZ day f.acts [])):=by
 refine .of_tree rfl (lA 94 (by kernel_rfl)) aqG ?_;simp[SI];refine aT.forRounds f.acts.length (fun k=>[.int k]) (fun k=>[.map (gZ day (f.acts.take k) [])]) ?_ (fun k hk=>?_) ?_
 ·simp[gZ]
 ·have hw:=br hk (by omega);have hs:=aor day f.acts hk;have hlen:=abj day (f.acts.take k) [];rw[hs];simp at hlen;generalize gZ day (f.acts.take k) []=es at*;by_cases hc:f.acts[k].kind=7∧f.acts[k].day≤day
  ·simp[Qk,Ep,hk,hw,hc];omega
  ·simp[Qk,Ep,hk,hw,hc]
 ·simp[Qk,Ep]
theorem ZO {k v:D}:∀{es:List (D×D)} {e:D×D},e∈cQ k v es→e.2=v∨e∈es
 |[],e,h=>by simp[cQ] at h;exact .inl (by rw[h])
 |x::es,e,h=>by
  unfold cQ at h;split at h
  ·rcases cD.mp h with rfl|h
   ·exact .inl rfl
   ·exact .inr (by simp[h])
  ·rcases cD.mp h with rfl|h
   ·exact .inr (by simp)
   ·rcases ZO h with h|h
    ·exact .inl h
    ·exact .inr (by simp[h])
theorem abk (day:Int):∀(l:List Act) (es:List (D×D)),(∀e,e∈es→e.2=.bool true)→∀e,e∈gZ day l es→e.2=.bool true
 |[],es,h,e,he=>h e he
 |a::l,es,h,e,he=>by
  refine abk day l (if a.kind=7∧a.day≤day then cQ (.int a.at_) (.bool true) es else es) (fun x hx=>?_) e he;split at hx
  ·rcases ZO hx with h'|h'
   ·exact h'
   ·exact h x h'
  ·exact h x hx
theorem Xj {k d:D}:∀{es:List (D×D)},dI k es=some d→∃e,e∈es∧e.2=d
 |x::es,h=>by
  unfold dI at h;split at h
  ·exact⟨x,by simp,by simpa using h⟩
  ·obtain⟨e,h1,h2⟩:=Xj h;exact⟨e,by simp[h1],h2⟩
theorem aop (day:Int)(l:List Act)(k:D):(dI k (gZ day l [])).getD (.bool false)=.bool ((dI k (gZ day l [])).getD (.bool false)).b:=by
 cases h:dI k (gZ day l []) with
 |none=>rfl
 |some d=>
  obtain⟨e,h1,h2⟩:=Xj h;have:=abk day l [] (fun e h=>by cases h) e h1;rw[h2] at this;rw[this];rfl
def Jz (f:File)(sign day:Int):Bool:=aD sign f.signs.length&&((dI (.int sign) (gZ day f.acts [])).getD (.bool false)).b
theorem aoJ (f:File)(sign day:Int)(hl:f.acts.length≤100000):ao T 14 [aY f,.int sign,.int day] (.bool (Jz f sign day)):=by
 refine .of_tree rfl (lA 97 (by kernel_rfl)) aqB ?_;by_cases h1:0≤sign<;>by_cases h2:sign<f.signs.length<;>simp[SC,h1,h2,Jz,aD];refine⟨_,abA f day hl,?_⟩;exact aop day f.acts (.int sign)
end Rm
namespace Rm
open Go Go.Proofs Cx
theorem acg (r:Realm)(fr to:Int)(hl:r.usances.length≤100000):∃n e:Int,ao T 88 [ba r,.int fr,.int to] (.tup [.int n,.int e])∧(e=0→∃u,u∈r.usances∧n=u.days)∧(e=0↔∃u,u∈r.usances∧u.fr=fr∧u.to=to):=by
 let p:Usance→Bool:=fun u=>decide (u.fr=fr)&&decide (u.to=to)
 refine⟨match r.usances.find? p with|some u=>u.days|none=>0,match r.usances.find? p with|some u=>0|none=>4,?_,?_⟩
 ·refine .of_tree rfl (lA 26 (by kernel_rfl)) apU ?_;simp[RU];refine aT.scan r.usances.length (fun k=>p (r.usances.getD k default)=false) (fun k=>[.int 0,.int 0,.int k]) (fun _=>[]) ?_ (fun k hk hj aA=>?_) (fun k hk hj aA=>?_) (fun hj=>?_)
  ·simp
  ·have hw:=br hk (by omega);have hn:¬(r.usances[k].fr=fr∧r.usances[k].to=to):=by simpa [p,hk] using aA
   simp[PV,D3,hk,hw,hn]
  ·have kQ:=GG hk (by simpa [hk] using aA) (fun j cE=>by have:=hj j cE;simpa [show j<r.usances.length by omega] using this);have hc:r.usances[k].fr=fr∧r.usances[k].to=to:=by simpa [p,hk] using aA
   rw[kQ];simp[PV,D3,hk,hc]
  ·have kQ:=LB (l:=r.usances) (p:=p) (fun j cE=>by have:=hj j cE;simpa [cE] using this);rw[kQ];simp[PV,D3]
 ·cases h:r.usances.find? p with
  |none=>
   refine⟨fun h=>(by cases h),fun h=>(by cases h),fun⟨u,hu,h1,h2⟩=>?_⟩;have:=xl.1 h u hu;simp[p,h1,h2] at this
  |some u=>
   have h2:u.fr=fr∧u.to=to:=by simpa [p] using JW h
   exact⟨fun _=>⟨u,xo h,rfl⟩,fun _=>⟨u,xo h,h2⟩,fun _=>rfl⟩
end Rm
namespace Rm
open Go Go.Proofs Cx
end Rm
namespace Rm
open Go Go.Proofs Cx
end Rm
namespace Rm
open Go Go.Proofs Cx
end Rm
namespace Rm
open Go Go.Proofs Cx
end Rm
namespace Rm
open Go Go.Proofs Cx
def Tt (r:Realm):Prop:=r.halts.length≤100000∧∀h,h∈r.halts→0≤h.fr∧h.to≤100000
end Rm
namespace Rm
open Go Go.Proofs Cx
structure RightD (r:Realm):Prop where
 small:Small r
 halts:Tt r
theorem ao.ex_of_tree {tab:Nat→Option PC}{ext:Nat→Option (aP→List D→Option D)}{f:Nat}{pc:PC}{t:PT}{ds:List D}{P:D→Prop}(hx:ext f=none)(ht:tab f=some pc)(he:tree pc=t)
 (h:aI (dM tab ext) t (kr ds) (fun x=>∃d,x=.ret d∧P d)):∃d,ao (dM tab ext) f ds d∧P d:=by
 subst he;obtain⟨x,⟨d,rfl,hd⟩,n0,hn⟩:=abG (IA ⟨fun _ _ _ h=>(by obtain⟨_,h,_⟩:=h;cases h),fun _ _ _ _ _ _ h=>(by obtain⟨_,h,_⟩:=h;cases h),fun _ h=>h⟩ h);exact⟨d,.of_pc hx ht ⟨.ret d,rfl,n0,hn⟩,hd⟩
@[simp] theorem axn (x:File)(a0 a1 a2 a3 a4 a5 a6 a7 a8 a9 rj rk rl rn rp vc vd ve vf:D):(cl [a0,a1,a2,a3,a4,a5,a6,a7,a8,a9,rj,rk,rl,rn,rp,vc,vd,ve,vf] 0 [.int x.bill.drawer,.int x.bill.drawee,.int x.bill.payee,.int x.bill.sum,.int x.bill.currency,.int x.bill.tenor.kind,.int x.bill.tenor.n,.int x.bill.tenor.unit,.int x.bill.day,.int x.bill.city,.int x.bill.pay,.int x.bill.need,.int x.bill.rate,.int x.bill.flags,.int x.bill.parts,signs x.signs,alters x.alters,acts x.acts,facts x.facts])[15]?.getD D.none=signs x.signs:=_root_.id rfl
end Rm
namespace Rm
open Go Go.Proofs Cx
end Rm
namespace Rm
open Go Go.Proofs Cx
theorem ae7 {n:Nat}{f:Nat→Int}(h:fq n f=0)(k:Nat)(hk:k<n):f k=0:=UY.1 h k hk
theorem adr {r:Realm}(h:lK r=0)(k:Nat)(hk:k<r.orders.length):pw r.orders[k]=true:=by
 unfold lK at h;rw[Qy] at h;have h1:=h (eF (eC r) 20 (mU r)) (by simp);unfold eF at h1;split at h1
 ·cases h1
 have h2:=ae7 h1 k (by simpa [eC] using hk);have h3:=(BQ h2).2;unfold mU at h3;simpa [hk] using h3
theorem agm {r:Realm}(hs:Small r)(h:lK r=0):AP r:=by
 intro o ho;obtain⟨k,hk,rfl⟩:=lE ho;have h1:=adr h k hk;obtain⟨hc,_⟩:=hs.order _ ho;refine⟨by omega,fun ch lP=>?_⟩;unfold pw at h1;simp only[ak] at h1;obtain⟨j,hj,rfl⟩:=lE lP;have h2:=xr.1 h1.1 j hj;simpa [aD,hj] using h2
theorem agn {r:Realm}(hs:Small r)(h:lK r=0):Tt r:=by
 refine⟨by have:=hs.halts;omega,fun x hx=>?_⟩;obtain⟨k,hk,rfl⟩:=lE hx;unfold lK at h;rw[Qy] at h;have h1:=h (nV r) (by simp);unfold nV at h1;split at h1
 ·cases h1
 split at h1
 ·cases h1
 split at h1
 ·cases h1
 split at h1
 ·rename_i aO;have h2:=xr.1 aO k hk;simp[tD,wi,aD,hk] at h2;omega
 ·cases h1
structure Good (r:Realm) (f:File):Prop where
 right:Right r
 rightD:RightD r
 few:FewS f
theorem ago {r:Realm}{f:File}(hr:r.OK)(h:GM r f=true):Good r f:=by
 unfold GM rK at h;simp only[ak,decide_eq_true_eq] at h;obtain⟨⟨⟨h1,h2⟩,h3⟩,h4⟩:=h;have hs:=Lz hr h1;refine⟨⟨agm hs h4,by have:=hs.orders;omega,fun o ho=>?_⟩,⟨hs,agn hs h4⟩,?_⟩
 ·have:=hs.order o ho;refine⟨?_,by omega⟩;exact hr.2.2.2.2.1.2 o ho
 ·simp[BN] at h2;exact⟨by omega,by omega,by omega,by omega⟩
end Rm
namespace Rm
open Go Go.Proofs Cx
end Rm
namespace Rm
open Go Go.Proofs Cx
end Rm
namespace Rm
open Go Go.Proofs Cx
@[simp] theorem axd:D.none.cells=[D.none]:=_root_.id rfl
end Rm
namespace Rm
open Go Go.Proofs Cx
end Rm
