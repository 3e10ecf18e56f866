/-
  Shared texts of this claim.
-/
import Derived.Test.YtepfoekldooaeaaGreatDoorKAO
import Derived.Lib.Mul64
set_option linter.unusedSimpArgs false
set_option linter.unusedVariables false
namespace Rm
open Go Go.Proofs Cx
def fo (f:Tm→Int):List Tm→Int→Int
 |[],n=>n
 |a::l,n=>if 60<n+f a then n+f a else fo f l (n+f a)
def cI:Nat→Tm→Int
 |0,_=>61
 |L+1,t=>fo (cI L) t.args 1
def dz (f:Tm→Int)(l:List Tm):Int:=(l.map f).sum
theorem Ik {f:Tm→Int}{l:List Tm}{k:Nat}(h:k<l.length):dz f (l.take (k+1))=dz f (l.take k)+f l[k]:=by
 unfold dz;rw[yT f h,List.sum_append];simp
theorem abm {f:Tm→Int}:∀{l:List Tm} {n:Int} {k:Nat},(hk:k<l.length)→(∀j,j<k→n+dz f (l.take (j+1))≤60)→60<n+dz f (l.take (k+1))→fo f l n=n+dz f (l.take (k+1))
 |a::l,n,0,hk,_,h=>by
  simp[dz] at h ⊢;unfold fo;rw[if_pos (by omega)]
 |a::l,n,k+1,hk,hj,h=>by
  have h0:=hj 0 (by omega);simp[dz] at h0;unfold fo;rw[if_neg (by omega)];have e:∀j,n+dz f ((a::l).take (j+1+1))=n+f a+dz f (l.take (j+1)):=by intro j;simp[dz];omega
  rw[abm (l:=l) (k:=k) (by simpa using hk) (fun j hjk=>by have:=hj (j+1) (by omega);rw[e] at this;exact this) (by rw[←e];exact h),e]
theorem abo {f:Tm→Int}:∀{l:List Tm} {n:Int},(∀j,j<l.length→n+dz f (l.take (j+1))≤60)→fo f l n=n+dz f l
 |[],n,_=>by simp[fo,dz]
 |a::l,n,hj=>by
  have h0:=hj 0 (by simp);simp[dz] at h0;unfold fo;rw[if_neg (by omega)];have e:∀j,n+dz f ((a::l).take (j+1+1))=n+f a+dz f (l.take (j+1)):=by intro j;simp[dz];omega
  rw[abo (l:=l) (fun j fC=>by have:=hj (j+1) (by simpa using fC);rw[e] at this;exact this)];simp[dz];omega
theorem abn {f:Tm→Int}(hf:∀a,1≤f a):∀{l:List Tm} {n:Int},n≤fo f l n
 |[],n=>by simp[fo]
 |a::l,n=>by
  unfold fo;have:=hf a;split
  ·omega
  ·have:=abn hf (l:=l) (n:=n+f a);omega
theorem vj:∀(L:Nat) (t:Tm),1≤cI L t
 |0,t=>by simp[cI]
 |L+1,t=>abn (vj L)
theorem abp {f:Tm→Int}{B:Int}(hf:∀a,f a≤B)(hB:0≤B):∀{l:List Tm} {n:Int},n≤60→fo f l n≤60+B
 |[],n,h=>by simp[fo];omega
 |a::l,n,h=>by
  unfold fo;have:=hf a;split
  ·omega
  ·exact abp hf hB (by omega)
theorem abr:∀(L:Nat) (t:Tm),cI L t≤61+60*L
 |0,t=>by simp[cI]
 |L+1,t=>by
  have:=abp (f:=cI L) (fun a=>abr L a) (by omega) (l:=t.args) (n:=1) (by omega);show fo _ _ _≤_;omega
theorem abq {f:Tm→Int}(hf:∀a,1≤f a):∀{l:List Tm} {n:Int},fo f l n≤60→(n:Int)+l.length≤60∧∀a,a∈l→f a≤60-n
 |[],n,h=>by simp[fo] at h ⊢;exact h
 |a::l,n,h=>by
  unfold fo at h;have:=hf a;split at h
  ·omega
  ·obtain⟨h1,h2⟩:=abq hf h;refine⟨by simp;omega,fun b hb=>?_⟩;rcases List.mem_cons.1 hb with rfl|hb
   ·omega
   ·have:=h2 b hb;omega
theorem QQ {L:Nat}{t:Tm}(h:cI (L+1) t≤60):t.args.length≤59∧∀a,a∈t.args→cI L a≤60:=by
 obtain⟨h1,h2⟩:=abq (vj L) h;exact⟨by omega,fun a ha=>by have:=h2 a ha;omega⟩
theorem Ul:∀(L:Nat) (t:Tm) (lv:Int),t.OK→L≤8→lv=9-(L:Int)→ao T adu [dx t,.int lv] (.int (cI L t))
 |0,t,lv,ht,hL,Pt=>by
  refine .of_tree rfl Xu ah0 ?_;subst Pt;simp[M1,cI]
 |L+1,t,lv,ht,hL,Pt=>by
  refine .of_tree rfl Xu ah0 ?_;have hl:=ht.len;have h8:¬(8<lv):=by omega
  have HZ:IntKind.i64.wrap (lv+1)=lv+1:=bN (by omega);simp[M1,h8];refine .scan t.args.length (fun k=>1+dz (cI L) (t.args.take (k+1))≤60) (fun k=>[.int (1+dz (cI L) (t.args.take k)),.int k]) (fun _=>[]) ?_ (fun k hk hj ho=>?_) (fun k hk hj ho=>?_) (fun hj=>?_)
  ·simp[dz]
  all_goals try rw[Ik hk] at ho
  ·have hw:IntKind.i64.wrap ((k:Int)+1)=(k:Int)+1:=bN (by omega);have gR:=Ul L t.args[k] (lv+1) (ht.arg (List.getElem_mem hk)) (by omega) (by omega);rw[Ik hk];have hs:0≤dz (cI L) (t.args.take k):=by
    unfold dz;have:∀(l:List Tm),0≤(l.map (cI L)).sum:=by
     intro l
     induction l with
     |nil=>simp
     |cons a l ih=>have:=vj L a;simp;omega
    exact this _
   have jc:=vj L t.args[k];generalize dz (cI L) (t.args.take k)=m at*;generalize cI L t.args[k]=v at*;have q9:IntKind.i64.wrap (1+m+v)=1+m+v:=bN (by omega);have dJ:¬60<1+m+v:=by omega
   simp[TL,DM,hk,HZ];refine⟨_,gR,?_⟩;simp[q9,dJ,hw];omega
  ·have gR:=Ul L t.args[k] (lv+1) (ht.arg (List.getElem_mem hk)) (by omega) (by omega);have hf:cI (L+1) t=1+dz (cI L) (t.args.take (k+1)):=abm hk hj (by rw[Ik hk];omega);rw[hf,Ik hk];have hs:0≤dz (cI L) (t.args.take k)∧1+dz (cI L) (t.args.take k)≤60:=by
    constructor
    ·unfold dz;have:∀(l:List Tm),0≤(l.map (cI L)).sum:=by
       intro l
       induction l with
       |nil=>simp
       |cons a l ih=>have:=vj L a;simp;omega
     exact this _
    ·cases k with
     |zero=>simp[dz]
     |succ k=>exact hj k (by omega)
   have jc:=vj L t.args[k];have dh:=abr L t.args[k];generalize dz (cI L) (t.args.take k)=m at*;generalize cI L t.args[k]=v at*;have q9:IntKind.i64.wrap (1+m+v)=1+m+v:=bN (by omega);have dJ:60<1+m+v:=by omega
   simp[TL,DM,hk,HZ];refine⟨_,gR,?_⟩;simp[q9,dJ];omega
  ·have hf:cI (L+1) t=1+dz (cI L) t.args:=abo hj;rw[hf];simp[TL,DM]
def mC (ws ts:List Int):Nat→Int
 |0=>-1
 |k+1=>if ws.getD k 0=-1∧mC ws ts k=-1 then ts.getD k 0 else mC ws ts k
def nj (ws ts:List Int)(k:Nat):Bool:=if ws.getD k 0=-1 then decide (mC ws ts k=-1)||decide (ts.getD k 0=mC ws ts k) else decide (ts.getD k 0=ws.getD k 0)
def vl (t:Tm)(ks:List Int):Int×Int:=
 if t.op<0∨13<t.op then(0,1) else if t.op=0∨t.op=1∨t.op=2 then Co t else
 if ks.length≠(eI t.op).1.length∨t.n≠0 then(0,2) else
 if dU (eI t.op).1.length (nj (eI t.op).1 ks)=false then(0,11) else if(eI t.op).2=-1 then(mC (eI t.op).1 ks (eI t.op).1.length,0) else((eI t.op).2,0)
def bR:Nat→Tm→Int×Int
 |0,_=>(0,0)
 |L+1,t=>if ff t.args.length (fun k=>(bR L (t.args.getD k default)).2)≠0 then(0,ff t.args.length (fun k=>(bR L (t.args.getD k default)).2)) else vl t (t.args.map fun a=>(bR L a).1)
theorem Og (L:Nat)(t:Tm):bR (L+1) t=if ff t.args.length (fun k=>(bR L (t.args.getD k default)).2)≠0 then(0,ff t.args.length (fun k=>(bR L (t.args.getD k default)).2)) else vl t (t.args.map fun a=>(bR L a).1):=rfl
theorem Ud {α:Type}(A:List α)(z:α){k n:Nat}(hA:A.length=n)(hk:k<n):(A.take k++List.replicate (n-k) z).set k A[k]=A.take (k+1)++List.replicate (n-(k+1)) z:=by
 have h1:(A.take k).length=k:=by rw[List.length_take];omega
 rw[List.set_append_right _ _ (by omega),h1,Nat.sub_self];have:n-k=(n-(k+1))+1:=by omega
 rw[this,List.replicate_succ,List.set_cons_zero,List.take_succ_eq_append_getElem (by omega),List.append_assoc];rfl
theorem aCW (op:Int):(eI op).1.length≤3:=by
 unfold eI;repeat' split
 all_goals simp
theorem Uk:∀(L:Nat) (t:Tm),t.OK→cI L t≤60→ao T adp [dx t] (.tup [.int (bR L t).1,.int (bR L t).2])
 |0,t,ht,hm=>by simp[cI] at hm
 |L+1,t,ht,hm=>by
  refine .of_tree rfl alf aF1 ?_;obtain⟨hl,hp⟩:=QQ hm;simp[Wn];refine⟨by omega,?_⟩;refine nH t.args.length (fun k=>(bR L (t.args.getD k default)).2) (fun k=>[.int 0,.int 0,.int k]) (fun k=>[ints ((t.args.map fun a=>(bR L a).1).take k++List.replicate (t.args.length-k) 0)]) ?_ (fun k hk ho=>?_) (fun k hk ho hb=>?_) (fun hj=>?_)
  ·simp[ints]
  ·have hw:=bj hk (by omega);have cP:=List.getElem_mem hk;have gR:=Uk L t.args[k] (ht.arg cP) (hp _ cP);have hs:=Ud (t.args.map fun a=>(bR L a).1) 0 (n:=t.args.length) (by simp) hk;rw[←hs];have hlen:((t.args.map fun a=>(bR L a).1).take k++List.replicate (t.args.length-k) (0:Int)).length=t.args.length:=by simp;omega
   have hgk:(t.args.map fun a=>(bR L a).1)[k]'(by simpa using hk)=(bR L t.args[k]).1:=by simp
   rw[hgk];generalize (t.args.map fun a=>(bR L a).1).take k++List.replicate (t.args.length-k) (0:Int)=A at*;simp[hk] at ho;rw[ho] at gR;generalize (bR L t.args[k]).1=kd at*;simp[TJ,DK,hk];refine⟨_,gR,?_⟩;simp[hlen,hk,hw,ints]
  ·have cP:=List.getElem_mem hk;have gR:=Uk L t.args[k] (ht.arg cP) (hp _ cP);have hf:bR (L+1) t=(0,(bR L (t.args.getD k default)).2):=by
    rw[Og,hb,if_pos ho]
   rw[hf];simp[hk] at ho ⊢;simp[TJ,DK,hk];refine⟨_,gR,?_⟩;simp[ho]
  ·have hf:bR (L+1) t=vl t (t.args.map fun a=>(bR L a).1):=by
    rw[Og,hj];simp
   rw[hf]
   have e0:(t.args.map fun a=>(bR L a).1).take t.args.length++List.replicate (t.args.length-t.args.length) 0=t.args.map fun a=>(bR L a).1:=by
    rw[Nat.sub_self,List.take_of_length_le (by simp)];simp
   rw[e0];have ZQ:(t.args.map fun a=>(bR L a).1).length=t.args.length:=by simp
   generalize (t.args.map fun a=>(bR L a).1)=ks at*;simp[TJ,DK];unfold vl;by_cases h1:t.op<0
   ·simp[h1]
   by_cases h2:13<t.op
   ·simp[h1,h2]
   simp[h1,h2];by_cases h3:t.op=0∨t.op=1∨t.op=2
   ·have eO:(t.op=0∨t.op=1)∨t.op=2:=by omega
    simp[h3,eO];refine⟨_,aDj t,?_⟩;simp
   have eO:¬((t.op=0∨t.op=1)∨t.op=2):=by omega
   simp[h3,eO];refine⟨_,aDl _,?_⟩;have hsl:=aCW t.op;generalize eI t.op=sh at*;simp;by_cases h4:ks.length=sh.1.length
   case neg=>
    have oh:¬((ks.length:Int)=sh.1.length):=by omega
    have Hc:¬t.args.length=sh.1.length:=by omega
    simp[h4,oh,Hc]
   have oh:(ks.length:Int)=sh.1.length:=by omega
   have Hc:t.args.length=sh.1.length:=by omega
   by_cases h5:t.n=0
   case neg=>simp[h4,oh,Hc,h5]
   simp[h4,oh,Hc,h5];refine fJ sh.1.length (nj sh.1 ks) (fun k=>[.int 0,.int 0,.int (mC sh.1 ks k),.int k]) (fun _=>[]) ?_ (fun k hk ho=>?_) (fun k hk ho hb=>?_) (fun hj=>?_)
   ·simp[mC]
   ·have hw:=bj hk (by omega);have cn:k<ks.length:=by omega
    simp only[mC];unfold nj at ho;simp only[List.getD_eq_getElem?_getD,List.getElem?_eq_getElem hk,List.getElem?_eq_getElem cn,Option.getD_some] at ho ⊢;generalize mC sh.1 ks k=c at*;by_cases a1:sh.1[k]=-1
    ·by_cases a2:c=-1
     ·simp[yJ,tw,hk,cn,hw,ints,a1,a2]
     ·simp[a1,a2] at ho;simp[yJ,tw,hk,cn,hw,ints,a1,a2,ho]
    ·simp[a1] at ho;simp[yJ,tw,hk,cn,hw,ints,a1,ho]
   ·rw[hb];have cn:k<ks.length:=by omega
    unfold nj at ho;simp only[List.getD_eq_getElem?_getD,List.getElem?_eq_getElem hk,List.getElem?_eq_getElem cn,Option.getD_some] at ho;generalize mC sh.1 ks k=c at*;by_cases a1:sh.1[k]=-1
    ·by_cases a2:c=-1
     ·simp[a1,a2] at ho
     ·simp[a1,a2] at ho;simp[yJ,tw,hk,cn,ints,a1,a2,ho]
    ·simp[a1] at ho;simp[yJ,tw,hk,cn,ints,a1,ho]
   ·rw[hj];simp[yJ,tw];by_cases a1:sh.2=-1<;>simp[a1]
def l7 (t:Tm):Int×Int:=if 60<cI 8 t then(0,6) else bR 8 t
theorem ahN (t:Tm)(ht:t.OK):ao T adl [dx t] (.tup [.int (l7 t).1,.int (l7 t).2]):=by
 refine .of_tree rfl alb aFX ?_;simp[Wj,l7];refine⟨_,Ul 8 t 1 ht (by omega) (by omega),?_⟩;by_cases h:60<cI 8 t
 ·simp[h]
 simp[h];refine⟨_,Uk 8 t ht (by omega),?_⟩;simp
end Rm
namespace Rm
open Go Go.Proofs Cx
abbrev u (n:Nat):D:=.v (.int .u64 n)
theorem aie (n:Int):IntKind.u64.wrap n=n%18446744073709551616:=rfl
theorem Ec {n:Int}(h:0≤n∧n<18446744073709551616):IntKind.u64.wrap n=n:=by
 rw[aie];omega
theorem wj {n:Nat}(h:n<18446744073709551616):IntKind.u64.wrap (n:Int)=n:=Ec (by omega)
theorem aCX (a s:Nat)(h:s≤64):dc .shr .u64 a s=((a/2^s:Nat):Int):=by
 show Int.fdiv (a:Int) (2^(min (s:Int).toNat 64))=_;have:min (s:Int).toNat 64=s:=by simp;omega
 rw[this,Int.fdiv_eq_ediv_of_nonneg _ (Int.le_of_lt (Int.pow_pos (by decide)))];rw[Int.natCast_ediv,Int.natCast_pow];rfl
theorem Nm (a:Nat)(h:a<18446744073709551616):dc .and .u64 a 4294967295=((a%4294967296:Nat):Int):=by
 show IntKind.u64.wrap ((BitVec.ofInt 64 (a:Int)&&& BitVec.ofInt 64 4294967295).toNat:Nat)=_;have e:(BitVec.ofInt 64 (a:Int)&&& BitVec.ofInt 64 4294967295).toNat=a%4294967296:=by
  rw[BitVec.toNat_and];have e1:(BitVec.ofInt 64 (a:Int)).toNat=a:=by simp[BitVec.ofInt,BitVec.toNat_ofNat];omega
  have e2:(BitVec.ofInt 64 4294967295).toNat=2^32-1:=by decide
  rw[e1,e2,Nat.and_two_pow_sub_one_eq_mod]
 rw[e,wj (by omega)]
@[simp] theorem yQ (a:Nat):dc .shr .u64 a 32=((a/4294967296:Nat):Int):=aCX a 32 (by decide)
set_option maxHeartbeats 2000000 in
theorem azv (a b:Nat)(ha:a<18446744073709551616)(hb:b<18446744073709551616):ao T abH [u a,u b] (.tup [u (a*b/18446744073709551616),u (a*b%18446744073709551616)]):=by
 refine .of_tree rfl ajl aDQ ?_;obtain⟨h1,h2,h3,h4⟩:=Go.Lib.mul64_hi a b ha hb;have elo:IntKind.u64.wrap ((a:Int)*(b:Int))=((a*b%18446744073709551616:Nat):Int):=by rw[aie,Int.natCast_emod,Int.natCast_mul];rfl
 have Ov:dc .shr .u64 (a:Int) 32=((a/4294967296:Nat):Int):=yQ a;have ea0:dc .and .u64 (a:Int) 4294967295=((a%4294967296:Nat):Int):=Nm a ha;have Ow:dc .shr .u64 (b:Int) 32=((b/4294967296:Nat):Int):=yQ b;have eb0:dc .and .u64 (b:Int) 4294967295=((b%4294967296:Nat):Int):=Nm b hb;have aMk:=Go.Lib.half_mul_le (a:=a/4294967296) (b:=b/4294967296) (by omega) (by omega);have aMj:=Go.Lib.half_mul_le (a:=a/4294967296) (b:=b%4294967296) (by omega) (by omega);have aMi:=Go.Lib.half_mul_le (a:=a%4294967296) (b:=b/4294967296) (by omega) (by omega);have aMh:=Go.Lib.half_mul_le (a:=a%4294967296) (b:=b%4294967296) (by omega) (by omega);have Po:a*b/18446744073709551616<18446744073709551616:=by
  have:a*b<18446744073709551616*18446744073709551616:=Nat.mul_lt_mul'' ha hb;exact Nat.div_lt_of_lt_mul this
 simp only[Uz];generalize a/4294967296=a1 at*;generalize a%4294967296=a0 at*;generalize b/4294967296=b1 at*;generalize b%4294967296=b0 at*;have p11:IntKind.u64.wrap ((a1:Int)*(b1:Int))=((a1*b1:Nat):Int):=by rw[←Int.natCast_mul];exact wj (by omega)
 have p10:IntKind.u64.wrap ((a1:Int)*(b0:Int))=((a1*b0:Nat):Int):=by rw[←Int.natCast_mul];exact wj (by omega)
 have p01:IntKind.u64.wrap ((a0:Int)*(b1:Int))=((a0*b1:Nat):Int):=by rw[←Int.natCast_mul];exact wj (by omega)
 have p00:IntKind.u64.wrap ((a0:Int)*(b0:Int))=((a0*b0:Nat):Int):=by rw[←Int.natCast_mul];exact wj (by omega)
 rw[←h4] at Po ⊢;generalize a1*b1=P at*;generalize a1*b0=Q at*;generalize a0*b1=R at*;generalize a0*b0=S at*;have s1:dc .shr .u64 (S:Int) 32=((S/4294967296:Nat):Int):=yQ S;have s2:IntKind.u64.wrap ((Q:Int)+((S/4294967296:Nat):Int))=((Q+S/4294967296:Nat):Int):=by rw[Ec (by omega)];omega
 generalize S/4294967296=S1 at*;generalize hT:Q+S1=TT at*;have s3:dc .shr .u64 (TT:Int) 32=((TT/4294967296:Nat):Int):=yQ TT;have s4:dc .and .u64 (TT:Int) 4294967295=((TT%4294967296:Nat):Int):=Nm TT (by omega);have s5:IntKind.u64.wrap (((TT%4294967296:Nat):Int)+(R:Int))=((TT%4294967296+R:Nat):Int):=by rw[Ec (by omega)];omega
 generalize hU:TT%4294967296+R=U at*;have s6:dc .shr .u64 (U:Int) 32=((U/4294967296:Nat):Int):=yQ U;have s7:IntKind.u64.wrap ((P:Int)+((TT/4294967296:Nat):Int))=((P+TT/4294967296:Nat):Int):=by rw[Ec (by omega)];omega
 have s8:IntKind.u64.wrap (((P+TT/4294967296:Nat):Int)+((U/4294967296:Nat):Int))=((P+TT/4294967296+U/4294967296:Nat):Int):=by rw[Ec (by omega)];omega
 simp[-yQ,-Int.natCast_add,-Int.natCast_mul,-Int.natCast_ediv,-Int.natCast_emod,elo,Ov,ea0,Ow,eb0,p11,p10,p01,p00,s1,s2,s3,s4,s5,s6,s7,s8]
def rz (m:Nat):Int:=if m<1099511627776 then m else 1099511627776
def yj (a b:Int):Int:=if(decide (a<0)!=decide (b<0))=true then-rz (a.natAbs*b.natAbs) else rz (a.natAbs*b.natAbs)
theorem af5 (m:Nat):0≤rz m∧rz m≤1099511627776:=by unfold rz;split<;>omega
set_option maxHeartbeats 1000000 in
theorem aDk (a b:Int)(ha:-1099511627776≤a∧a≤1099511627776)(hb:-1099511627776≤b∧b≤1099511627776):ao T adv [.int a,.int b] (.int (yj a b)):=by
 refine .of_tree rfl alm aF7 ?_;have wa:IntKind.u64.wrap (a.natAbs:Int)=a.natAbs:=wj (by omega);have wb:IntKind.u64.wrap (b.natAbs:Int)=b.natAbs:=wj (by omega);have w0a:IntKind.i64.wrap (0-a)=-a:=by rw[bN (by omega)];omega
 have w0b:IntKind.i64.wrap (0-b)=-b:=by rw[bN (by omega)];omega
 have aGC:IntKind.i64.wrap (-a)=-a:=bN (by omega);have aGD:IntKind.i64.wrap (-b)=-b:=bN (by omega);have ea:(if a< -a then D.int (-a) else D.int a)=D.int a.natAbs:=by split<;>congr 1<;>omega
 have eb:(if b< -b then D.int (-b) else D.int b)=D.int b.natAbs:=by split<;>congr 1<;>omega
 have ea':(if a< -a then-a else a)=(a.natAbs:Int):=by split<;>omega
 have eb':(if b< -b then-b else b)=(b.natAbs:Int):=by split<;>omega
 simp[Ws,aGC,aGD,ea,eb,ea',eb'];rw[wa,wb];refine⟨_,azv a.natAbs b.natAbs (by omega) (by omega),?_⟩;unfold yj;generalize a.natAbs*b.natAbs=m;have hs:(decide (a<0)!=decide (b<0))=false↔(a<0↔b<0):=by
  by_cases h1:a<0<;>by_cases h2:b<0<;>simp[h1,h2]
 have key:((if((m/18446744073709551616:Nat):Int)=0∧((m%18446744073709551616:Nat):Int)<1099511627776 then IntKind.i64.wrap ((m%18446744073709551616:Nat):Int) else 1099511627776):Int)=rz m:=by
  unfold rz;by_cases hm:m<1099511627776
  ·have h1:m/18446744073709551616=0:=by omega
   have h2:m%18446744073709551616=m:=by omega
   rw[h1,h2,if_pos ⟨rfl,by omega⟩,if_pos hm,bN (by omega)]
  ·rw[if_neg hm,if_neg];rintro⟨h1,h2⟩;omega
 have fQ:=af5 m;have axL:(if((m/18446744073709551616:Nat):Int)=0∧((m%18446744073709551616:Nat):Int)<1099511627776 then D.int (IntKind.i64.wrap ((m%18446744073709551616:Nat):Int)) else D.int 1099511627776)=D.int (rz m):=by
  rw[←key];split<;>rfl
 show(if a<0↔b<0 then(if((m/18446744073709551616:Nat):Int)=0∧((m%18446744073709551616:Nat):Int)<1099511627776 then D.int (IntKind.i64.wrap ((m%18446744073709551616:Nat):Int)) else D.int 1099511627776)=_ else
  IntKind.i64.wrap (-(if((m/18446744073709551616:Nat):Int)=0∧((m%18446744073709551616:Nat):Int)<1099511627776 then IntKind.i64.wrap ((m%18446744073709551616:Nat):Int) else 1099511627776))=_)
 rw[axL,key];generalize rz m=n at*;split
 ·rename_i h;rw[hs.2 h];simp
 ·rename_i h;have:(decide (a<0)!=decide (b<0))=true:=by
   cases e:(decide (a<0)!=decide (b<0)) with
   |true=>rfl
   |false=>exact absurd (hs.1 e) h
  rw[this,bN (by omega)];simp
def wD (op a b:Int):Int:=if op=9 then nV (a+b) else if op=10 then nV (a-b) else if op=11 then yj a b else if op=12 then min a b else max a b
theorem aDh (op a b:Int)(ha:-1099511627776≤a∧a≤1099511627776)(hb:-1099511627776≤b∧b≤1099511627776):ao T ado [.int op,.int a,.int b] (.int (wD op a b)):=by
 refine .of_tree rfl ale aF0 ?_;have w1:IntKind.i64.wrap (a+b)=a+b:=bN (by omega);have w2:IntKind.i64.wrap (a-b)=a-b:=bN (by omega);simp[Wm,wD,w1,w2];by_cases h1:op=9
 ·simp[h1];exact MM _
 by_cases h2:op=10
 ·simp[h1,h2];exact MM _
 by_cases h3:op=11
 ·simp[h1,h2,h3];exact aDk a b ha hb
 by_cases h4:op=12
 ·simp[h1,h2,h3,h4];by_cases h5:b<a<;>simp[h5]<;>omega
 simp[h1,h2,h3,h4];by_cases h5:b>a<;>simp[h5]<;>omega
def dF (b:Bool):Cell:=if b then⟨true,1⟩ else⟨true,0⟩
theorem tJ (b:Bool):ao T adx [.bool b] (cG (dF b)):=by
 refine .of_tree rfl alo aF9 ?_;cases b<;>simp[Wu,dF]<;>rfl
def dm:Cell:=⟨false,0⟩
@[simp] theorem aNk:D.agg [.bool false,.int 0]=cG dm:=_root_.id rfl
@[simp] theorem aNm:dm.known=false:=rfl
@[simp] theorem aNn:dm.n=0:=rfl
def cellAt (cs:List Cell)(v:Int):Cell:=cs.getD v.toNat default
def jr (cs:List Cell)(v:Int):Cell:=if cs.length≤v.toNat∨(cellAt cs v).known=false then dm else if(lW v).1=1 then dF (decide ((cellAt cs v).n≠0)) else⟨true,nV (cellAt cs v).n⟩
abbrev Oy (cs:List Cell):D:=.agg [cells cs]
theorem aDm (cs:List Cell)(v:Int)(hv:0≤v):ao T adt [Oy cs,.int v] (cG (jr cs v)):=by
 refine .of_tree rfl alk aF6 ?_;obtain⟨k,rfl⟩:=Int.eq_ofNat_of_zero_le hv;simp[Wr,jr,cellAt];by_cases h1:cs.length≤k
 ·simp[h1]
 have cD:k<cs.length:=by omega
 simp[h1,cD];cases h2:cs[k].known
 ·simp[h2]
 simp[h2];refine⟨_,ahO _,?_⟩;by_cases h3:(lW k).1=1
 ·simp[h3,cD];refine⟨_,tJ _,?_⟩;simp;rfl
 ·simp[h3,cD];refine⟨_,MM _,?_⟩;simp;rfl
@[simp] theorem aMC (a b:Int):(a==b)=decide (a=b):=_root_.id rfl
@[simp] theorem aMD (a b:Int):(a !=b)= !decide (a=b):=_root_.id rfl
def aL (l:List Cell)(k:Nat):Cell:=l.getD k default
def fc (op:Int)(l:List Cell):Cell:=
 if op=3 then(if(aL l 0).known=true then dF (decide ((aL l 0).n=0)) else dm)
 else if(op=4∨op=5)∧(aL l 0=dF (decide (op=5))∨aL l 1=dF (decide (op=5))) then dF (decide (op=5))
 else if op=6 then(if(aL l 1).known=true∧aL l 1=aL l 2 then aL l 1 else dm)
 else if(aL l 0).known=false∨(aL l 1).known=false then dm
 else if op=4∨op=5 then dF (decide (op=4))
 else if op=7 then dF (decide ((aL l 0).n<(aL l 1).n)) else if op=8 then dF (decide ((aL l 0).n=(aL l 1).n)) else⟨true,wD op (aL l 0).n (aL l 1).n⟩
theorem alS (a b:Cell):a=b↔a.known=b.known∧a.n=b.n:=by cases a;cases b;simp
theorem aDi (op:Int)(l:List Cell)(h1:1≤l.length)(h2:op≠3→2≤l.length)(h3:op=6→3≤l.length)
 (hb:9≤op→(-1099511627776≤(aL l 0).n∧(aL l 0).n≤1099511627776)∧(-1099511627776≤(aL l 1).n∧(aL l 1).n≤1099511627776)) (h9:op<3∨8<op→9≤op):
 ao T adq [.int op,cells l] (cG (fc op l)):=by
 refine .of_tree rfl alg aF2 ?_;have g0:0<l.length:=by omega
 have um:l[0]=aL l 0:=by simp[aL,g0]
 simp[Wo];unfold fc;by_cases o3:op=3
 ·simp[o3,g0,um];cases e:(aL l 0).known
  ·simp
  ·simp[g0];refine⟨_,tJ _,?_⟩;simp
 have g1:1<l.length:=by have:=h2 o3;omega
 have Bl:l[1]=aL l 1:=by simp[aL,g1]
 have eN:(1:Int)<l.length:=by omega
 simp[o3];have fin:∀a b:Cell,(a=b)=(a.known=b.known∧a.n=b.n):=fun a b=>propext (alS a b);rcases Classical.em (op=4) with o4|o4
 ·subst o4;simp;refine⟨_,tJ _,?_⟩;simp[g0,g1,eN,um,Bl,fin];split
  ·rfl
  ·split
   ·rfl
   ·refine⟨_,tJ _,?_⟩;simp
 rcases Classical.em (op=5) with o5|o5
 ·subst o5;simp;refine⟨_,tJ _,?_⟩;simp[g0,g1,eN,um,Bl,fin];split
  ·rfl
  ·split
   ·rfl
   ·refine⟨_,tJ _,?_⟩;simp
 rcases Classical.em (op=6) with o6|o6
 ·subst o6;have g2:2<l.length:=by have:=h3 rfl;omega
  have gg2:l[2]=aL l 2:=by simp[aL,g2]
  have mX:(2:Int)<l.length:=by omega
  simp[g1,g2,eN,mX,Bl,gg2,fin];cases e1:(aL l 1).known
  ·simp
  by_cases e2:(aL l 1).known=(aL l 2).known∧(aL l 1).n=(aL l 2).n
  ·rw[e1] at e2;simp[e1,e2]
  ·rw[e1] at e2;have rZ:¬((aL l 2).known=true∧(aL l 1).n=(aL l 2).n):=fun h=>e2 ⟨h.1.symm,h.2⟩;simp only[e1,true_and,if_true]
   first|(rw[if_neg rZ,if_neg rZ])|(simp[rZ])
 simp[o4,o5,o6,g0,g1,eN,um,Bl];cases e1:(aL l 0).known
 ·simp
 cases e2:(aL l 1).known
 ·simp
 simp[g1,eN,Bl];rcases Classical.em (op=7) with o7|o7
 ·subst o7;simp;refine⟨_,tJ _,?_⟩;simp
 rcases Classical.em (op=8) with o8|o8
 ·subst o8;simp;refine⟨_,tJ _,?_⟩;simp
 simp[o7,o8];obtain⟨b1,b2⟩:=hb (h9 (by omega));refine⟨_,aDh op _ _ b1 b2,?_⟩;simp;rfl
end Rm
namespace Rm
open Go Go.Proofs Cx
def bl:Nat→List Cell→Tm→Cell
 |0,_,_=>dm
 |L+1,cs,t=>if t.op=0∨t.op=1 then⟨true,t.n⟩ else if t.op=2 then jr cs t.n else
   if t.op=6∧(aL (t.args.map (bl L cs)) 0).known=true then aL (t.args.map (bl L cs)) (2-(aL (t.args.map (bl L cs)) 0).n).toNat else fc t.op (t.args.map (bl L cs))
def dO:Nat→List Cell→Tm→List Int
 |0,_,_=>[]
 |L+1,cs,t=>if t.op=0∨t.op=1 then[] else if t.op=2 then(if(jr cs t.n).known=true then[] else[t.n]) else
   if t.op=6∧(aL (t.args.map (bl L cs)) 0).known=true then(t.args.map (dO L cs)).getD (2-(aL (t.args.map (bl L cs)) 0).n).toNat [] else
   if(fc t.op (t.args.map (bl L cs))).known=true then[] else(t.args.map (dO L cs)).flatten
theorem wS (L:Nat)(cs:List Cell)(t:Tm):bl (L+1) cs t=if t.op=0∨t.op=1 then⟨true,t.n⟩ else if t.op=2 then jr cs t.n else
 if t.op=6∧(aL (t.args.map (bl L cs)) 0).known=true then aL (t.args.map (bl L cs)) (2-(aL (t.args.map (bl L cs)) 0).n).toNat else fc t.op (t.args.map (bl L cs)):=rfl
theorem It (L:Nat)(cs:List Cell)(t:Tm):dO (L+1) cs t=if t.op=0∨t.op=1 then[] else if t.op=2 then(if(jr cs t.n).known=true then[] else[t.n]) else
 if t.op=6∧(aL (t.args.map (bl L cs)) 0).known=true then(t.args.map (dO L cs)).getD (2-(aL (t.args.map (bl L cs)) 0).n).toNat [] else
 if(fc t.op (t.args.map (bl L cs))).known=true then[] else(t.args.map (dO L cs)).flatten:=rfl
theorem GL {L:Nat}{t:Tm}{k:Int}(h:bR (L+1) t=(k,0)):(∀a,a∈t.args→(bR L a).2=0)∧vl t (t.args.map fun a=>(bR L a).1)=(k,0):=by
 rw[Og] at h;by_cases e:ff t.args.length (fun k=>(bR L (t.args.getD k default)).2)=0
 ·rw[if_neg (by simpa using e)] at h;refine⟨fun a ha=>?_,h⟩;obtain⟨j,hj,rfl⟩:=List.getElem_of_mem ha;have:=YB.1 e j hj;simpa [hj] using this
 ·rw[if_pos e] at h;injection h with _ h
  exact absurd h e
inductive Node (ks:List Int) (t:Tm):Int→Prop where
 |int (h:t.op=0) (ha:t.args=[]) (hn:-1099511627776≤t.n∧t.n≤1099511627776):Node ks t 0
 |bool (h:t.op=1) (ha:t.args=[]) (hn:t.n=0∨t.n=1):Node ks t 1
 |var (h:t.op=2) (ha:t.args=[]) (hn:0≤t.n∧t.n≤19):Node ks t (lW t.n).1
 |not (h:t.op=3) (hk:ks=[1]):Node ks t 1
 |log (h:t.op=4∨t.op=5) (hk:ks=[1,1]):Node ks t 1
 |ite (k:Int) (h:t.op=6) (hk:ks=[1,k,k]):Node ks t k
 |less (h:t.op=7) (hk:ks=[0,0]):Node ks t 1
 |equal (k:Int) (h:t.op=8) (hk:ks=[k,k]):Node ks t 1
 |num (h:9≤t.op∧t.op≤13) (hk:ks=[0,0]):Node ks t 0
theorem aGx (v:Int):(lW v).1=0∨(lW v).1=1:=by
 unfold lW;repeat' split
 all_goals simp
theorem azI {t:Tm}{ks:List Int}{k:Int}(hl:ks.length=t.args.length)(hZ:∀x,x∈ks→x=0∨x=1)(h:vl t ks=(k,0)):Node ks t k:=by
 unfold vl at h;split at h
 ·injection h with _ h;cases h
 rename_i bK;split at h
 ·rename_i h3;unfold Co at h;split at h
  ·injection h with _ h;cases h
  rename_i ha0;have ha:t.args=[]:=List.eq_nil_of_length_eq_zero (by omega);split at h
  ·rename_i h0;split at h
   ·injection h with _ h;cases h
   ·rename_i hc;injection h with h _
    subst h;refine .int h0 ha ?_;unfold nV at hc;omega
  split at h
  ·rename_i h0;split at h
   ·injection h with _ h;cases h
   ·rename_i hc;injection h with h _
    subst h;exact .bool h0 ha (by omega)
  split at h
  ·injection h with _ h;cases h
  ·rename_i g0 g1 hc;injection h with h _
   subst h;refine .var (by omega) ha ?_;unfold lW at hc;split at hc
   ·simp at hc
   ·omega
 rename_i h3;split at h
 ·injection h with _ h;cases h
 rename_i hlen;have m8:ks.length=(eI t.op).1.length:=by
  refine Classical.byContradiction fun hh=>hlen (.inl hh)
 split at h
 ·injection h with _ h;cases h
 rename_i aE;have jf:∀j,j<(eI t.op).1.length→nj (eI t.op).1 ks j=true:=wA.1 (by simpa using aE)
 have two:∀{n:Nat},ks.length=2→∃a b,ks=[a,b]:=fun h=>by
  match ks,h with
  |[a,b],_=>exact⟨a,b,rfl⟩
 by_cases o3:t.op=3
 ·have e:eI t.op=([1],1):=by simp[eI,o3]
  rw[e] at m8 jf h
  match ks,m8 with
  |[a],_=>
   have:=jf 0 (by simp);simp[nj] at this;simp at h;subst h this;exact .not o3 rfl
 by_cases Iz:t.op=4∨t.op=5
 ·have e:eI t.op=([1,1],1):=by simp[eI,o3,Iz]
  rw[e] at m8 jf h
  match ks,m8 with
  |[a,b],_=>
   have t1:=jf 0 (by simp);have t2:=jf 1 (by simp);simp[nj] at t1 t2;simp at h;subst h t1 t2;exact .log Iz rfl
 by_cases o6:t.op=6
 ·have e:eI t.op=([1,-1,-1],-1):=by simp[eI,o6]
  rw[e] at m8 jf h
  match ks,m8,hZ with
  |[a,b,c],_,hZ=>
   have t1:=jf 0 (by simp);have t3:=jf 2 (by simp);have hb:=hZ b (by simp);have pK:¬b=-1:=by omega
   simp[nj] at t1;simp[nj,mC,pK] at t3;simp[mC,pK] at h;subst h t1 t3;exact .ite _ o6 rfl
 by_cases o7:t.op=7
 ·have e:eI t.op=([0,0],1):=by simp[eI,o7]
  rw[e] at m8 jf h
  match ks,m8 with
  |[a,b],_=>
   have t1:=jf 0 (by simp);have t2:=jf 1 (by simp);simp[nj] at t1 t2;simp at h;subst h t1 t2;exact .less o7 rfl
 by_cases o8:t.op=8
 ·have e:eI t.op=([-1,-1],1):=by simp[eI,o8]
  rw[e] at m8 jf h
  match ks,m8,hZ with
  |[a,b],_,hZ=>
   have t2:=jf 1 (by simp);have ha:=hZ a (by simp);have han:¬a=-1:=by omega
   simp[nj,mC,han] at t2;simp at h;subst h t2;exact .equal _ o8 rfl
 have e:eI t.op=([0,0],0):=by simp[eI,o3,Iz,o6,o7,o8]
 rw[e] at m8 jf h
 match ks,m8 with
 |[a,b],_=>
  have t1:=jf 0 (by simp);have t2:=jf 1 (by simp);simp[nj] at t1 t2;simp at h;subst h t1 t2;exact .num (by omega) rfl
theorem GM:∀{L:Nat} {t:Tm} {k:Int},bR (L+1) t=(k,0)→Node (t.args.map fun a=>(bR L a).1) t k∧(k=0∨k=1)
 |L,t,k,h=>by
  obtain⟨h1,h2⟩:=GL h
  have hZ:∀x,x∈(t.args.map fun a=>(bR L a).1)→x=0∨x=1:=by
   intro x hx;obtain⟨a,ha,rfl⟩:=List.mem_map.1 hx;cases L with
   |zero=>exact .inl rfl
   |succ L=>exact(GM (L:=L) (t:=a) (k:=(bR (L+1) a).1) (by rw[←h1 a ha])).2
  have hn:=azI (by simp) hZ h2;refine⟨hn,?_⟩;cases hn with
  |int=>simp
  |bool=>simp
  |var=>exact aGx _
  |not=>simp
  |log=>simp
  |ite k _ hk=>exact hZ k (by rw[hk];simp)
  |less=>simp
  |equal=>simp
  |num=>simp
end Rm
namespace Rm
open Go Go.Proofs Cx
def rR (k:Int)(c:Cell):Prop:=(c.known=false→c=dm)∧(c.known=true→(k=1→c.n=0∨c.n=1)∧(k=0→-1099511627776≤c.n∧c.n≤1099511627776))
theorem tA (k:Int):rR k dm:=⟨fun _=>rfl,fun h=>by cases h⟩
theorem yM (b:Bool):rR 1 (dF b):=⟨fun h=>(by cases b<;>cases h),fun _=>⟨fun _=>(by cases b<;>simp[dF]),fun h=>by cases h⟩⟩
theorem Ol (n:Int):-1099511627776≤nV n∧nV n≤1099511627776:=by unfold nV;omega
theorem aCB (cs:List Cell)(v:Int)(hv:0≤v∧v≤19):rR (lW v).1 (jr cs v):=by
 unfold jr;split
 ·exact tA _
 ·split
  ·rename_i h;rw[h];exact yM _
  ·rename_i h;refine⟨fun h=>(by cases h),fun _=>⟨fun h'=>absurd h' h,fun _=>Ol _⟩⟩
theorem aBt (a b:Int):-1099511627776≤yj a b∧yj a b≤1099511627776:=by
 unfold yj;have:=af5 (a.natAbs*b.natAbs);split<;>omega
theorem ai4 (op a b:Int)(ha:-1099511627776≤a∧a≤1099511627776)(hb:-1099511627776≤b∧b≤1099511627776):-1099511627776≤wD op a b∧wD op a b≤1099511627776:=by
 unfold wD;split
 ·exact Ol _
 split
 ·exact Ol _
 split
 ·exact aBt _ _
 split<;>omega
theorem azj {α β:Type}{f:α→β}{l:List α}{x:β}(h:l.map f=[x]):∃a,l=[a]∧f a=x:=by
 match l,h with
 |[a],h=>exact⟨a,rfl,by simpa using h⟩
theorem xG {α β:Type}{f:α→β}{l:List α}{x y:β}(h:l.map f=[x,y]):∃a b,l=[a,b]∧f a=x∧f b=y:=by
 match l,h with
 |[a,b],h=>exact⟨a,b,rfl,by simpa using h⟩
theorem If {α β:Type}{f:α→β}{l:List α}{x y z:β}(h:l.map f=[x,y,z]):∃a b c,l=[a,b,c]∧f a=x∧f b=y∧f c=z:=by
 match l,h with
 |[a,b,c],h=>exact⟨a,b,c,rfl,by simpa using h⟩
theorem OD:∀{L:Nat} {t:Tm} {k:Int} (cs:List Cell),bR L t=(k,0)→rR k (bl L cs t)
 |0,t,k,cs,h=>tA _
 |L+1,t,k,cs,h=>by
  obtain⟨hn,hk⟩:=GM h;obtain⟨ha,_⟩:=GL h;have ih:∀a,a∈t.args→rR (bR L a).1 (bl L cs a):=fun a hm=>OD cs (show bR L a=((bR L a).1,0) by rw[←ha a hm]);rw[wS];cases hn with
  |int h0 ha hn=>rw[if_pos (.inl h0)];exact⟨fun h=>(by cases h),fun _=>⟨fun h=>(by cases h),fun _=>hn⟩⟩
  |bool h0 ha hn=>rw[if_pos (.inr h0)];exact⟨fun h=>(by cases h),fun _=>⟨fun _=>hn,fun h=>by cases h⟩⟩
  |var h0 ha hn=>rw[if_neg (by omega),if_pos h0];exact aCB cs _ hn
  |not h0 hk=>
   rw[if_neg (by omega),if_neg (by omega),if_neg (by omega)];unfold fc;rw[if_pos h0];split
   ·exact yM _
   ·exact tA _
  |log h0 hk=>
   rw[if_neg (by omega),if_neg (by omega),if_neg (by omega)];unfold fc;rw[if_neg (by omega)];split
   ·exact yM _
   rw[if_neg (by omega)];split
   ·exact tA _
   exact yM _
  |ite k h0 cn=>
   obtain⟨a,b,c,hl,e1,e2,e3⟩:=If cn;rw[hl] at ih ⊢;have r1:=ih a (by simp);have r2:=ih b (by simp);have r3:=ih c (by simp);rw[e1] at r1;rw[e2] at r2;rw[e3] at r3;rw[if_neg (by omega),if_neg (by omega)];simp only[List.map_cons,List.map_nil,aL,List.getD_cons_zero];split
   ·rename_i hh;rcases(r1.2 hh.2).1 rfl with h1|h1<;>rw[h1]
    ·exact r3
    ·exact r2
   ·unfold fc;rw[if_neg (by omega),if_neg (by omega),if_pos h0];simp only[aL,List.getD_cons_zero,List.getD_cons_succ];split
    ·exact r2
    ·exact tA _
  |less h0 hk=>
   rw[if_neg (by omega),if_neg (by omega),if_neg (by omega)];unfold fc;rw[if_neg (by omega),if_neg (by omega),if_neg (by omega)];split
   ·exact tA _
   repeat' split
   all_goals exact yM _
  |equal k h0 hk=>
   rw[if_neg (by omega),if_neg (by omega),if_neg (by omega)];unfold fc;rw[if_neg (by omega),if_neg (by omega),if_neg (by omega)];split
   ·exact tA _
   repeat' split
   all_goals exact yM _
  |num h0 cn=>
   obtain⟨a,b,hl,e1,e2⟩:=xG cn;rw[hl] at ih ⊢;have r1:=ih a (by simp);have r2:=ih b (by simp);rw[e1] at r1;rw[e2] at r2;rw[if_neg (by omega),if_neg (by omega),if_neg (by omega)];unfold fc;rw[if_neg (by omega),if_neg (by omega),if_neg (by omega)];simp only[List.map_cons,List.map_nil,aL,List.getD_cons_zero,List.getD_cons_succ];split
   ·exact tA _
   rename_i ou;rw[if_neg (by omega),if_neg (by omega),if_neg (by omega)];have k1:(bl L cs a).known=true:=by
    cases e:(bl L cs a).known with
    |true=>rfl
    |false=>exact absurd (.inl e) ou
   have k2:(bl L cs b).known=true:=by
    cases e:(bl L cs b).known with
    |true=>rfl
    |false=>exact absurd (.inr e) ou
   exact⟨fun h=>(by cases h),fun _=>⟨fun h=>(by cases h),fun _=>ai4 _ _ _ ((r1.2 k1).2 rfl) ((r2.2 k2).2 rfl)⟩⟩
theorem adB:∀(L:Nat) (cs:List Cell) (t:Tm),cI L t≤60→((dO L cs t).length:Int)≤cI L t
 |0,cs,t,h=>by simp[cI] at h
 |L+1,cs,t,h=>by
  have h1:=vj (L+1) t;obtain⟨hl,hp⟩:=QQ h;have hs:∀(l:List Tm) (n:Int),(∀a,a∈l→cI L a≤60)→fo (cI L) l n≤60→((l.map (dO L cs)).flatten.length:Int)+n≤fo (cI L) l n∧∀j,(((l.map (dO L cs)).getD j []).length:Int)+n≤fo (cI L) l n:=by
   intro l
   induction l with
   |nil=>intro n _ _;simp[fo]
   |cons a l ih=>
    intro n hp hm;have ha:=adB L cs a (hp a (by simp));unfold fo at hm ⊢;split at hm
    ·omega
    ·rename_i h60;rw[if_neg h60];obtain⟨i1,i2⟩:=ih (n+cI L a) (fun b hb=>hp b (by simp[hb])) hm;refine⟨by rw[List.map_cons,List.flatten_cons,List.length_append];omega,fun j=>?_⟩;cases j with
     |zero=>simp;omega
     |succ j=>have:=i2 j;simp at this ⊢;omega
  obtain⟨hs1,dZ⟩:=hs t.args 1 hp h;rw[It];split
  ·simp;omega
  split
  ·split<;>simp<;>omega
  split
  ·have:=dZ (2-(aL (t.args.map (bl L cs)) 0).n).toNat;show _≤fo _ _ _;omega
  split
  ·simp;omega
  ·show _≤fo _ _ _;omega
@[simp] theorem aOm (x y:List Int):tH (ints x) 0 (ints y)=ints y:=_root_.id rfl
@[simp] theorem aC3 (x y:Cell):tH (cG x) 0 (cG y)=cG y:=_root_.id rfl
@[simp] theorem aME (a b:List Int):D.list (a.map D.int++b.map D.int)=ints (a++b):=by simp[ints]
def lists (l:List (List Int)):D:=.list (l.map ints)
@[simp] theorem aMS (l:List (List Int)):(lists l).l=l.map ints:=_root_.id rfl
theorem aik (l:List (List Int))(hl:l.length≤1000)(hs:l.flatten.length≤1000000):ao T ac4 [lists l] (ints l.flatten):=by
 refine .of_tree rfl akV aFH ?_;simp[V3];have hb:∀k,(l.take k).flatten.length≤l.flatten.length:=by
  intro k
  conv=>rhs;rw[←List.take_append_drop k l]
  rw[List.flatten_append,List.length_append];omega
 have bx:∀k (hk:k<l.length),(l.take (k+1)).flatten=(l.take k).flatten++l[k]:=fun k hk=>by
  rw[List.take_succ_eq_append_getElem hk,List.flatten_append];simp
 refine aP.forRounds l.length (fun k=>[.int ((l.take k).flatten.length:Nat),.int k]) (fun k=>[]) ?_ (fun k hk=>?_) ?_
 ·simp
 ·have hw:=bj hk (by omega);have h1:=bx k hk;have h2:=hb (k+1);rw[h1] at h2 ⊢;rw[List.length_append] at h2 ⊢;generalize (l.take k).flatten.length=m at*;have q9:IntKind.i64.wrap ((m:Int)+(l[k].length:Int))=(m:Int)+l[k].length:=bN (by omega);have BS:¬((m:Int)+l[k].length<0):=by omega
  simp[agU,Mp,hk,hw,q9,BS]
 ·simp[agU,Mp];have ZH:ao T 225 [.list [],.int (l.flatten.length:Nat)] (.list []):=by
   refine .of_ext (g:=fun _ ds=>G6 ds) rfl ⟨0,fun _ _=>?_⟩;show(if(0:Int)≤(l.flatten.length:Nat)∧((l.flatten.length:Nat):Int)≤4294967296 then some (D.list []) else none)=some (D.list []);rw[if_pos (by omega)]
  rw[List.length_flatten] at ZH;refine⟨_,ZH,?_⟩;refine aP.forRounds l.length (fun k=>[.none,.int k]) (fun k=>[ints (l.take k).flatten]) ?_ (fun k hk=>?_) ?_
  ·simp[ints]
  ·have hw:=bj hk (by omega);have h1:=bx k hk;have h2:=hb (k+1);rw[h1] at h2 ⊢;rw[List.length_append] at h2;generalize (l.take k).flatten=m at*;simp[agV,Mq,hk,hw];omega
  ·simp[agV,Mq]
theorem apb {op:Int}{l:List Cell}(h:(fc op l).known=false):fc op l=dm:=by
 have hy:∀b,(dF b).known=true:=fun b=>by cases b<;>simp[dF]
 unfold fc at h ⊢;split<;>rename_i c1
 ·rw[if_pos c1] at h;split<;>rename_i c2
  ·rw[if_pos c2,hy] at h;cases h
  ·rfl
 rw[if_neg c1] at h;split<;>rename_i c2
 ·rw[if_pos c2,hy] at h;cases h
 rw[if_neg c2] at h;split<;>rename_i c3
 ·rw[if_pos c3] at h;split<;>rename_i c4
  ·rw[if_pos c4,c4.1] at h;cases h
  ·rfl
 rw[if_neg c3] at h;split<;>rename_i c4
 ·rfl
 rw[if_neg c4] at h
 repeat' split at h
 all_goals first|(rw[hy] at h;cases h)|cases h
theorem ahP:∀(L:Nat) (cs:List Cell) (t:Tm) (k:Int),t.OK→cI L t≤60→bR L t=(k,0)→ao T Rd [Oy cs,dx t] (.tup [cG (bl L cs t),ints (dO L cs t)])
 |0,cs,t,k,ht,hm,hc=>by simp[cI] at hm
 |L+1,cs,t,k,ht,hm,hc=>by
  refine .of_tree rfl alj aF5 ?_;obtain⟨hl,hp⟩:=QQ hm;obtain⟨ha,_⟩:=GL hc;obtain⟨hn,aMc⟩:=GM hc;have gR:∀a,a∈t.args→ao T Rd [Oy cs,dx a] (.tup [cG (bl L cs a),ints (dO L cs a)]):=fun a eQ=>ahP L cs a (bR L a).1 (ht.arg eQ) (hp a eQ) (by rw[←ha a eQ]);have sH:∀a,a∈t.args→rR (bR L a).1 (bl L cs a):=fun a eQ=>OD cs (show bR L a=((bR L a).1,0) by rw[←ha a eQ]);have Z5:∀a,a∈t.args→(dO L cs a).length≤60:=fun a eQ=>by have:=adB L cs a (hp a eQ);have:=hp a eQ;omega
  by_cases hZ:t.op=0∨t.op=1
  ·
   have e1:bl (L+1) cs t=⟨true,t.n⟩:=by rw[wS,if_pos hZ]
   have e2:dO (L+1) cs t=[]:=by rw[It,if_pos hZ]
   rw[e1,e2];rcases hZ with h|h<;>simp[D7,h]<;>exact⟨rfl,rfl⟩
  have o0:t.op≠0:=fun h=>hZ (.inl h);have o1:t.op≠1:=fun h=>hZ (.inr h);by_cases o2:t.op=2
  ·have hv:0≤t.n:=by
    cases hn with
    |var h0 ha hn=>exact hn.1
    |_=>omega
   have e1:bl (L+1) cs t=jr cs t.n:=by rw[wS,if_neg hZ,if_pos o2]
   have e2:dO (L+1) cs t=if(jr cs t.n).known=true then[] else[t.n]:=by rw[It,if_neg hZ,if_pos o2]
   rw[e1,e2];simp[D7,o2];refine⟨_,aDm cs t.n hv,?_⟩;cases e:(jr cs t.n).known
   ·have:jr cs t.n=dm:=by
     unfold jr at e ⊢;split
     ·rfl
     ·rename_i h;rw[if_neg h] at e;split at e
      ·cases hb:decide ((cellAt cs t.n).n≠0)<;>rw[hb] at e<;>cases e
      ·cases e
    rw[this];simp[ints]
   ·have h:jr cs t.n=⟨true,(jr cs t.n).n⟩:=by rw[←e]
    rw[h];simp[ints]
    try rfl
  have hlen:1≤t.args.length∧(t.op≠3→2≤t.args.length)∧(t.op=6→3≤t.args.length):=by
   cases hn with
   |int h0 ha hn=>omega
   |bool h0 ha hn=>omega
   |var h0 ha hn=>omega
   |not h0 hk=>obtain⟨a,hl,_⟩:=azj hk;rw[hl];simp;omega
   |log h0 hk=>obtain⟨a,b,hl,_⟩:=xG hk;rw[hl];simp;omega
   |ite k h0 hk=>obtain⟨a,b,c,hl,_⟩:=If hk;rw[hl];simp
   |less h0 hk=>obtain⟨a,b,hl,_⟩:=xG hk;rw[hl];simp;omega
   |equal k h0 hk=>obtain⟨a,b,hl,_⟩:=xG hk;rw[hl];simp;omega
   |num h0 hk=>obtain⟨a,b,hl,_⟩:=xG hk;rw[hl];simp;omega
  have hb9:9≤t.op→(-1099511627776≤(aL (t.args.map (bl L cs)) 0).n∧(aL (t.args.map (bl L cs)) 0).n≤1099511627776)∧(-1099511627776≤(aL (t.args.map (bl L cs)) 1).n∧(aL (t.args.map (bl L cs)) 1).n≤1099511627776):=by
   intro h9;have rb:∀c:Cell,rR 0 c→-1099511627776≤c.n∧c.n≤1099511627776:=by
    intro c hr;cases e:c.known with
    |false=>rw[hr.1 e];simp
    |true=>exact(hr.2 e).2 rfl
   cases hn with
   |num h0 hk=>
    obtain⟨a,b,hl,ea,eb⟩:=xG hk;rw[hl] at sH ⊢;have r1:=sH a (by simp);have r2:=sH b (by simp);rw[ea] at r1;rw[eb] at r2;exact⟨rb _ r1,rb _ r2⟩
   |log h0 hk=>omega
   |_=>omega
  have h6:t.op=6→(aL (t.args.map (bl L cs)) 0).known=true→(aL (t.args.map (bl L cs)) 0).n=0∨(aL (t.args.map (bl L cs)) 0).n=1:=by
   intro o6 ou;cases hn with
   |ite k h0 hk=>
    obtain⟨a,b,c,hl,ea,_⟩:=If hk;rw[hl] at sH ou ⊢;have r1:=sH a (by simp);rw[ea] at r1;exact(r1.2 ou).1 rfl
   |log h0 hk=>omega
   |num h0 hk=>omega
   |_=>omega
  have bK:t.op<3∨8<t.op→9≤t.op:=by
   cases hn with
   |log h0 hk=>omega
   |num h0 hk=>omega
   |_=>omega
  have e1:bl (L+1) cs t=if t.op=6∧(aL (t.args.map (bl L cs)) 0).known=true then aL (t.args.map (bl L cs)) (2-(aL (t.args.map (bl L cs)) 0).n).toNat else fc t.op (t.args.map (bl L cs)):=by
   rw[wS,if_neg hZ,if_neg o2]
  have e2:dO (L+1) cs t=if t.op=6∧(aL (t.args.map (bl L cs)) 0).known=true then(t.args.map (dO L cs)).getD (2-(aL (t.args.map (bl L cs)) 0).n).toNat [] else if(fc t.op (t.args.map (bl L cs))).known=true then[] else(t.args.map (dO L cs)).flatten:=by
   rw[It,if_neg hZ,if_neg o2]
  rw[e1,e2];simp[D7,o0,o1,o2];refine⟨by omega,?_⟩;refine aP.forRounds t.args.length (fun k=>[.int k]) (fun k=>[cells ((t.args.map (bl L cs)).take k++List.replicate (t.args.length-k) dm),lists ((t.args.map (dO L cs)).take k++List.replicate (t.args.length-k) [])]) ?_ (fun k hk=>?_) ?_
  ·simp[cells,lists,ints]
  ·have hw:=bj hk (by omega);have cP:=List.getElem_mem hk;have hr:=gR _ cP;have s1:=Ud (t.args.map (bl L cs)) dm (n:=t.args.length) (by simp) hk;have s2:=Ud (t.args.map (dO L cs)) [] (n:=t.args.length) (by simp) hk;rw[←s1,←s2];have l1:((t.args.map (bl L cs)).take k++List.replicate (t.args.length-k) dm).length=t.args.length:=by simp;omega
   have l2:((t.args.map (dO L cs)).take k++List.replicate (t.args.length-k) []).length=t.args.length:=by simp;omega
   have g1:(t.args.map (bl L cs))[k]'(by simpa using hk)=bl L cs t.args[k]:=by simp
   have g2:(t.args.map (dO L cs))[k]'(by simpa using hk)=dO L cs t.args[k]:=by simp
   rw[g1,g2];generalize (t.args.map (bl L cs)).take k++List.replicate (t.args.length-k) dm=A at*;generalize (t.args.map (dO L cs)).take k++List.replicate (t.args.length-k) []=B at*;generalize bl L cs t.args[k]=c at*;generalize dO L cs t.args[k]=d at*;simp[TK,DL,hk];refine⟨_,hr,?_⟩;simp[hw,hk,l1,l2,cells,lists]
  ·have hA:(t.args.map (bl L cs)).take t.args.length++List.replicate (t.args.length-t.args.length) dm=t.args.map (bl L cs):=by rw[Nat.sub_self,List.replicate_zero,List.append_nil,List.take_of_length_le (by simp)]
   have hB:(t.args.map (dO L cs)).take t.args.length++List.replicate (t.args.length-t.args.length) []=t.args.map (dO L cs):=by rw[Nat.sub_self,List.replicate_zero,List.append_nil,List.take_of_length_le (by simp)]
   have lA:(t.args.map (bl L cs)).length=t.args.length:=by simp
   have lB:(t.args.map (dO L cs)).length=t.args.length:=by simp
   have jC:∀l:List Tm,(∀a,a∈l→a∈t.args)→((l.map (dO L cs)).flatten.length≤l.length*60):=by
    intro l
    induction l with
    |nil=>intro _;simp
    |cons a l ih=>
     intro h;have h1:=Z5 a (h a (by simp));have h2:=ih (fun b hb=>h b (by simp[hb]));rw[List.map_cons,List.flatten_cons,List.length_append,List.length_cons];omega
   have jC:=jC t.args (fun a h=>h);have hBg:∀m:Nat,(Option.map (dO L cs) t.args[m]?).getD []=(t.args.map (dO L cs)).getD m []:=fun m=>by simp[List.getD_eq_getElem?_getD]
   rw[hA,hB];generalize t.args.map (bl L cs)=A at*;generalize t.args.map (dO L cs)=B at*;have g0:0<A.length:=by omega
   have um:A[0]=aL A 0:=by simp[aL,g0]
   by_cases He:t.op=6∧(aL A 0).known=true
   ·obtain⟨o6,kn⟩:=He;have hv:=h6 o6 kn;have hw:IntKind.i64.wrap (2-(aL A 0).n)=2-(aL A 0).n:=bN (by omega);have h3:3≤t.args.length:=hlen.2.2 o6;rw[if_pos ⟨o6,kn⟩,if_pos ⟨o6,kn⟩];obtain⟨m,eQ⟩:∃m:Nat,m=(2-(aL A 0).n).toNat:=⟨_,rfl⟩
    have BP:m<A.length:=by omega
    have Pv:m<B.length:=by omega
    simp[TK,DL,o6,kn,g0,um,hw,←eQ,BP,Pv,cells,lists];refine⟨by omega,by omega,by simp[aL,BP],?_⟩;rw[hBg,List.getD_eq_getElem?_getD,List.getElem?_eq_getElem Pv];rfl
   ·rw[if_neg He,if_neg He];have avn:=aDi t.op A (by omega) (by omega) (by omega) hb9 bK;have avp:=aik B (by omega) (by omega);simp[TK,DL,g0,um];rw[if_neg He];refine⟨_,avn,?_⟩;cases e:(fc t.op A).known
    ·have eE:fc t.op A=dm:=apb e;rw[eE];simp;exact avp
    ·have h:fc t.op A=⟨true,(fc t.op A).n⟩:=by rw[←e]
     rw[h];simp[ints]
     try rfl
end Rm
namespace Rm
open Go Go.Proofs Cx
def mB (n:Nat)(g:Nat→Bool):Int:=if(List.range n).findIdx g<n then((List.range n).findIdx g:Nat) else-1
theorem Cm (n:Nat)(g:Nat→Bool):(mB n g=-1∧∀k,k<n→g k=false)∨∃k:Nat,k<n∧mB n g=k∧g k=true∧∀i,i<k→g i=false:=by
 unfold mB;split
 ·rename_i h;refine .inr ⟨_,h,rfl,?_,fun i hi=>?_⟩
  ·have:=List.findIdx_getElem (p:=g) (xs:=List.range n) (w:=by simpa using h);simpa using this
  ·have:=List.not_of_lt_findIdx (p:=g) (xs:=List.range n) hi;simpa using this
 ·rename_i h;refine .inl ⟨rfl,fun k hk=>?_⟩;have:=List.not_of_lt_findIdx (p:=g) (xs:=List.range n) (i:=k) (by omega);simpa using this
theorem Qx {n:Nat}{g:Nat→Bool}(h:∀k,k<n→g k=false):mB n g=-1:=by
 rcases Cm n g with⟨h1,_⟩|⟨k,hk,_,h2,_⟩
 ·exact h1
 ·rw[h k hk] at h2;cases h2
theorem Qy {n k:Nat}{g:Nat→Bool}(hk:k<n)(h:g k=true)(hj:∀i,i<k→g i=false):mB n g=k:=by
 rcases Cm n g with⟨_,h1⟩|⟨m,hm,h1,h2,h3⟩
 ·rw[h1 k hk] at h;cases h
 ·rcases Nat.lt_trichotomy m k with h4|h4|h4
  ·rw[hj m h4] at h2;cases h2
  ·rw[h1,h4]
  ·rw[h3 k h4] at h;cases h
theorem aaL (n:Nat)(g:Nat→Bool):decide (0≤mB n g)=(List.range n).any g:=by
 rcases Cm n g with⟨h1,h2⟩|⟨m,hm,h1,h2,h3⟩
 ·rw[h1]
  symm
  simp;exact h2
 ·rw[h1];simp;exact⟨m,hm,h2⟩
theorem aiu (l:List Rule)(f:Nat)(caps:List D)(g:Nat→Bool)(hg:∀k (hk:k<l.length),ao T f (qO l[k]::caps) (.bool (g k)))(hl:l.length≤4294967296):
 ao T ada [rules l,.clo f caps] (.int (mB l.length g)):=by
 refine .of_tree rfl ak1 aFN ?_;simp[V9];refine .scan l.length (fun k=>g k=false) (fun k=>[.int 0,.int k]) (fun _=>[]) ?_ (fun k hk hj ho=>?_) (fun k hk hj ho=>?_) (fun hj=>?_)
 ·simp
 ·have hw:=bj hk hl;simp[TE,DG,hk,hw];refine⟨_,_,⟨rfl,rfl⟩,_,hg k hk,?_⟩;simp[ho,hw]
 ·have he:=Qy hk (by simpa using ho) hj;simp[TE,DG,hk,he];refine⟨_,_,⟨rfl,rfl⟩,_,hg k hk,?_⟩;simp[ho]
 ·have he:=Qx hj;simp[TE,DG,he]
theorem aiv (l:List Int)(f:Nat)(caps:List D)(g:Nat→Bool)(hg:∀k (hk:k<l.length),ao T f (.int l[k]::caps) (.bool (g k)))(hl:l.length≤4294967296):
 ao T adb [ints l,.clo f caps] (.int (mB l.length g)):=by
 refine .of_tree rfl ak2 aFO ?_;simp[Wa];refine .scan l.length (fun k=>g k=false) (fun k=>[.int 0,.int k]) (fun _=>[]) ?_ (fun k hk hj ho=>?_) (fun k hk hj ho=>?_) (fun hj=>?_)
 ·simp
 ·have hw:=bj hk hl;simp[TF,DH,hk,hw,ints];refine⟨_,_,⟨rfl,rfl⟩,_,hg k hk,?_⟩;simp[ho,hw]
 ·have he:=Qy hk (by simpa using ho) hj;simp[TF,DH,hk,he,ints];refine⟨_,_,⟨rfl,rfl⟩,_,hg k hk,?_⟩;simp[ho]
 ·have he:=Qx hj;simp[TF,DH,he,ints]
theorem ait (l:List Alter)(f:Nat)(caps:List D)(g:Nat→Bool)(hg:∀k (hk:k<l.length),ao T f (nY l[k]::caps) (.bool (g k)))(hl:l.length≤4294967296):
 ao T ac9 [alters l,.clo f caps] (.int (mB l.length g)):=by
 refine .of_tree rfl ak0 aFM ?_;simp[V8];refine .scan l.length (fun k=>g k=false) (fun k=>[.int 0,.int k]) (fun _=>[]) ?_ (fun k hk hj ho=>?_) (fun k hk hj ho=>?_) (fun hj=>?_)
 ·simp
 ·have hw:=bj hk hl;simp[TD,DF,hk,hw];refine⟨_,_,⟨rfl,rfl⟩,_,hg k hk,?_⟩;simp[ho,hw]
 ·have he:=Qy hk (by simpa using ho) hj;simp[TD,DF,hk,he];refine⟨_,_,⟨rfl,rfl⟩,_,hg k hk,?_⟩;simp[ho]
 ·have he:=Qx hj;simp[TD,DF,he]
theorem aim (l:List Int)(f:Nat)(caps:List D)(g:Nat→Bool)(hg:∀k (hk:k<l.length),ao T f (.int l[k]::caps) (.bool (g k)))(hl:l.length≤4294967296):
 ao T ac6 [ints l,.clo f caps] (.bool ((List.range l.length).any g)):=by
 refine .of_tree rfl akX aFJ ?_;simp[V5];refine⟨_,aiv l f caps g hg hl,?_⟩;have:=aaL l.length g;simp[←this]
theorem ail (l:List Alter)(f:Nat)(caps:List D)(g:Nat→Bool)(hg:∀k (hk:k<l.length),ao T f (nY l[k]::caps) (.bool (g k)))(hl:l.length≤4294967296):
 ao T ac5 [alters l,.clo f caps] (.bool ((List.range l.length).any g)):=by
 refine .of_tree rfl akW aFI ?_;simp[V4];refine⟨_,ait l f caps g hg hl,?_⟩;have:=aaL l.length g;simp[←this]
def pE (cs:List Cell)(t:Tm):Cell:=if(l7 t).2=0 then bl 8 cs t else dm
theorem XU {t:Tm}(h:(l7 t).2=0):cI 8 t≤60∧bR 8 t=((l7 t).1,0):=by
 unfold l7 at h ⊢;split at h
 ·cases h
 ·rename_i hm;rw[if_neg hm];exact⟨by omega,by rw[←h]⟩
theorem aDg (t:Tm)(cs:List Cell)(ht:t.OK):ao T adm [dx t,cells cs] (cG (pE cs t)):=by
 refine .of_tree rfl alc aFY ?_;simp[Wk,pE];refine⟨_,ahN t ht,?_⟩;by_cases h:(l7 t).2=0
 ·obtain⟨h1,h2⟩:=XU h;simp[h];refine⟨_,ahP 8 cs t _ ht h1 h2,?_⟩;simp
  try rfl
 ·simp[h]
  try rfl
def Rh:List Int:=[6,7,10,12,13,14,15,16,20,21]
def lV (ask:Int):Int×Bool:=if ask<0∨22≤ask then(0,false) else if hasB Rh ask then(0,true) else(1,true)
theorem RZ (ask:Int):ao T acg [.int ask] (.tup [.int (lV ask).1,.bool (lV ask).2]):=by
 refine .of_tree rfl ajZ aEG ?_;simp[Va,lV];by_cases h0:ask<0
 ·simp[h0]
 by_cases h1:22≤ask
 ·simp[h0,h1]
 simp[h0,h1];refine⟨_,qD Rh ask (by decide),?_⟩;cases h:hasB Rh ask<;>simp[h]
def Iu:Tm:=⟨0,0,[]⟩
def tB (o:Order)(ask:Int)(k:Nat):Bool:=decide ((o.rules.getD k default).ask=ask)
def DV (o:Order)(i:Int):Tm:=(o.rules.getD i.toNat default).term
def findF (o:Order)(ask:Int):Tm×Int:=
 if(lV ask).2=false then(Iu,1) else if mB o.rules.length (tB o ask)<0 then(Iu,4) else
    if(l7 (DV o (mB o.rules.length (tB o ask)))).2≠0∨(l7 (DV o (mB o.rules.length (tB o ask)))).1≠(lV ask).1 then(Iu,11) else(DV o (mB o.rules.length (tB o ask)),0)
theorem ahi {o:Order}(ho:o.OK){m:Nat}(hm:m<o.rules.length):o.rules[m].term.OK:=(ho.2.2 _ (List.getElem_mem hm)).2
theorem Rg:Iu.OK:=by
 exact .mk 0 0 [] (by unfold aX;omega) (by unfold aX;omega) (by decide) (fun _ h=>by cases h)
theorem aqY {o:Order}(ho:o.OK)(ask:Int):(findF o ask).1.OK:=by
 unfold findF;split
 ·exact Rg
 split
 ·exact Rg
 split
 ·exact Rg
 ·rename_i h _;rcases Cm o.rules.length (tB o ask) with⟨h1,h2⟩|⟨m,hm,h1,h2,h3⟩
  ·exact absurd (by rw[h1];decide) h
  ·rw[h1];simp[DV,hm];exact ahi ho hm
theorem aqW (r:Rule)(ask:Int):ao T Q3 [qO r,.ref (.int ask)] (.bool (decide (r.ask=ask))):=by
 refine .of_tree rfl aj1 aEH ?_;simp[Vc]
theorem aA1 (o:Order)(ask:Int)(ho:o.OK)(hl:o.rules.length≤4294967296):ao T ach [iY o,.int ask] (.tup [dx (findF o ask).1,.int (findF o ask).2]):=by
 refine .of_tree rfl aj0 aEI ?_;simp[Vb,findF];refine⟨_,RZ ask,?_⟩;cases h0:(lV ask).2
 ·simp[h0]
  try rfl
 simp[h0];refine⟨_,aiu o.rules Q3 [.ref (.int ask)] (tB o ask) (fun k hk=>by simpa [tB,hk] using aqW o.rules[k] ask) hl,?_⟩;rcases Cm o.rules.length (tB o ask) with⟨h1,h2⟩|⟨m,hm,h1,h2,h3⟩
 ·rw[h1];simp
  try rfl
 ·rw[h1];have BS:¬((m:Int)<0):=by omega
  have htm:o.rules[m].term.OK:=ahi ho hm;simp[hm,DV,BS];refine⟨_,ahN _ htm,?_⟩;by_cases h4:(l7 o.rules[m].term).2=0<;>by_cases h5:(l7 o.rules[m].term).1=(lV ask).1<;>simp[h4,h5]<;>try rfl
def kF (o:Order)(ask:Int)(cs:List Cell):Cell×Int:=
 if(findF o ask).2≠0 then(dm,(findF o ask).2) else
    (if(lV ask).1=0∧(pE cs (findF o ask).1).known=true then⟨true,min (max (pE cs (findF o ask).1).n 0) 20000⟩ else pE cs (findF o ask).1,0)
theorem aAZ (o:Order)(ask:Int)(cs:List Cell)(ho:o.OK)(hl:o.rules.length≤4294967296):ao T acf [iY o,.int ask,cells cs] (.tup [cG (kF o ask cs).1,.int (kF o ask cs).2]):=by
 refine .of_tree rfl ajY aEF ?_;simp[U9];refine⟨_,aA1 o ask ho hl,?_⟩;have hf:(findF o ask).1.OK:=aqY ho ask;by_cases h:(findF o ask).2=0
 ·simp[h,kF];refine⟨_,aDg _ cs hf,_,RZ ask,?_⟩;generalize pE cs (findF o ask).1=c;obtain⟨kn,n⟩:=c;by_cases h1:(lV ask).1=0
  ·cases kn
   ·simp[h1,cG]
   ·by_cases h2:n<0
    ·have:min (max n 0) 20000=0:=by omega
     simp[h1,cG,h2,this];rfl
    ·by_cases h3:20000<n
     ·have:min (max n 0) 20000=20000:=by omega
      simp[h1,cG,h2,h3,this];rfl
     ·have:min (max n 0) 20000=n:=by omega
      simp[h1,cG,h2,h3,this];rfl
  ·simp[h1,cG]
 ·simp[h,kF]
  try rfl
end Rm
namespace Rm
open Go Go.Proofs Cx
theorem ag4 (b:Bool):ao T ac2 [.bool b] (cG (dF b)):=by
 refine .of_tree rfl akS aFF ?_;cases b<;>simp[V1,dF]<;>rfl
def dI (kind sign:Int)(x:Fact):Bool:=decide (x.kind=kind)&&decide (x.at_=sign)
def br (f:File)(kind sign:Int):Cell:=match f.facts.find? (dI kind sign) with|none=>dm|some x=>dF (decide (x.n≠0))
theorem uj {α:Type}{p:α→Bool}:∀{l:List α} {k:Nat} (hk:k<l.length),p l[k]=true→(∀j (hj:j<k),p (l[j]'(by omega))=false)→l.find? p=some l[k]
 |a::l,0,hk,h,hj=>by simp at h;simp[h]
 |a::l,k+1,hk,h,hj=>by
  have h0:=hj 0 (by omega);simp at h0;simp only[List.find?_cons,h0,List.getElem_cons_succ];exact uj (by simpa using hk) (by simpa using h) (fun j bF=>by simpa using hj (j+1) (by omega))
theorem wV {α:Type}{p:α→Bool}{l:List α}(h:∀j (hj:j<l.length),p l[j]=false):l.find? p=none:=by
 rw[List.find?_eq_none];intro x hx;obtain⟨j,hj,rfl⟩:=List.getElem_of_mem hx;rw[h j hj];decide
theorem DP (f:File)(kind sign:Int)(hl:f.facts.length≤4294967296):ao T acY [cm f,.int kind,.int sign] (cG (br f kind sign)):=by
 refine .of_tree rfl akO aFB ?_;simp[VY];refine .scan f.facts.length (fun k=>dI kind sign (f.facts.getD k default)=false) (fun k=>[.int k]) (fun _=>[cG dm]) ?_ (fun k hk hj ho=>?_) (fun k hk hj ho=>?_) (fun hj=>?_)
 ·simp
 ·have hw:=bj hk hl;simp[hk,dI] at ho;by_cases h1:f.facts[k].kind=kind<;>by_cases h2:f.facts[k].at_=sign
  ·exact absurd h2 (ho h1)
  all_goals simp[Tz,DC,hk,hw,h1,h2]
 ·have hw:=bj hk hl;have hf:br f kind sign=dF (decide (f.facts[k].n≠0)):=by
   unfold br;rw[uj hk (by simpa [hk] using ho) (fun j bF=>by have:=hj j bF;simpa [show j<f.facts.length by omega] using this)]
  simp[hk,dI] at ho;simp[Tz,DC,hk,hw,ho,hf];refine⟨_,ag4 _,?_⟩;simp
  try rfl
 ·have hf:br f kind sign=dm:=by
   unfold br;rw[wV (fun j bF=>by have:=hj j bF;simpa [bF] using this)]
  simp[Tz,DC,hf]
  try rfl
def fU (r:Realm)(c:Int):Int:=if aF c r.cities.length=true then(r.cities.getD c.toNat default).order else-1
theorem oW (r:Realm)(c:Int):ao T acM [bf r,.int c] (.int (fU r c)):=by
 refine .of_tree rfl akB aFo ?_;simp[VL,fU];refine⟨_,fu c r.cities.length,?_⟩;cases h:aF c r.cities.length
 ·simp[h]
 ·simp[aF] at h;have h1:c.toNat<r.cities.length:=by omega
  simp[h,h1]
def qy (day:Int)(l:List Sign):List Sign:=l.takeWhile fun s=>decide (s.day≤day)
def WN (day:Int)(l:List Act):List Act:=l.takeWhile fun s=>decide (s.day≤day)
def nQ (n:Nat)(a:Alter):Bool:=decide (a.at_≤(n:Int))
def j0 (n:Nat)(x:Fact):Bool:=aF x.at_ n
def bB (f:File)(day:Int):File:=
 ⟨f.bill,qy day f.signs,f.alters.filter (nQ (qy day f.signs).length),WN day f.acts,f.facts.filter (j0 (qy day f.signs).length)⟩
theorem D8 {α:Type}(p:α→Bool):∀(l:List α),∃m,m≤l.length∧l.takeWhile p=l.take m∧(∀k (hk:k<l.length),k<m→p l[k]=true)∧(∀hk:m<l.length,p l[m]=false)
 |[]=>⟨0,by simp,by simp,fun k hk=>by simp at hk,fun hk=>by simp at hk⟩
 |a::l=>by
  by_cases h:p a=true
  ·obtain⟨m,h1,h2,h3,h4⟩:=D8 p l;refine⟨m+1,by simp;omega,by simp[h,h2],fun k hk hm=>?_,fun hk=>?_⟩
   ·cases k with
    |zero=>simpa using h
    |succ k=>simpa using h3 k (by simpa using hk) (by omega)
   ·simpa using h4 (by simpa using hk)
  ·refine⟨0,by simp,by simp[h],fun k hk hm=>by omega,fun hk=>by simpa using h⟩
theorem v9 {α:Type}(p:α→Bool)(l:List α){k:Nat}(hk:k<l.length):(l.take (k+1)).filter p=(l.take k).filter p++if p l[k] then[l[k]] else[]:=by
 rw[List.take_succ_eq_append_getElem hk,List.filter_append]
 congr 1
 cases h:p l[k]<;>simp[h]
def zh (b:Bill)(w x y z:D):D:=.agg [.int b.drawer,.int b.drawee,.int b.payee,.int b.sum,.int b.currency,.int b.tenor.kind,.int b.tenor.n,.int b.tenor.unit,.int b.day,.int b.city,.int b.pay,.int b.need,.int b.rate,.int b.flags,.int b.parts,w,x,y,z]
def m9 {α:Type}(l:List α):D:=match l with|[]=>.list []|_=>.none
@[simp] theorem aMp {α:Type}:m9 ([]:List α)=.list []:=rfl
@[simp] theorem aMo {α:Type}(l:List α)(x:α):m9 (l++[x])=.none:=by cases l<;>rfl
theorem TQ (f:File)(day:Int)(h1:f.signs.length≤4294967295)(h2:f.acts.length≤4294967295)(h3:f.alters.length≤4294967295)(h4:f.facts.length≤4294967295):ao T acX [cm f,.int day] (cm (bB f day)):=by
 refine .of_tree rfl akN aFA ?_;simp[VX];obtain⟨m,hm,hS,Zi,w8⟩:=D8 (fun s:Sign=>decide (s.day≤day)) f.signs;obtain⟨n,hn,hA,hA1,hA2⟩:=D8 (fun s:Act=>decide (s.day≤day)) f.acts;refine aP.forRounds m (fun k=>[.int k]) (fun k=>[signs (f.signs.take k),zh f.bill (m9 (f.signs.take k)) (.list []) (.list []) (.list [])]) ?_ (fun k hk=>?_) ?_
 ·simp[zh,signs]
  try rfl
 ·have bo:k<f.signs.length:=by omega
  have hw:=bj bo (by omega);have hd:=Zi k bo hk;simp at hd;have eD:¬day<f.signs[k].day:=by omega
  have hle:(k:Int)+1≤4294967296:=by omega
  have ht:=List.take_succ_eq_append_getElem bo;rw[ht];have hlen:(f.signs.take k).length=k:=by simp;omega
  generalize f.signs.take k=A at*;simp[Tu,Dy,bo,hw,eD,hlen];exact⟨hle,by simp[signs],rfl⟩
 have hSl:(f.signs.take m).length≤4294967295:=by rw[List.length_take];omega
 have hAt:bB f day=⟨f.bill,f.signs.take m,f.alters.filter (nQ (f.signs.take m).length),f.acts.take n,f.facts.filter (j0 (f.signs.take m).length)⟩:=by
  unfold bB qy WN;rw[hS,hA]
 rw[hAt];generalize f.signs.take m=S at*;have hAl:(f.acts.take n).length≤4294967295:=by rw[List.length_take];omega
 by_cases eQ:m<f.signs.length
 case' pos=>
  have hd:=w8 eQ;simp at hd;simp[Tu,Dy,eQ,hd];generalize D.bool true=bb
 case' neg=>
  have sC:m=f.signs.length:=by omega
  simp[Tu,Dy,eQ,sC];generalize D.bool false=bb
 all_goals
  refine aP.forRounds n (fun k=>[.int k]) (fun k=>[acts (f.acts.take k),zh f.bill (m9 S) (.list []) (m9 (f.acts.take k)) (.list [])]) ?_ (fun k hk=>?_) ?_
  ·simp[acts]
  ·have bo:k<f.acts.length:=by omega
   have hw:=bj bo (by omega);have hd:=hA1 k bo hk;simp at hd;have eD:¬day<f.acts[k].day:=by omega
   have hle:(k:Int)+1≤4294967296:=by omega
   have ht:=List.take_succ_eq_append_getElem bo;rw[ht];have hlen:(f.acts.take k).length=k:=by simp;omega
   generalize f.acts.take k=A at*;simp[Tv,Dz,bo,hw,eD,hlen];exact⟨hle,by simp[acts],rfl⟩
  generalize f.acts.take n=A at*;by_cases ic:n<f.acts.length
  case' pos=>
   have hd:=hA2 ic;simp at hd;simp[Tv,Dz,ic,hd];generalize D.bool true=bc
  case' neg=>
   have oz:n=f.acts.length:=by omega
   simp[Tv,Dz,ic,oz];generalize D.bool false=bc
  all_goals
   refine aP.forRounds f.alters.length (fun k=>[.int k]) (fun k=>[zh f.bill (m9 S) (m9 ((f.alters.take k).filter (nQ S.length))) (m9 A) (.list []),alters ((f.alters.take k).filter (nQ S.length))]) ?_ (fun k hk=>?_) ?_
   ·simp[alters]
   ·have hw:=bj hk (by omega);have ht:=v9 (nQ S.length) f.alters hk;rw[ht];have hlen:((f.alters.take k).filter (nQ S.length)).length≤k:=Nat.le_trans (List.length_filter_le _ _) (by simp;omega);generalize (f.alters.take k).filter (nQ S.length)=B at*;by_cases hd:f.alters[k].at_≤(S.length:Int)
    ·simp[Tw,DA,nQ,hk,hw,hd];exact⟨by omega,rfl,by simp[alters]⟩
    ·simp[Tw,DA,nQ,hk,hw,hd]
   simp[Tw,DA];generalize f.alters.filter (nQ S.length)=B at*;refine aP.forRounds f.facts.length (fun k=>[.int k]) (fun k=>[zh f.bill (m9 S) (m9 B) (m9 A) (m9 ((f.facts.take k).filter (j0 S.length))),facts ((f.facts.take k).filter (j0 S.length))]) ?_ (fun k hk=>?_) ?_
   ·simp[facts]
   ·have hw:=bj hk (by omega);have ht:=v9 (j0 S.length) f.facts hk;rw[ht];have hlen:((f.facts.take k).filter (j0 S.length)).length≤k:=Nat.le_trans (List.length_filter_le _ _) (by simp;omega);generalize (f.facts.take k).filter (j0 S.length)=C at*;cases hd:aF f.facts[k].at_ S.length
    ·simp[Tx,DB,j0,hk,hw,hd];refine⟨_,oX _ _,?_⟩;simp[hd,hw]
    ·simp[Tx,DB,j0,hk,hw,hd];refine⟨_,oX _ _,?_⟩;simp[hd,hw];exact⟨by omega,rfl,by simp[facts]⟩
   simp[Tx,DB];rfl
end Rm
namespace Rm
open Go Go.Proofs Cx
def xK:List Int→Int
 |[]=>-1
 |x::l=>l.foldl min x
theorem aiA (x:Int)(l:List Int)(hl:l.length<4294967296):ao T adg [ints (x::l)] (.int (xK (x::l))):=by
 refine .of_tree rfl ak5 aFR ?_;have h0:¬((l.length:Int)+1<1):=by omega
 simp[Wd,h0,xK,ints];refine aP.forRounds l.length (fun k=>[.int ((l.take k).foldl min x),.int ((k:Int)+1)]) (fun k=>[]) ?_ (fun k hk=>?_) ?_
 ·simp
 ·have hw:IntKind.i64.wrap ((k:Int)+1+1)=(k:Int)+1+1:=bN (by omega);rw[List.take_succ_eq_append_getElem hk,List.foldl_append];generalize (l.take k).foldl min x=y;have ht:((k:Int)+1).toNat=k+1:=by omega
  have ak:(k:Int)+1<(l.length:Int)+1:=by omega
  simp[agW,Mr,hk,hw,ht,ak];refine⟨by omega,?_⟩;by_cases h:l[k]<y
  ·simp[h];omega
  ·simp[h];omega
 ·simp[agW,Mr]
def lQ (f:File)(n:Nat):List Int:=if f.bill.tenor.kind=1 then((f.signs.take n).filter (fun s=>decide (s.kind=1))).map (·.day) else[]
def kz (f:File)(n:Nat):List Int:=if f.bill.tenor.kind=1 then((f.acts.take n).filter (fun s=>decide (s.kind=1))).map (·.day) else[]
def qu (f:File)(a:Act):Bool:=decide (f.bill.tenor.kind=0)&&decide (a.kind=2)
def lP (f:File):Int:=match f.acts.find? (qu f) with|some a=>a.day|none=>xK (lQ f f.signs.length++kz f f.acts.length)
theorem ag3 (f:File)(h1:f.signs.length≤100000)(h2:f.acts.length≤100000):ao T acZ [cm f] (.int (lP f)):=by
 refine .of_tree rfl akP aFC ?_;simp[VZ];refine aP.forRounds f.signs.length (fun k=>[.none,.int k]) (fun k=>[ints (lQ f k)]) ?_ (fun k hk=>?_) ?_
 ·simp[lQ,ints]
 ·have hw:=bj hk (by omega);have hs:lQ f (k+1)=lQ f k++if f.bill.tenor.kind=1∧f.signs[k].kind=1 then[f.signs[k].day] else[]:=by
   unfold lQ;by_cases h:f.bill.tenor.kind=1
   ·simp only[if_pos h,v9 _ _ hk,List.map_append,h,true_and]
    congr 1
    by_cases h':f.signs[k].kind=1<;>simp[h']
   ·simp[h]
  have hlen:(lQ f k).length≤k:=by
   unfold lQ;split
   ·rw[List.length_map];exact Nat.le_trans (List.length_filter_le _ _) (by simp;omega)
   ·simp
  rw[hs];generalize lQ f k=A at*;by_cases hc:f.bill.tenor.kind=1∧f.signs[k].kind=1
  ·simp[TA,DD,hk,hw,hc];exact⟨by omega,by simp[ints]⟩
  ·simp[TA,DD,hk,hw,hc]
 ·have hlS:(lQ f f.signs.length).length≤100000:=by
   unfold lQ;split
   ·rw[List.length_map];exact Nat.le_trans (List.length_filter_le _ _) (by simp;omega)
   ·simp
  have hE:lP f=match f.acts.find? (qu f) with|some a=>a.day|none=>xK (lQ f f.signs.length++kz f f.acts.length):=rfl
  generalize lQ f f.signs.length=A at*;simp[TA,DD];refine aP.scan f.acts.length (fun k=>qu f (f.acts.getD k default)=false) (fun k=>[.int 0,.none,.int k]) (fun k=>[ints (A++kz f k)]) ?_ (fun k hk hj ho=>?_) (fun k hk hj ho=>?_) (fun hj=>?_)
  ·simp[kz,ints]
  ·have hw:=bj hk (by omega);have hs:kz f (k+1)=kz f k++if f.bill.tenor.kind=1∧f.acts[k].kind=1 then[f.acts[k].day] else[]:=by
        unfold kz;by_cases h:f.bill.tenor.kind=1
        ·simp only[if_pos h,v9 _ _ hk,List.map_append,h,true_and]
         congr 1
         by_cases h':f.acts[k].kind=1<;>simp[h']
        ·simp[h]
   have hlen:(kz f k).length≤k:=by
        unfold kz;split
        ·rw[List.length_map];exact Nat.le_trans (List.length_filter_le _ _) (by simp;omega)
        ·simp
   rw[hs];generalize kz f k=B at*;simp[qu,hk] at ho;by_cases hc:f.bill.tenor.kind=1∧f.acts[k].kind=1
   ·simp[DE,vV,hk,hw,hc];exact⟨by omega,by simp[ints]⟩
   ·have hn:¬(f.bill.tenor.kind=0∧f.acts[k].kind=2):=fun h=>ho h.1 h.2;simp[DE,vV,hk,hw,hc,hn]
  ·have hf:lP f=f.acts[k].day:=by
        rw[hE,uj hk (by simpa [hk] using ho) (fun j bF=>by have:=hj j bF;simpa [show j<f.acts.length by omega] using this)]
   simp[qu,hk] at ho;simp[DE,vV,hk,ho,hf]
  ·have hf:lP f=xK (A++kz f f.acts.length):=by
        rw[hE,wV (fun j bF=>by have:=hj j bF;simpa [bF] using this)]
   have hlA:(kz f f.acts.length).length≤100000:=by
        unfold kz;split
        ·rw[List.length_map];exact Nat.le_trans (List.length_filter_le _ _) (by simp;omega)
        ·simp
   rw[hf];have hL:(A++kz f f.acts.length).length≤200000:=by rw[List.length_append];omega
   generalize A++kz f f.acts.length=L at*;cases L with
   |nil=>simp[DE,vV,xK,ints]
   |cons x l=>
    have aG:¬((l.length:Int)+1=0):=by omega
    simp[DE,vV,aG];exact aiA x l (by simp at hL;omega)
end Rm
namespace Rm
open Go Go.Proofs Cx
def gz (g:Nat→Cell):D:=.list ((List.range 20).map fun i=>cG (g i))
theorem XQ {g g':Nat→Cell}(h:∀i,i<20→g i=g' i):gz g=gz g':=by
 unfold gz
 congr 1
 exact List.map_congr_left fun i hi=>by rw[h i (by simpa using hi)]
theorem XR (g:Nat→Cell)(k:Nat)(c:Cell):D.list ((gz g).l.set k (cG c))=gz (fun i=>if i=k then c else g i):=by
 unfold gz
 congr 1
 show((List.range 20).map fun i=>cG (g i)).set k (cG c)=_;apply List.ext_getElem
 ·simp
 ·intro i h1 h2;simp at h2;rw[List.getElem_set];by_cases h:k=i
  ·simp[h]
  ·have h':¬i=k:=fun e=>h e.symm;simp[h,h']
@[simp] theorem aKk (g:Nat→Cell):(gz g).l.length=20:=by
  show((List.range 20).map fun i=>cG (g i)).length=20;simp
theorem EB (g:Nat→Cell){k:Nat}(hk:k<20):(gz g).l[k]?.getD D.none=cG (g k):=by
 show((List.range 20).map fun i=>cG (g i))[k]?.getD D.none=cG (g k);simp[hk]
theorem alT (g:Nat→Cell){k:Nat}(hk:k<(gz g).l.length):(gz g).l[k]=cG (g k):=by
 have h:=EB g (k:=k) (by simpa using hk);rw[List.getElem?_eq_getElem hk] at h;exact h
theorem alV (g:Nat→Cell)(k:Nat)(c:Cell):(gz g).l.set k (cG c)=(gz (fun i=>if i=k then c else g i)).l:=congrArg D.l (XR g k c)
theorem alU (g:Nat→Cell):D.list (gz g).l=gz g:=rfl
@[simp] theorem aOk (x:Cell)(b:Bool)(n:Int):tH (cG x) 0 (D.agg [D.bool b,D.int n])=cG ⟨b,n⟩:=_root_.id rfl
def wU {α:Type}(l:List (Int×α))(val:α→Cell)(g0:Nat→Cell)(i:Nat):Cell:=match l.find? (fun p=>decide (p.1=(i:Int))) with|some p=>val p.2|none=>g0 i
def qe {α:Type}(enc:α→D)(p:Int×α):D:=.tup [.int p.1,enc p.2]
theorem abg {α:Type}{J o:Nat}{ps cO:List Nat}{a:PC}{ρ:Env}{Q:Out→Prop}(l:List (Int×α))(enc:α→D)(val:α→Cell)(g0:Nat→Cell)
 (nd:∀p q,p∈l→q∈l→p.1=q.1→p=q) (TY:∀p,p∈l→0≤p.1) (he:ρ.o J=.tup [.list [],.map (l.map fun p=>(.int p.1,enc p.2))]) (h0:ρ.o o=gz g0)
 (step:∀p,p∈l→∀g done,aI T (oZ [o] a) ((ρ.put ps (cO.map (qe enc p).tget) [o] [gz g]).setO J (.tup [.list (done++[qe enc p]),.map (l.map fun p=>(.int p.1,enc p.2))])) (fun y=>∃ρ',y=.next ρ'∧ρ'.o o=.list ((gz g).l.set p.1.toNat (cG (val p.2)))))
 (last:Q (.next (ρ.put [] [] [o] [gz (wU l val g0)]))):aP T (.meach J ps cO [o] a) ρ Q:=by
 have mq:gI (.map (l.map fun p=>((D.int p.1,enc p.2):D×D)))=l.map (qe enc):=by
  simp[gI,qe]
 refine .meachR _ he (fun done vo=>∃g:Nat→Cell,vo=[gz g]∧(∀p,p∈l→qe enc p∈done→g p.1.toNat=val p.2)∧∀i:Nat,(∀p,p∈l→qe enc p∈done→p.1≠i)→g i=g0 i) ⟨g0,by simp[h0],(fun p _ h=>by cases h),fun i _=>rfl⟩ (fun done x rest vo hp ⟨g,hv,m0,gm⟩=>?_) ⟨_,fun done hp vo ⟨g,hv,m0,gm⟩=>?_,last⟩
 ·subst hv;rw[mq] at hp;have hx:x∈l.map (qe enc):=hp.subset (by simp);obtain⟨p,fi,rfl⟩:=List.mem_map.mp hx;refine wy _ (fun y ⟨ρ',e,ho⟩=>⟨ρ',e,fun i=>if i=p.1.toNat then val p.2 else g i,by simp[ho,XR],fun q hq P0=>?_,fun i hi=>?_⟩) (step p fi g done)
  ·have P1:=TY q hq;have mu:=TY p fi;by_cases h:q.1=p.1
   ·rw[nd q p hq fi h];simp
   ·show(if q.1.toNat=p.1.toNat then val p.2 else g q.1.toNat)=val q.2;rw[if_neg (by omega)];rcases List.mem_append.mp P0 with h1|h1
    ·exact m0 q hq h1
    ·simp[qe] at h1;exact absurd h1.1 h
  ·have mu:=TY p fi;have di:=hi p fi (by simp);show(if i=p.1.toNat then val p.2 else g i)=g0 i;rw[if_neg (by omega)];exact gm i fun q hq P0=>hi q hq (by simp[P0])
 ·rw[hv,mq] at*
  congr 1
  refine XQ fun i hi=>?_;unfold wU;cases hf:l.find? (fun p=>decide (p.1=(i:Int))) with
  |some p=>
   have fi:=List.mem_of_find?_eq_some hf;have HO:p.1=(i:Int):=by simpa using List.find?_some hf
   have:=m0 p fi (hp.symm.subset (List.mem_map_of_mem fi));simp only;rw[←this,HO];rfl
  |none=>
   refine gm i fun p fi _=>?_;have:=List.find?_eq_none.mp hf p fi;simpa using this
@[simp] theorem aMO (a b:Int):dS (D.int a) (D.int b)=decide (a=b):=by
  show((a==b)&&true)=decide (a=b);rw[Bool.and_true];by_cases h:a=b<;>simp[h]
def Bg (n k:Int):Bool:=decide (dc .and .i64 n k≠0)
def vb (s:Sign)(due:Int):Int:=if due=-1 then 0 else s.day-due
def wC (f:File)(sign:Int):Bool:=(List.range f.alters.length).any fun k=>decide ((f.alters.getD k default).at_≤sign)
def dX (c:Case):Int:=if c.holder<0 then 0 else c.holder
def jS (c:Case)(s:Sign):List (Int×Int):=[(0,c.file.bill.sum),(1,c.file.bill.parts),(2,c.file.bill.tenor.kind),(3,c.file.bill.rate),(4,s.kind),(5,c.defence),(6,vb s c.due)]
def ky (r:Realm)(c:Case)(s:Sign):List (Int×Bool):=[(7,Bg c.file.bill.flags 1),(8,decide (c.file.bill.payee=-1)),(9,Bg c.file.bill.flags 4),(10,Bg c.file.bill.flags 2),(11,decide (fU r c.file.bill.city≠fU r c.file.bill.pay)),(12,wC c.file c.sign),(13,Bg s.flags 1),(14,decide (0<vb s c.due))]
def jA (r:Realm)(c:Case)(s:Sign):List Cell:=
 (jS c s).map (fun p=>⟨true,p.2⟩)++(ky r c s).map (fun p=>dF p.2)++
    [br c.file 0 c.sign,br c.file 1 c.sign,br c.file 2 c.sign,br c.file 3 (dX c),br c.file 4 (dX c)]
@[simp] theorem aJQ (x:Case):gi 19 (fe x)=cm x.file:=_root_.id rfl
@[simp] theorem aJO (x:Case):gi 15 (fe x)=dH x.file.bill:=_root_.id rfl
@[simp] theorem aJP (x:File):gi 15 (cm x)=dH x.bill:=_root_.id rfl
def gk (c:Case):Bool:=aF c.sign c.file.signs.length&&decide (-1≤c.holder)&&decide (dX c<c.file.signs.length)&&(decide (c.due=-1)||aF c.due 100001)
def dE (r:Realm)(c:Case):List Cell:=if gk c=true∧aF (c.file.signs.getD c.sign.toNat default).day 100001=true then jA r c (c.file.signs.getD c.sign.toNat default) else[]
theorem aCr (r:Realm)(c:Case)(h2:c.file.facts.length≤100000)(h3:c.file.alters.length≤100000):ao T ac0 [bf r,fe c] (cells (dE r c)):=by
 refine .of_tree rfl akQ aFE ?_;cases hs:aF c.sign c.file.signs.length
 ·have hv:dE r c=[]:=by unfold dE gk;rw[hs];simp
  rw[hv];simp[tL];refine⟨_,oX _ _,?_⟩;simp[hs];rfl
 by_cases hh:c.holder< -1
 ·have hv:dE r c=[]:=by unfold dE gk;rw[hs];simp;intros;omega
  rw[hv];simp[tL,hh];exact⟨⟨_,oX _ _⟩,rfl⟩
 by_cases hm:(c.file.signs.length:Int)≤dX c
 ·have hv:dE r c=[]:=by unfold dE gk;rw[hs];simp;intros;omega
  rw[hv];unfold dX at hm;simp[tL,hm];exact⟨⟨_,oX _ _⟩,rfl⟩
 by_cases hd:c.due≠-1∧aF c.due 100001=false
 ·have hv:dE r c=[]:=by unfold dE gk;rw[hs];simp[hd]
  rw[hv];unfold dX at hm;obtain⟨bm,dC⟩:=hd;simp[tL,hh,hm,bm];refine⟨_,oX _ _,?_⟩;simp[hs,hh,hm,bm];refine⟨_,oX _ _,?_⟩;simp[hs,hh,hm,bm,dC];rfl
 have hcb:gk c=true:=by
  unfold gk;rw[hs];simp;refine⟨⟨by omega,by omega⟩,?_⟩;by_cases h:c.due=-1
  ·exact .inl h
  ·right;cases hb:aF c.due 100001
   ·exact absurd ⟨h,hb⟩ hd
   ·rfl
 have hlen:c.sign.toNat<c.file.signs.length:=by simp[aF] at hs;omega
 have dZ:0≤c.sign∧c.sign<(c.file.signs.length:Int):=by simpa [aF] using hs
 obtain⟨s,uQ⟩:∃s:Sign,s=c.file.signs[c.sign.toNat]:=⟨_,rfl⟩
 have pY:c.file.signs.getD c.sign.toNat default=s:=by rw[uQ];simp[hlen]
 have hv:dE r c=if aF s.day 100001=true then jA r c s else[]:=by
  unfold dE;rw[pY,hcb];simp
 rw[hv];unfold dX at hm;by_cases pO:c.due=-1
 case' pos=>
  have Zw:(c.due=-1)=True:=eq_true pO;simp[tL,hh,hm,Zw];refine⟨_,oX _ _,?_⟩;simp[hs,hh,hm,Zw,hlen,←uQ,dZ]
 case' neg=>
  have Bx:aF c.due 100001=true:=by
   cases hb:aF c.due 100001
   ·exact absurd ⟨pO,hb⟩ hd
   ·rfl
  simp[tL,hh,hm,pO];refine⟨_,oX _ _,?_⟩;simp[hs,hh,hm,pO];refine⟨_,oX _ _,?_⟩;simp[hs,hh,hm,pO,Bx,hlen,←uQ,dZ]
 all_goals
  refine⟨_,oX _ _,?_⟩;cases uC:aF s.day 100001
  ·simp[uC];rfl
  simp[uC,kh];refine abg (jS c s) D.int (fun n=>⟨true,n⟩) (fun _=>dm) ?_ ?_ ?_ ?_ (fun p hp g done=>?_) ?_
  ·intro p q hp hq h;simp[jS] at hp hq;rcases hp with rfl|rfl|rfl|rfl|rfl|rfl|rfl<;>rcases hq with rfl|rfl|rfl|rfl|rfl|rfl|rfl<;>first|rfl|(simp at h)
  ·intro p hp;simp[jS] at hp;rcases hp with rfl|rfl|rfl|rfl|rfl|rfl|rfl<;>simp
  ·have Pl:(if c.due=-1 then(0:Int) else IntKind.i64.wrap (s.day-c.due))=vb s c.due:=by
        unfold vb;by_cases h:c.due=-1
        ·simp[h]
        ·have Bx:aF c.due 100001=true:=by
          cases hb:aF c.due 100001
          ·exact absurd ⟨h,hb⟩ hd
          ·rfl
         simp[aF] at Bx uC;rw[if_neg h,if_neg h];exact bN (by omega)
   simp[jS,kh,hlen,←uQ];rw[←Pl];by_cases h:c.due=-1<;>simp[h]
  ·simp[gz];rfl
  ·have hr:0≤p.1∧p.1<20:=by
        simp[jS] at hp;rcases hp with rfl|rfl|rfl|rfl|rfl|rfl|rfl<;>simp
   have hk:p.1.toNat<20:=by omega
   simp[aCh,TB,qe,EB g hk];exact hr
  have av9:∀k (hk:k<c.file.alters.length),ao T ac1 (nY c.file.alters[k]::[.ref (fe c)]) (.bool (decide ((c.file.alters.getD k default).at_≤c.sign))):=fun k hk=>by
   refine .of_tree rfl akR aFD ?_;simp[V0,hk]
  simp;refine⟨_,ail c.file.alters _ _ _ av9 (by omega),_,oW r _,_,oW r _,?_⟩;have Pl:(if c.due=-1 then(0:Int) else IntKind.i64.wrap (s.day-c.due))=vb s c.due:=by
   unfold vb;by_cases h:c.due=-1
   ·simp[h]
   ·have Bx:aF c.due 100001=true:=by
     cases hb:aF c.due 100001
     ·exact absurd ⟨h,hb⟩ hd
     ·rfl
    simp[aF] at Bx uC;rw[if_neg h,if_neg h];exact bN (by omega)
  have Pk:cells (jA r c s)=gz (fun i=>if i=15 then br c.file 0 c.sign else if i=16 then br c.file 1 c.sign else if i=17 then br c.file 2 c.sign else if i=18 then br c.file 3 (dX c) else if i=19 then br c.file 4 (dX c) else wU (ky r c s) dF (wU (jS c s) (fun n=>⟨true,n⟩) (fun _=>dm)) i):=by
   rfl
  generalize wU (jS c s) (fun n=>(⟨true,n⟩:Cell)) (fun _=>dm)=g1 at*;refine abg (ky r c s) D.bool dF g1 ?_ ?_ ?_ ?_ (fun p hp g done=>?_) ?_
  ·intro p q hp hq h;simp[ky] at hp hq;rcases hp with rfl|rfl|rfl|rfl|rfl|rfl|rfl|rfl<;>rcases hq with rfl|rfl|rfl|rfl|rfl|rfl|rfl|rfl<;>first|rfl|(simp at h)
  ·intro p hp;simp[ky] at hp;rcases hp with rfl|rfl|rfl|rfl|rfl|rfl|rfl|rfl<;>simp
  ·simp[ky,kh,hlen,←uQ,Bg];rw[←Pl];by_cases h:c.due=-1<;>simp[h,wC]
  ·simp
  ·have hr:0≤p.1∧p.1<20:=by
        simp[ky] at hp;rcases hp with rfl|rfl|rfl|rfl|rfl|rfl|rfl|rfl<;>simp
   have hk:p.1.toNat<20:=by omega
   simp[aCi,TC,qe,EB g hk];refine⟨_,ag4 _,?_⟩;simp[EB g hk];exact hr
  simp;generalize wU (ky r c s) dF g1=g2 at*;have hho:(if c.holder<0 then D.int 0 else D.int c.holder)=D.int (dX c):=by
   unfold dX;split<;>rfl
  rw[hho];refine⟨_,DP _ _ _ (by omega),_,DP _ _ _ (by omega),_,DP _ _ _ (by omega),_,DP _ _ _ (by omega),_,DP _ _ _ (by omega),?_⟩;rw[Pk];simp only[alT,aC3,alV,alU];refine XQ fun i hi=>?_;by_cases G8:i=15
  ·subst G8;simp
  by_cases G9:i=16
  ·subst G9;simp
  by_cases Ha:i=17
  ·subst Ha;simp
  by_cases Hb:i=18
  ·subst Hb;simp
  by_cases YW:i=19
  ·subst YW;simp
  simp[G8,G9,Ha,Hb,YW]
end Rm
namespace Rm
open Go Go.Proofs Cx
def IW (n:Nat)(x:Int):Bool:=decide (x<0)||decide ((n:Int)≤x)
def ll (r:Realm)(a q:Int)(l:List Int):Bool:=
 !(decide (a<0)||decide ((r.orders.length:Int)≤a)||decide (q<0)||decide (22≤q)||decide (l.length≠5))&& !((List.range l.length).any fun k=>IW r.orders.length (l.getD k 0))
theorem aqZ (x n:Int):ao T QU [.int x,.ref (.int n)] (.bool (decide (x<0)||decide (n≤x))):=by
 refine .of_tree rfl ajz aD4 ?_;by_cases h:x<0<;>simp[UM,h]
theorem YA (r:Realm)(a q:Int)(l:List Int)(hl:l.length≤100000):ao T abX [bf r,.int a,.int q,ints l] (.bool (ll r a q l)):=by
 refine .of_tree rfl ajy aD5 ?_;by_cases h1:a<0
 ·simp[tK,ll,h1]
 by_cases h2:(r.orders.length:Int)≤a
 ·simp[tK,ll,h1,h2]
 by_cases h3:q<0
 ·simp[tK,ll,h1,h2,h3]
 by_cases h4:22≤q
 ·simp[tK,ll,h1,h2,h3,h4]
 by_cases h5:(l.length:Int)=5
 ·have Hd:l.length=5:=by omega
  simp[tK,h1,h2,h3,h4,Hd];refine⟨_,aim l QU [.ref (.int r.orders.length)] (fun k=>IW r.orders.length (l.getD k 0)) (fun k hk=>by simpa [IW,hk] using aqZ l[k] r.orders.length) (by omega),?_⟩;simp only[ll,Hd];simp[h1,h2,h3,h4]
 ·have Hd:¬l.length=5:=by omega
  simp[tK,ll,h1,h2,h3,h4,Hd];intro h;omega
theorem OG {r:Realm}{a q:Int}{l:List Int}(h:ll r a q l=true):(0≤a∧a<r.orders.length)∧l.length=5∧(∀x,x∈l→0≤x∧x<r.orders.length)∧∀b:Int,0≤b→b<r.orders.length→ll r b q l=true:=by
 unfold ll at h ⊢;rw[Bool.and_eq_true] at h;obtain⟨h1,h2⟩:=h;simp at h1;refine⟨by omega,h1.2,fun x hx=>?_,fun b jc dh=>?_⟩
 ·obtain⟨k,hk,rfl⟩:=List.getElem_of_mem hx;simp[IW] at h2;have:=h2 k hk;simp[hk] at this;omega
 ·rw[h2];simp;omega
def y5 (r:Realm):Prop:=∀o,o∈r.orders→o.choices.length≤100000∧∀ch,ch∈o.choices→0≤ch.by_∧ch.by_<5
def vc (q:Int)(ch:Choice):Bool:=decide (ch.ask=q)&&decide (ch.by_≠0)
def nm (r:Realm)(a:Int):Order:=r.orders.getD a.toNat default
def fE (r:Realm)(a q:Int)(l:List Int):Int×Bool:=
 (match(nm r a).choices.find? (vc q) with|some ch=>l.getD ch.by_.toNat 0|none=>a,match(nm r a).choices.find? (vc q) with|some ch=>ch.whole|none=>false)
theorem W4 (r:Realm)(oo:y5 r)(a q:Int)(l:List Int)(hl:l.length≤100000)(hf:ll r a q l=true):
 ao T abW [bf r,.int a,.int q,ints l] (.tup [.int (fE r a q l).1,.bool (fE r a q l).2])∧0≤(fE r a q l).1∧(fE r a q l).1<r.orders.length:=by
 obtain⟨ha,ZR,hx,_⟩:=OG hf;have pJ:a.toNat<r.orders.length:=by omega
 obtain⟨ba,pM⟩:=oo _ (List.getElem_mem pJ);obtain⟨o,ho⟩:∃o,o=r.orders[a.toNat]:=⟨_,rfl⟩
 rw[←ho] at ba pM;have PL:nm r a=o:=by rw[ho];simp[nm,pJ]
 unfold fE;rw[PL];refine⟨?_,?_⟩
 ·refine .of_tree rfl ajx aD3 ?_;simp[UL];refine⟨_,YA r a q l hl,?_⟩;simp[hf,pJ,←ho,ha];refine aP.scan o.choices.length (fun k=>vc q (o.choices.getD k default)=false) (fun k=>[.int 0,.bool false,.int k]) (fun _=>[]) ?_ (fun k hk hj aE=>?_) (fun k hk hj aE=>?_) (fun hj=>?_)
  ·simp
  ·have hw:=bj hk (by omega);have hn:¬(o.choices[k].ask=q∧¬o.choices[k].by_=0):=by simpa [vc,hk] using aE
   simp[SU,C0,pJ,←ho,hk,hw,hn]
  ·have j7:=uj hk (by simpa [hk] using aE) (fun j bF=>by have:=hj j bF;simpa [show j<o.choices.length by omega] using this);rw[j7];have hc:o.choices[k].ask=q∧¬o.choices[k].by_=0:=by simpa [vc,hk] using aE
   have hb:=pM _ (List.getElem_mem hk);have Hk:o.choices[k].by_.toNat<l.length:=by omega
   simp[SU,C0,pJ,←ho,hk,hc,ints,Hk];omega
  ·have j7:=wV (l:=o.choices) (p:=vc q) (fun j bF=>by have:=hj j bF;simpa [bF] using this);rw[j7];simp[SU,C0,pJ,←ho]
 ·cases j7:o.choices.find? (vc q) with
  |none=>exact ha
  |some ch=>
   have hb:=pM _ (List.mem_of_find?_eq_some j7);have Hk:ch.by_.toNat<l.length:=by omega
   simp[Hk];exact hx _ (List.getElem_mem Hk)
theorem R7:∀(N:Nat) (l:List Int),l.Nodup→(∀x,x∈l→0≤x∧x<(N:Int))→l.length≤N
 |0,l,hn,h=>by
  cases l with
  |nil=>simp
  |cons a l=>have:=h a (by simp);omega
 |N+1,l,hn,h=>by
  by_cases hm:(N:Int)∈l
  ·have h1:=R7 N (l.erase (N:Int)) (hn.erase _) (fun x hx=>by
    have cU:=(hn.mem_erase_iff).mp hx;have:=h x cU.2;have aG:=cU.1;omega)
   rw[List.length_erase_of_mem hm] at h1;omega
  ·have h1:=R7 N l hn (fun x hx=>by
    have:=h x hx;have aG:x≠(N:Int):=fun e=>hm (e▸hx);omega)
   omega
def cY (l:List Int):Int:=l.getD (l.length-1) 0
def ke (r:Realm)(q:Int)(l:List Int):Nat→List Int→List Int×Int
 |0,p=>(p,0)
 |n+1,p=>
  if(fE r (cY p) q l).1=cY p then(p,0)
  else if(fE r (cY p) q l).2=false∨(hasB p (fE r (cY p) q l).1=true∧(nm r (fE r (cY p) q l).1).accepts=true) then(p++[(fE r (cY p) q l).1],0)
  else if hasB p (fE r (cY p) q l).1=true then(p++[(fE r (cY p) q l).1],12)
  else ke r q l n (p++[(fE r (cY p) q l).1])
theorem QD (r:Realm)(q:Int)(l:List Int)(n:Nat)(p:List Int):ke r q l (n+1) p=
 if(fE r (cY p) q l).1=cY p then(p,0)
 else if(fE r (cY p) q l).2=false∨(hasB p (fE r (cY p) q l).1=true∧(nm r (fE r (cY p) q l).1).accepts=true) then(p++[(fE r (cY p) q l).1],0)
 else if hasB p (fE r (cY p) q l).1=true then(p++[(fE r (cY p) q l).1],12)
 else ke r q l n (p++[(fE r (cY p) q l).1]):=rfl
def iy (r:Realm)(a q:Int)(l:List Int):List Int×Int:=if ll r a q l=true∧l.getD 0 0=a then ke r q l r.orders.length [a] else([],1)
theorem aiz (r:Realm)(oo:y5 r)(hn:r.orders.length≤100000)(a q:Int)(l:List Int)(hl:l.length≤100000):ao T abV [bf r,.int a,.int q,ints l] (.tup [ints (iy r a q l).1,.int (iy r a q l).2]):=by
 refine .of_tree rfl ajw aD2 ?_;simp[UK];refine⟨_,YA r a q l hl,?_⟩;cases hf:ll r a q l
 ·simp[iy,hf];rfl
 obtain⟨ha,ZR,hx,xb⟩:=OG hf;have h0:0<l.length:=by omega
 by_cases BL:l[0]=a
 ·have hE:iy r a q l=ke r q l r.orders.length [a]:=by unfold iy;rw[if_pos ⟨hf,by simp[h0,BL]⟩]
  rw[hE];simp[h0,BL,ints];refine aP.forLoop (α:=Nat×List Int) (fun s vr vo=>vr=[.list [],.int 0,.none]∧vo=[ints s.2]∧s.2.Nodup∧(∀x,x∈s.2→0≤x∧x<(r.orders.length:Int))∧s.2≠[]∧s.1+s.2.length=r.orders.length+1∧ke r q l s.1 s.2=ke r q l r.orders.length [a]) (fun s=>s.1) (r.orders.length,[a]) ?_ ?_
  ·simp[ints];exact ha
  ·rintro⟨n,p⟩ vr vo ⟨rfl,rfl,bC,bE,aG,hlen,BM⟩;simp only at*;have fi:p.length≤r.orders.length:=R7 _ p bC bE;have awD:0<p.length:=List.length_pos_iff.mpr aG;obtain⟨m,rfl⟩:∃m,n=m+1:=⟨n-1,by omega⟩
   have ak:p.length-1<p.length:=by omega
   have j9:cY p=p[p.length-1]:=by simp[cY,ak]
   have uG:=bE _ (List.getElem_mem ak);rw[←j9] at uG;obtain⟨OZ,gp,gq⟩:=W4 r oo (cY p) q l hl (xb _ uG.1 uG.2);have Pu:((p.length:Int)-1).toNat=p.length-1:=by omega
   have Qq:IntKind.i64.wrap ((p.length:Int)-1)=(p.length:Int)-1:=bN (by omega);rw[←BM,QD];obtain⟨L,hL⟩:∃L,L=fE r (cY p) q l:=⟨_,rfl⟩
   rw[←hL] at OZ gp gq ⊢;obtain⟨to,whole⟩:=L;simp only at OZ gp gq;have uT:to.toNat<r.orders.length:=by omega
   have PL:nm r to=r.orders[to.toNat]:=by simp[nm,uT]
   simp only[PL];simp[aCc,SS,Qq,Pu,ak,←j9,ints];refine⟨by omega,_,OZ,?_⟩;by_cases h1:to=cY p
   ·simp[h1]
   simp[h1];refine⟨_,qD p to (by omega),by omega,?_⟩;cases whole
   ·simp
   cases h2:hasB p to
   ·have cT:to∉p:=fun hm=>by
     have:hasB p to=true:=by simp[hasB,hm]
     rw[h2] at this;cases this
    simp[h2];refine⟨m,by omega,p++[to],by simp,?_,?_,by simp,by simp;omega,rfl⟩
    ·exact List.nodup_append.mpr ⟨bC,by simp,fun x hx y hy=>by simp at hy;subst hy;exact fun e=>cT (e▸hx)⟩
    ·intro x hx;rcases List.mem_append.mp hx with h|h
     ·exact bE x h
     ·simp at h;subst h;exact⟨gp,gq⟩
   ·cases h3:r.orders[to.toNat].accepts<;>simp[h2,h3,uT]<;>omega
 ·have hE:iy r a q l=([],1):=by unfold iy;rw[if_neg (by simp[h0,BL])]
  rw[hE];simp[h0,BL];rfl
end Rm
namespace Rm
open Go Go.Proofs Cx
def cV (f:File)(i:Int):Sign:=f.signs.getD i.toNat default
def jj (r:Realm)(forum:Int)(c:Case):List Int:=[forum,fU r (cV c.file c.sign).city,fU r c.file.bill.pay,fU r c.file.bill.city,fU r (r.firms.getD (cV c.file c.sign).who.toNat default).city]
def lg (r:Realm)(forum:Int)(c:Case):Prop:=(cV c.file c.sign).who<0∨(r.firms.length:Int)≤(cV c.file c.sign).who∨forum<0∨(r.orders.length:Int)≤forum
instance (r:Realm) (forum:Int) (c:Case):Decidable (lg r forum c):=by unfold lg;infer_instance
def fV (r:Realm)(forum:Int)(c:Case):List Int:=if lg r forum c then[] else if hasB (jj r forum c) (-1)=true then[] else jj r forum c
@[simp] theorem aKb (r:Realm)(x:Int):wG (bf r) x=fU r x:=by
  unfold wG fU aF;by_cases h:0≤x∧x<(r.cities.length:Int)
  ·have hx:x.toNat<r.cities.length:=by omega
   rw[if_pos (by simpa using h),if_pos (by simpa using h)];simp[hx]
  ·rw[if_neg (by simpa using h),if_neg (by simpa using h)]
theorem af3 (r:Realm)(forum:Int)(c:Case)(h1:c.sign.toNat<c.file.signs.length):R8 [bf r,.int forum,fe c]=ints (fV r forum c):=by
 have hs:cV c.file c.sign=c.file.signs[c.sign.toNat]:=by simp[cV,h1]
 unfold R8 fV;simp[h1];by_cases hb:lg r forum c
 ·rw[if_pos (by simpa [lg,hs] using hb),if_pos hb];rfl
 ·rw[if_neg (by simpa [lg,hs] using hb),if_neg hb];have uW:(cV c.file c.sign).who.toNat<r.firms.length:=by unfold lg at hb;omega
  have aax:c.file.signs[c.sign.toNat].who.toNat<r.firms.length:=by rw[←hs];exact uW
  have jF:jj r forum c=[forum,fU r c.file.signs[c.sign.toNat].city,fU r c.file.bill.pay,fU r c.file.bill.city,fU r r.firms[c.file.signs[c.sign.toNat].who.toNat].city]:=by
   simp[jj,hs,aax]
  have cP:∀l:List Int,hasB l (-1)=true↔-1∈l:=fun l=>by simp[hasB]
  rw[jF];simp[aax];split
  ·rename_i h;rw[if_pos ((cP _).mpr (by simpa using h))];rfl
  ·rename_i h;rw[if_neg (fun h'=>h (by simpa using(cP _).mp h'))]
theorem aBl (r:Realm)(forum:Int)(c:Case)(h1:0≤c.sign∧c.sign<c.file.signs.length):ao T azF [bf r,.int forum,fe c] (ints (fV r forum c)):=by
 have cD:c.sign.toNat<c.file.signs.length:=by omega
 rw[←af3 r forum c cD];have hs:cV c.file c.sign=c.file.signs[c.sign.toNat]:=by simp[cV,cD]
 refine ao.of_nsl rfl aDF aDG ?_;rw[af3 r forum c cD];by_cases hb:lg r forum c
 ·refine .inr ⟨by simp[fV,hb];rfl,?_⟩;have fQ:=hb;simp[lg,hs] at fQ;simp[MQ,h1,cD]
  intros;omega
 have pK:fV r forum c=if hasB (jj r forum c) (-1)=true then[] else jj r forum c:=by unfold fV;rw[if_neg hb]
 have fQ:=hb;simp[lg,hs] at fQ;have hw:c.file.signs[c.sign.toNat].who.toNat<r.firms.length:=by omega
 have hC:=qD (jj r forum c) (-1) (by simp[jj]);cases hh:hasB (jj r forum c) (-1)<;>rw[hh] at hC<;>simp[jj,ints,hs,hw] at hC
 ·refine .inl ⟨(jj r forum c).map .int,by simp[jj],by rw[pK,hh];rfl,?_⟩;simp[Uy,h1,cD,hw];rw[if_neg (by omega)];refine⟨_,oW r _,_,oW r _,_,oW r _,by omega,_,oW r _,_,by simpa using hC,?_⟩;simp[jj,hs,hw]
 ·refine .inr ⟨by rw[pK,hh];rfl,?_⟩;simp[MQ,h1,cD,hw]
  intros
  refine⟨_,oW r _,_,oW r _,_,oW r _,by omega,_,oW r _,_,by simpa using hC,?_⟩;simp
end Rm
namespace Rm
open Go Go.Proofs Cx
structure Right (r:Realm):Prop where
 by_:y5 r
 len:r.orders.length≤100000
 ok:∀o,o∈r.orders→o.OK∧o.rules.length≤100000
structure FewS (f:File):Prop where
 signs:f.signs.length≤1000
 alters:f.alters.length≤1000
 acts:f.acts.length≤1000
 facts:f.facts.length≤1000
theorem ah4 {α:Type}(p:α→Bool)(l:List α):(l.takeWhile p).length≤l.length:=by
 obtain⟨m,h1,h2,_⟩:=D8 p l;rw[h2,List.length_take];omega
theorem FewS.at_ {f:File}(h:FewS f)(day:Int):FewS (bB f day):=
 ⟨Nat.le_trans (ah4 _ _) h.1,Nat.le_trans (List.length_filter_le _ _) h.2,Nat.le_trans (ah4 _ _) h.3,Nat.le_trans (List.length_filter_le _ _) h.4⟩
def aK (c:Case):Case:={c with file:=bB c.file c.day}
@[simp] theorem aJ1 (x:File)(a0 a1 a2 a3 a4 a5 a6 a7 a8 a9 iS iT iU iV iW jV jW jX kE:D)(s h d u y:Int):gi 24 (D.agg (db [a0,a1,a2,a3,a4,a5,a6,a7,a8,a9,iS,iT,iU,iV,iW,jV,jW,jX,kE,.int s,.int h,.int d,.int u,.int y] 0 [.int x.bill.drawer,.int x.bill.drawee,.int x.bill.payee,.int x.bill.sum,.int x.bill.currency,.int x.bill.tenor.kind,.int x.bill.tenor.n,.int x.bill.tenor.unit,.int x.bill.day,.int x.bill.city,.int x.bill.pay,.int x.bill.need,.int x.bill.rate,.int x.bill.flags,.int x.bill.parts,signs x.signs,alters x.alters,acts x.acts,facts x.facts]))=fe ⟨x,s,h,d,u,y⟩:=_root_.id rfl
theorem aja (r:Realm)(c:Case)(hf:FewS c.file):ao T abG [bf r,fe c] (.tup [fe (aK c),cells (dE r (aK c))]):=by
 refine .of_tree rfl ajk aDE ?_;simp[Ux];have h1:=hf.1;have h2:=hf.2;have h3:=hf.3;have h4:=hf.4;refine⟨_,TQ c.file c.day (by omega) (by omega) (by omega) (by omega),?_⟩;have Hq:=hf.at_ c.day;have h5:=Hq.4;have h6:=Hq.2;simp;exact⟨aCr r (aK c) (by show(bB c.file c.day).facts.length≤_;omega) (by show(bB c.file c.day).alters.length≤_;omega),(congrArg (gi 24) (aA4 (aK c) _ _ _ _ _ _ _ _ _ _ _ _ _ _ _ _ _ _ _ _ _ _ _ _)).trans (aiW (aK c))⟩
theorem aGA {r:Realm}{c:Case}(h:dE r c≠[]):0≤c.sign∧c.sign<c.file.signs.length:=by
 unfold dE at h;split at h
 ·rename_i hh;have h1:=hh.1;unfold gk at h1;simp[aF] at h1;omega
 ·exact absurd rfl h
theorem aaT (r:Realm)(oo:y5 r)(q:Int)(l:List Int)(hl:l.length≤100000)(xb:∀b:Int,0≤b→b<r.orders.length→ll r b q l=true):∀(n:Nat) (p:List Int),p≠[]→(∀x,x∈p→0≤x∧x<(r.orders.length:Int))→
 (ke r q l n p).1≠[]∧∀x,x∈(ke r q l n p).1→0≤x∧x<(r.orders.length:Int)
 |0,p,aG,hp=>⟨aG,hp⟩
 |n+1,p,aG,hp=>by
  have ak:p.length-1<p.length:=by have:=List.length_pos_iff.mpr aG;omega
  have j9:cY p=p[p.length-1]:=by simp[cY,ak]
  have uG:=hp _ (List.getElem_mem ak);rw[←j9] at uG;obtain⟨_,ht⟩:=W4 r oo (cY p) q l hl (xb _ uG.1 uG.2)
  have aS:∀x,x∈p++[(fE r (cY p) q l).1]→0≤x∧x<(r.orders.length:Int):=fun x hx=>by
   rcases List.mem_append.mp hx with h|h
   ·exact hp x h
   ·simp at h;subst h;exact ht
  rw[QD];split
  ·exact⟨aG,hp⟩
  split
  ·exact⟨by simp,aS⟩
  split
  ·exact⟨by simp,aS⟩
  ·exact aaT r oo q l hl xb n _ (by simp) aS
theorem aaS {r:Realm}(hr:Right r){a q:Int}{l:List Int}(hl:l.length≤100000)(h:(iy r a q l).2=0):(iy r a q l).1≠[]∧0≤cY (iy r a q l).1∧cY (iy r a q l).1<r.orders.length:=by
 unfold iy at h ⊢;split at h
 ·rename_i hh;rw[if_pos hh];obtain⟨ha,ZR,hx,xb⟩:=OG hh.1;obtain⟨h1,h2⟩:=aaT r hr.by_ q l hl xb r.orders.length [a] (by simp) (fun x hx=>by simp at hx;subst hx;exact ha);refine⟨h1,?_⟩;have ak:(ke r q l r.orders.length [a]).1.length-1<(ke r q l r.orders.length [a]).1.length:=by have:=List.length_pos_iff.mpr h1;omega
  have j9:cY (ke r q l r.orders.length [a]).1=(ke r q l r.orders.length [a]).1[(ke r q l r.orders.length [a]).1.length-1]:=by simp[cY,ak]
  rw[j9];exact h2 _ (List.getElem_mem ak)
 ·cases h
theorem aaU (r:Realm)(q:Int)(l:List Int):∀(n:Nat) (p:List Int),(ke r q l n p).1.length≤p.length+n
 |0,p=>by simp[ke]
 |n+1,p=>by
  rw[QD];split
  ·simp
  split
  ·simp
  split
  ·simp
  ·have:=aaU r q l n (p++[(fE r (cY p) q l).1]);simp at this;omega
theorem axN (r:Realm)(a q:Int)(l:List Int):(iy r a q l).1.length≤1+r.orders.length:=by
 unfold iy;split
 ·exact aaU r q l _ [a]
 ·simp
@[simp] theorem aOh (a b c d e x:D):db [a,b,c,d,e] 2 [x]=[a,b,x,d,e]:=_root_.id rfl
@[simp] theorem aOi (a b c d e x:D):db [a,b,c,d,e] 3 [x]=[a,b,c,x,e]:=_root_.id rfl
@[simp] theorem aOj (a b c d e x:D):db [a,b,c,d,e] 4 [x]=[a,b,c,d,x]:=_root_.id rfl
def Rf:Said:=⟨dm,-1,[],1⟩
def ew (r:Realm)(forum q:Int)(c:Case):Said×List Cell:=
 if dE r (aK c)=[] then(Rf,[]) else if(lV q).2=false then(Rf,[]) else if fV r forum (aK c)=[] then(Rf,[]) else
    (⟨dm,if(iy r forum q (fV r forum (aK c))).2=0 then cY (iy r forum q (fV r forum (aK c))).1 else-1,(iy r forum q (fV r forum (aK c))).1,(iy r forum q (fV r forum (aK c))).2⟩,dE r (aK c))
theorem af4 (r:Realm)(forum:Int)(c:Case):(fV r forum c).length≤5:=by
 unfold fV;split
 ·simp
 split<;>simp[jj]
theorem ai8 (r:Realm)(hr:Right r)(forum q:Int)(c:Case)(hf:FewS c.file):ao T abF [bf r,.int forum,.int q,fe c] (.tup [kG (ew r forum q c).1,cells (ew r forum q c).2]):=by
 refine .of_tree rfl ajj aDD ?_;simp[Uw];refine⟨_,aja r c hf,?_⟩;by_cases hv:dE r (aK c)=[]
 ·simp[hv,ew];exact⟨rfl,rfl⟩
 simp[hv,ew];refine⟨_,RZ q,?_⟩;cases hq:(lV q).2
 ·simp[hq];exact⟨rfl,rfl⟩
 simp[hq];refine⟨_,aBl r forum (aK c) (aGA hv),?_⟩;by_cases hp:fV r forum (aK c)=[]
 ·simp[hp];exact⟨rfl,rfl⟩
 have fi:=af4 r forum (aK c);have aG:ints (fV r forum (aK c))≠.list []:=fun e=>hp (by simpa [ints] using e);simp[hp];generalize fV r forum (aK c)=l at*;refine⟨_,aiz r hr.by_ hr.len forum q l (by omega),?_⟩;have hlen:=axN r forum q l;have BM:=aaS hr (a:=forum) (q:=q) (l:=l) (by omega);have PQ:=hr.len;generalize iy r forum q l=L at*;obtain⟨path,err⟩:=L;simp only at*;by_cases he:err=0
 ·obtain⟨h1,h2⟩:=BM he;have awD:=List.length_pos_iff.mpr h1;have Qq:IntKind.i64.wrap ((path.length:Int)-1)=(path.length:Int)-1:=bN (by omega);have Pu:((path.length:Int)-1).toNat=path.length-1:=by omega
  have ak:path.length-1<path.length:=by omega
  have j9:cY path=path[path.length-1]:=by simp[cY,ak]
  simp[he,Qq,Pu,ak,←j9];exact⟨by omega,rfl⟩
 ·simp[he];rfl
def dv (r:Realm)(forum q:Int)(c:Case):Said:=
 if(ew r forum q c).1.order=-1 then(ew r forum q c).1
 else⟨(kF (nm r (ew r forum q c).1.order) q (ew r forum q c).2).1,(ew r forum q c).1.order,(ew r forum q c).1.path,(kF (nm r (ew r forum q c).1.order) q (ew r forum q c).2).2⟩
theorem ai5 {r:Realm}(hr:Right r)(forum q:Int)(c:Case):(ew r forum q c).1.order=-1∨(0≤(ew r forum q c).1.order∧(ew r forum q c).1.order<r.orders.length):=by
 unfold ew;split
 ·exact .inl rfl
 split
 ·exact .inl rfl
 split
 ·exact .inl rfl
 ·have fi:=af4 r forum (aK c);have BM:=aaS hr (a:=forum) (q:=q) (l:=fV r forum (aK c)) (by omega);show(if _ then _ else _)=_∨_;split
  ·rename_i h;exact .inr (BM h).2
  ·exact .inl rfl
theorem Np (r:Realm)(hr:Right r)(forum q:Int)(c:Case)(hf:FewS c.file):ao T abA [bf r,.int forum,.int q,fe c] (kG (dv r forum q c)):=by
 refine .of_tree rfl aje aDy ?_;simp[Ur];refine⟨_,ai8 r hr forum q c hf,?_⟩;have ho:=ai5 hr forum q c;unfold dv;generalize ew r forum q c=S at*;obtain⟨s,cs⟩:=S;simp only at*;by_cases h:s.order=-1
 ·obtain⟨⟨kn,n⟩,o,pth,e⟩:=s;simp only at h;subst h;simp;rfl
 ·have h1:0≤s.order∧s.order<r.orders.length:=by omega
  have h2:s.order.toNat<r.orders.length:=by omega
  have h3:nm r s.order=r.orders[s.order.toNat]:=by simp[nm,h2]
  obtain⟨aE,hlen⟩:=hr.ok _ (List.getElem_mem h2);simp[h,h1,h2,h3];refine⟨_,aAZ _ q cs aE (by omega),?_⟩;simp;rfl
def ju (r:Realm)(forum q:Int)(f:File)(day:Int):Said:=dv r forum q ⟨{f with facts:=[]},0,-1,-1,-1,day⟩
theorem Xo (r:Realm)(hr:Right r)(forum q:Int)(f:File)(day:Int)(hf:FewS f):ao T abB [bf r,.int forum,.int q,cm f,.int day] (kG (ju r forum q f day)):=by
 refine .of_tree rfl ajf aDz ?_;simp[Us];refine⟨kG (ju r forum q f day),Np r hr forum q ⟨{f with facts:=[]},0,-1,-1,-1,day⟩ ⟨hf.1,hf.2,hf.3,by simp⟩,?_⟩;simp
 try rfl
def iM (s:Said):Int:=if s.err≠0 then 0 else if s.cell.known=false then 2 else if s.cell.n≠0 then 1 else 0
theorem Nq (s:Said):ao T abE [kG s] (.int (iM s)):=by
 refine .of_tree rfl aji aDC ?_;unfold iM;by_cases h1:s.err=0<;>cases h2:s.cell.known<;>by_cases h3:s.cell.n=0<;>simp[Uv,h1,h2,h3]
def ru (s:Said):Int:=if s.err≠0∨s.cell.known=false then-1 else s.cell.n
theorem ai6 (s:Said):ao T abD [kG s] (.int (ru s)):=by
 refine .of_tree rfl ajh aDB ?_;unfold ru;by_cases h1:s.err=0<;>cases h2:s.cell.known<;>simp[Uu,h1,h2]
end Rm
namespace Rm
open Go Go.Proofs Cx
end Rm
namespace Rm
open Go Go.Proofs Cx
theorem H3 (r:Realm)(c:Int):ao T adj [bf r,.int c] (.bool (aF c r.cities.length)):=by
 refine .of_tree rfl ak7 aFT ?_;by_cases h1:0≤c<;>by_cases h2:c<r.cities.length<;>simp[Wf,h1,h2,aF]
def dV (n:Int):Bool:=decide (0≤n)&&decide (n≤100000)
theorem Cj (n:Int):ao T Rb [.int n] (.bool (dV n)):=by
 refine .of_tree rfl ak8 aFU ?_;by_cases h1:0≤n<;>by_cases h2:n≤100000<;>simp[Wg,h1,h2,dV]
theorem yY (n:Int):ao T abR [.int n] (.bool (dV n)):=by
 refine .of_tree rfl ajs aDY ?_;by_cases h1:0≤n<;>by_cases h2:n≤100000<;>simp[UG,h1,h2,dV]
def MF (t:Tenor):Bool:=decide (t.kind=0)||decide (t.kind=1)
theorem Ng (t:Tenor):ao T adh [qP t] (.bool (MF t)):=by
 refine .of_tree rfl ak6 aFS ?_;by_cases h1:t.kind=0<;>simp[We,h1,MF]
theorem adG (y m d:Int):∃n:Int,ao T QT [.int y,.int m,.int d] (.int n):=by
 by_cases h:m<3
 ·refine⟨?w,?h⟩
  case h=>
   refine ao.of_tree (d:=.int ?w) rfl Xr ahX ?_;simp[MU,h];exact rfl
 ·refine⟨?v,?g⟩
  case g=>
   refine ao.of_tree (d:=.int ?v) rfl Xr ahX ?_;simp[MU,h];exact rfl
noncomputable def Cw (y m d:Int):Int:=(adG y m d).choose
theorem Ix (y m d:Int):ao T QT [.int y,.int m,.int d] (.int (Cw y m d)):=(adG y m d).choose_spec
noncomputable def xE (y m:Int):Int:=if m=12 then 31 else IntKind.i64.wrap (Cw y (IntKind.i64.wrap (m+1)) 1-Cw y m 1)
theorem H7 (y m:Int):ao T abP [.int y,.int m] (.int (xE y m)):=by
 refine .of_tree rfl ajq aDW ?_;unfold xE;by_cases h:m=12
 ·simp[MT,h]
 ·simp[MT,h];refine⟨_,Ix _ _ _,_,Ix _ _ _,?_⟩;simp
theorem aio (y m d:Int):∃n e:Int,ao T abJ [.int y,.int m,.int d] (.tup [.int n,.int e])∧(e=0→0≤n∧n≤100000):=by
 by_cases h0:(((2000≤y∧y≤2300)∧1≤m)∧m≤12)∧1≤d
 ·by_cases h2:d≤xE y m
  ·cases h1:dV (Cw y m d)
   ·refine⟨0,3,.of_tree rfl Eu MS ?_,by simp⟩;simp[yV];rw[if_pos h0];refine⟨_,H7 y m,?_⟩;simp[h0,h2];refine⟨_,Ix _ _ _,_,yY _,?_⟩;simp[h1]
   ·refine⟨Cw y m d,0,.of_tree rfl Eu MS ?_,fun _=>by simpa [dV] using h1⟩;simp[yV];rw[if_pos h0];exact⟨_,H7 y m,⟨h0,h2⟩,_,Ix _ _ _,_,yY _,h1,rfl⟩
  ·refine⟨0,3,.of_tree rfl Eu MS ?_,by simp⟩;simp[yV];rw[if_pos h0];refine⟨_,H7 y m,?_⟩;simp[h0,h2]
 ·refine⟨0,3,.of_tree rfl Eu MS ?_,by simp⟩;simp[yV];rw[if_neg h0];intro a1 a2 a3 a4 a5;exact absurd ⟨⟨⟨⟨a1,a2⟩,a3⟩,a4⟩,a5⟩ h0
theorem W9 (r:Realm)(fr to:Int)(hl:r.usances.length≤100000):∃n e:Int,ao T Ra [bf r,.int fr,.int to] (.tup [.int n,.int e])∧(e=0→∃u,u∈r.usances∧n=u.days)∧(e=0↔∃u,u∈r.usances∧u.fr=fr∧u.to=to):=by
 let p:Usance→Bool:=fun u=>decide (u.fr=fr)&&decide (u.to=to)
 refine⟨match r.usances.find? p with|some u=>u.days|none=>0,match r.usances.find? p with|some u=>0|none=>4,?_,?_⟩
 ·refine .of_tree rfl akC aFp ?_;simp[VM];refine aP.scan r.usances.length (fun k=>p (r.usances.getD k default)=false) (fun k=>[.int 0,.int 0,.int k]) (fun _=>[]) ?_ (fun k hk hj aE=>?_) (fun k hk hj aE=>?_) (fun hj=>?_)
  ·simp
  ·have hw:=bj hk (by omega);have hn:¬(r.usances[k].fr=fr∧r.usances[k].to=to):=by simpa [p,hk] using aE
   simp[Tl,Dq,hk,hw,hn]
  ·have j7:=uj hk (by simpa [hk] using aE) (fun j bF=>by have:=hj j bF;simpa [show j<r.usances.length by omega] using this);have hc:r.usances[k].fr=fr∧r.usances[k].to=to:=by simpa [p,hk] using aE
   rw[j7];simp[Tl,Dq,hk,hc]
  ·have j7:=wV (l:=r.usances) (p:=p) (fun j bF=>by have:=hj j bF;simpa [bF] using this);rw[j7];simp[Tl,Dq]
 ·cases h:r.usances.find? p with
  |none=>
   refine⟨fun h=>(by cases h),fun h=>(by cases h),fun⟨u,hu,h1,h2⟩=>?_⟩;have:=List.find?_eq_none.1 h u hu;simp[p,h1,h2] at this
  |some u=>
   have h2:u.fr=fr∧u.to=to:=by simpa [p] using List.find?_some h
   exact⟨fun _=>⟨u,List.mem_of_find?_eq_some h,rfl⟩,fun _=>⟨u,List.mem_of_find?_eq_some h,h2⟩,fun _=>rfl⟩
theorem aiG (r:Realm)(fr to:Int)(hl:r.usances.length≤100000):∃n e:Int,ao T Ra [bf r,.int fr,.int to] (.tup [.int n,.int e])∧(e=0→∃u,u∈r.usances∧n=u.days):=by
 obtain⟨n,e,h1,h2,_⟩:=W9 r fr to hl;exact⟨n,e,h1,h2⟩
end Rm
namespace Rm
open Go Go.Proofs Cx
theorem XX (R Y:Int)(hR:0≤R∧R<146097)(h1:365*Y≤R-R/1460+R/36524-R/146096)(h2:R-R/1460+R/36524-R/146096<365*Y+365):0≤R-(365*Y+Y/4-Y/100)∧R-(365*Y+Y/4-Y/100)≤500:=by
 have k0:R/36524≤R/1460:=by omega
 have k1:Y/4≤R/1460:=by omega
 have hY:0≤Y:=by omega
 have hc:R/36524=0∨R/36524=1∨R/36524=2∨R/36524=3∨R/36524=4:=by omega
 have k2:25*(R/36524)≤R/1460:=by omega
 refine⟨?_,?_⟩
 ·rcases Int.lt_or_le Y (100*(R/36524)) with hy|hy
  ·have k3:Y/4≤25*(R/36524)-1:=by omega
   have k4:R/36524-1≤Y/100:=by omega
   omega
  ·have k3:R/36524≤Y/100:=by omega
   omega
 ·omega
theorem XY (n:Int)(h:0≤n∧n≤100400):ao T abM [.int n] (.tup [.int (eM n).1,.int (eM n).2.1,.int (eM n).2.2]):=by
 refine .of_tree rfl ajo aDT ?_;have w:∀x:Int,-1000000000≤x→x≤1000000000→IntKind.i64.wrap x=x:=fun x a b=>bN (by omega);have t:∀x y:Int,0≤x→x.tdiv y=x/y:=fun x y hx=>Int.tdiv_eq_ediv_of_nonneg hx;have u:∀x y:Int,0≤x→x.tmod y=x%y:=fun x y hx=>Int.tmod_eq_emod_of_nonneg hx;simp[UC];unfold eM;simp only[];rw[w (n+730425) (by omega) (by omega),u (n+730425) 146097 (by omega),t (n+730425) 146097 (by omega)];have hR:0≤(n+730425)%146097∧(n+730425)%146097<146097:=by omega
 have hE:0≤(n+730425)/146097∧(n+730425)/146097<100:=by omega
 generalize (n+730425)%146097=R at*;generalize (n+730425)/146097=e at*;rw[t R 1460 (by omega),t R 36524 (by omega),t R 146096 (by omega),w (R/1460) (by omega) (by omega),w (R-R/1460) (by omega) (by omega),w (R/36524) (by omega) (by omega),w (R-R/1460+R/36524) (by omega) (by omega),w (R/146096) (by omega) (by omega),w (R-R/1460+R/36524-R/146096) (by omega) (by omega),t (R-R/1460+R/36524-R/146096) 365 (by omega)];have hY:0≤(R-R/1460+R/36524-R/146096)/365∧(R-R/1460+R/36524-R/146096)/365<400:=by omega
 have hD:0≤R-(365*((R-R/1460+R/36524-R/146096)/365)+(R-R/1460+R/36524-R/146096)/365/4-(R-R/1460+R/36524-R/146096)/365/100)∧R-(365*((R-R/1460+R/36524-R/146096)/365)+(R-R/1460+R/36524-R/146096)/365/4-(R-R/1460+R/36524-R/146096)/365/100)≤500:=by
  exact XX R _ hR (by omega) (by omega)
 generalize (R-R/1460+R/36524-R/146096)/365=Y at*;rw[w Y (by omega) (by omega),w (365*Y) (by omega) (by omega),t Y 4 (by omega),t Y 100 (by omega),w (Y/4) (by omega) (by omega),w (Y/100) (by omega) (by omega),w (365*Y+Y/4) (by omega) (by omega),w (365*Y+Y/4-Y/100) (by omega) (by omega),w (R-(365*Y+Y/4-Y/100)) (by omega) (by omega)];generalize R-(365*Y+Y/4-Y/100)=D at*;rw[w (5*D) (by omega) (by omega),w (5*D+2) (by omega) (by omega),t (5*D+2) 153 (by omega)];have hM:0≤(5*D+2)/153∧(5*D+2)/153≤20:=by omega
 generalize (5*D+2)/153=M at*;rw[w M (by omega) (by omega),w (M+3) (by omega) (by omega),w (M+3-12) (by omega) (by omega),w e (by omega) (by omega),w (400*e) (by omega) (by omega),w (Y+400*e) (by omega) (by omega),w (Y+400*e+1) (by omega) (by omega)];rw[w (153*M) (by omega) (by omega),w (153*M+2) (by omega) (by omega),t (153*M+2) 5 (by omega),w ((153*M+2)/5) (by omega) (by omega),w (D-(153*M+2)/5) (by omega) (by omega),w (D-(153*M+2)/5+1) (by omega) (by omega)];refine⟨?_,?_,rfl⟩
 ·generalize (if 12<M+3 then M+3-12 else M+3)=m;split<;>rfl
 ·split<;>rfl
theorem aij (d n:Int):∃x e:Int,ao T abI [.int d,.int n] (.tup [.int x,.int e])∧(e=0→0≤x∧x≤100000):=by
 by_cases h0:dV d=true∧-5000≤n∧n≤5000
 ·have hd:0≤d∧d≤100400:=by have:=h0.1;simp[dV] at this;omega
  obtain⟨A,hA⟩:∃A,A=IntKind.i64.wrap (IntKind.i64.wrap (IntKind.i64.wrap (IntKind.i64.wrap (12*(eM d).1)+(eM d).2.1)-1)+n):=⟨_,rfl⟩
  obtain⟨Y,hY⟩:∃Y,Y=IntKind.i64.wrap (A.tdiv 12):=⟨_,rfl⟩
  obtain⟨M,hM⟩:∃M,M=IntKind.i64.wrap (A.tmod 12+1):=⟨_,rfl⟩
  obtain⟨x,e,hD,hb⟩:=aio Y M (if xE Y M<(eM d).2.2 then xE Y M else(eM d).2.2);refine⟨x,e,.of_tree rfl Xq ahW ?_,hb⟩;have n1:¬n< -5000:=by omega
  have n2:¬5000<n:=by omega
  simp[MR,n1,n2];refine⟨_,yY d,?_⟩;simp[h0.1];refine⟨_,XY d hd,?_⟩;simp[←hA,←hY,←hM];refine⟨_,H7 Y M,?_⟩;by_cases hl:xE Y M<(eM d).2.2
  ·simp only[if_pos hl] at hD;simp[hl];refine⟨_,hD,?_⟩;simp
  ·simp only[if_neg hl] at hD;simp[hl];refine⟨_,hD,?_⟩;simp
 ·refine⟨0,3,.of_tree rfl Xq ahW ?_,by simp⟩;simp[MR];refine⟨_,yY d,?_⟩;simp;intro a b c;exact absurd ⟨a,b,c⟩ h0
end Rm
namespace Rm
open Go Go.Proofs Cx
theorem O3 (l:List Int)(x:Int):hasB l x=l.contains x:=by
 rw[Bool.eq_iff_iff];simp[hasB]
def tF (c:City):Prop:=c.rest.length≤100000∧c.feasts.length≤100000∧c.shut.length≤100000
theorem ao9 (n:Int)(h:0≤n∧n≤100400):(0≤(eM n).2.1∧(eM n).2.1≤30)∧-1000≤(eM n).2.2∧(eM n).2.2≤1000:=by
 unfold eM;simp only[];have hR:0≤(n+730425)%146097∧(n+730425)%146097<146097:=by omega
 generalize (n+730425)%146097=R at*;have hD:=XX R ((R-R/1460+R/36524-R/146096)/365) hR (by omega) (by omega);generalize (R-R/1460+R/36524-R/146096)/365=Y at*;generalize R-(365*Y+Y/4-Y/100)=D at*;have hM:0≤(5*D+2)/153∧(5*D+2)/153≤20:=by omega
 generalize (5*D+2)/153=M at*;refine⟨?_,by omega,by omega⟩;split<;>omega
theorem aAX (c:City)(hc:tF c)(n:Int)(h:0≤n∧n≤100400):ao T abQ [fy c,.int n] (.bool (vt c.rest c.feasts c.shut n)):=by
 refine .of_tree rfl ajr aDX ?_;simp[UF];refine⟨_,XY n h,?_⟩;have w5:IntKind.i64.wrap (n+5)=n+5:=bN (by omega);have m7:(n+5).tmod 7=(n+5)%7:=Int.tmod_eq_emod_of_nonneg (by omega);obtain⟨h1,h2,h3⟩:=hc;simp[w5,m7];refine⟨_,qD c.rest ((n+5)%7) (by omega),?_⟩;unfold vt;rw[←O3];cases hr:hasB c.rest ((n+5)%7)
 ·obtain⟨jc,dh⟩:=ao9 n h;have wm:IntKind.i64.wrap (100*(eM n).2.1)=100*(eM n).2.1:=bN (by omega);have wd:IntKind.i64.wrap (100*(eM n).2.1+(eM n).2.2)=100*(eM n).2.1+(eM n).2.2:=bN (by omega);simp[hr,wm,wd];refine⟨_,qD c.feasts _ (by omega),?_⟩;have e1:=O3 c.feasts (100*(eM n).2.1+(eM n).2.2);have e2:=O3 c.shut n;simp at e1 e2;cases hf:hasB c.feasts (100*(eM n).2.1+(eM n).2.2)
  ·simp[hf,←e1,←e2];exact⟨_,qD c.shut n (by omega),rfl⟩
  ·simp[hf,←e1]
 ·simp[hr]
end Rm
namespace Rm
open Go Go.Proofs Cx
def eA (c:City)(a:Int)(k:Nat):List Int:=((List.range k).map fun(i:Nat)=>a+i).filter (vt c.rest c.feasts c.shut)
theorem X7 (c:City)(a:Int)(k:Nat):eA c a (k+1)=eA c a k++if vt c.rest c.feasts c.shut (a+k) then[a+k] else[]:=by
 unfold eA;rw[List.range_succ,List.map_append,List.filter_append]
 congr 1
 cases h:vt c.rest c.feasts c.shut (a+k)<;>simp[h]
theorem apr (c:City)(a:Int){k n:Nat}(h:k≤n):∃r,eA c a n=eA c a k++r:=by
 induction n with
 |zero=>obtain rfl:k=0:=by omega
        exact⟨[],by simp⟩
 |succ n ih=>
  by_cases e:k=n+1
  ·subst e;exact⟨[],by simp⟩
  ·obtain⟨r,hr⟩:=ih (by omega);exact⟨r++_,by rw[X7,hr,List.append_assoc]⟩
def pC (d:Int):D:=.tup [.int d]
theorem aps (c:City)(a b:Int):X9 [.ref (.int a),.ref (.int b),.ref (fy c)]=(eA c a (b-a+1).toNat).map pC:=by
 have hi:∀l:List Int,u9 (ints l)=l:=fun l=>by
  show(l.map D.int).map D.i=l;rw[List.map_map];exact List.map_id l
 show(X8 (u9 (ints c.rest)) (u9 (ints c.feasts)) (u9 (ints c.shut)) a b).map _=_;rw[hi,hi,hi];rfl
theorem apo (c:City)(hc:tF c)(a b:Int)(ha:0≤a)(hb:b≤100400)(hab:a≤100400):ao T abO [.ref (.int a),.ref (.int b),.ref (fy c)] (.list ((eA c a (b-a+1).toNat).map pC)):=by
 have sL:=aps c a b;rw[←sL];obtain⟨N,hN⟩:∃N,N=(b-a+1).toNat:=⟨_,rfl⟩
 refine ao.of_it (pc:=CF) (J:=1000) (k:=1) rfl (fun x hx=>?_) (fun m hm=>?_)
 ·rw[sL] at hx;obtain⟨i,_,rfl⟩:=List.mem_map.1 hx;exact⟨_,rfl,rfl⟩
 ·rw[sL] at hm ⊢;rw[←hN] at hm ⊢;refine M2 ?_;rw[aDU];simp[UE];refine aP.forLoop (α:=Nat) (fun k vr vo=>k≤N∧vr=[.int (a+k)]∧vo=[.list ((eA c a k).map pC)]∧(eA c a k).length≤m) (fun k=>N-k) 0 ?_ ?_
  ·simp[aqK,eA]
  ·rintro k vr vo ⟨hk,rfl,rfl,mc⟩;by_cases ak:k<N
   ·have hle:a+(k:Int)≤b:=by omega
    have iv:IntKind.i64.wrap (a+(k:Int)+1)=a+((k+1:Nat):Int):=by rw[bN (by omega)];omega
    have bK:=(aAX c hc (a+k) (by omega))
    have xt:=X7 c a k;obtain⟨r,hr⟩:=apr c a (k:=k+1) (n:=N) ak;simp[agI,L7,hle];refine⟨_,bK.yld (by decide),?_⟩;cases hi:vt c.rest c.feasts c.shut (a+k)
    ·simp[hi] at xt ⊢;exact⟨k+1,by omega,by omega,iv,by rw[xt],by rw[xt];exact mc⟩
    ·simp[hi] at xt ⊢;have hlen:(eA c a (k+1)).length=(eA c a k).length+1:=by rw[xt];simp
     have q7:(eA c a k).map pC++[D.tup [D.int (a+k)]]=(eA c a (k+1)).map pC:=by rw[xt,List.map_append];rfl
     have B9:(eA c a (k+1)).map pC=((eA c a N).map pC).take ((eA c a k).length+1):=by
      rw[hr,List.map_append,List.take_append_of_le_length (by simp[hlen]),List.take_of_length_le (by simp[hlen])]
     have ba:(eA c a k).length<((eA c a N).map pC).length:=by rw[hr];simp[hlen];omega
     rw[q7];refine⟨_,ao.answer B9 ba mc,?_⟩;by_cases uL:(eA c a k).length<m
     ·simp[uL];exact⟨k+1,by omega,by omega,iv,rfl,by omega⟩
     ·obtain rfl:(eA c a k).length=m:=by omega
      simp;rw[B9]
   ·obtain rfl:k=N:=by omega
    have hle:¬a+(k:Int)≤b:=by omega
    simp[agI,L7,hle];rw[List.take_of_length_le (by simp;omega)]
end Rm
