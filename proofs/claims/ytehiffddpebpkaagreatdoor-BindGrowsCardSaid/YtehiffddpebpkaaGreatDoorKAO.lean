/-
  Shared texts of this claim.
-/
import Derived.Test.YtehiffddpebpkaaGreatDoorKAN
import Derived.Lib.Mul64
set_option linter.unusedSimpArgs false
set_option linter.unusedVariables false
namespace Rm
open Go Go.Proofs Cx
def fJ (f:Tm→Int):List Tm→Int→Int
 |[],n=>n
 |a::l,n=>if 60<n+f a then n+f a else fJ f l (n+f a)
def bE:Nat→Tm→Int
 |0,_=>61
 |L+1,t=>fJ (bE L) t.args 1
def jX (f:Tm→Int)(l:List Tm):Int:=(l.map f).sum
theorem Bi {f:Tm→Int}{l:List Tm}{k:Nat}(h:k<l.length):jX f (l.take (k+1))=jX f (l.take k)+f l[k]:=by
 unfold jX;rw[wC f h,List.sum_append];simp
theorem Te {f:Tm→Int}:∀{l:List Tm} {n:Int} {k:Nat},(hk:k<l.length)→(∀j,j<k→n+jX f (l.take (j+1))≤60)→60<n+jX f (l.take (k+1))→fJ f l n=n+jX f (l.take (k+1))
 |a::l,n,0,hk,_,h=>by
  simp[jX] at h ⊢
  unfold fJ;rw[if_pos (by omega)]
 |a::l,n,k+1,hk,hj,h=>by
  have h0:=hj 0 (by omega)
  simp[jX] at h0
  unfold fJ;rw[if_neg (by omega)]
  have e:∀j,n+jX f ((a::l).take (j+1+1))=n+f a+jX f (l.take (j+1)):=by intro j;simp[jX];omega
  rw[Te (l:=l) (k:=k) (by simpa using hk) (fun j hjk=>by have:=hj (j+1) (by omega);rw[e] at this;exact this) (by rw[←e];exact h),e]
theorem Qg {f:Tm→Int}:∀{l:List Tm} {n:Int},(∀j,j<l.length→n+jX f (l.take (j+1))≤60)→fJ f l n=n+jX f l
 |[],n,_=>by simp[fJ,jX]
 |a::l,n,hj=>by
  have h0:=hj 0 (by simp)
  simp[jX] at h0
  unfold fJ;rw[if_neg (by omega)]
  have e:∀j,n+jX f ((a::l).take (j+1+1))=n+f a+jX f (l.take (j+1)):=by intro j;simp[jX];omega
  rw[Qg (l:=l) (fun j hjl=>by have:=hj (j+1) (by simpa using hjl);rw[e] at this;exact this)]
  simp[jX];omega
theorem VS {f:Tm→Int}(hf:∀a,1≤f a):∀{l:List Tm} {n:Int},n≤fJ f l n
 |[],n=>by simp[fJ]
 |a::l,n=>by
  unfold fJ
  have:=hf a
  split
  ·omega
  ·have:=VS hf (l:=l) (n:=n+f a);omega
theorem th:∀(L:Nat) (t:Tm),1≤bE L t
 |0,t=>by simp[bE]
 |L+1,t=>VS (th L)
theorem Xp {f:Tm→Int}{B:Int}(hf:∀a,f a≤B)(hB:0≤B):∀{l:List Tm} {n:Int},n≤60→fJ f l n≤60+B
 |[],n,h=>by simp[fJ];omega
 |a::l,n,h=>by
  unfold fJ
  have:=hf a
  split
  ·omega
  ·exact Xp hf hB (by omega)
theorem Xr:∀(L:Nat) (t:Tm),bE L t≤61+60*L
 |0,t=>by simp[bE]
 |L+1,t=>by
  have:=Xp (f:=bE L) (fun a=>Xr L a) (by omega) (l:=t.args) (n:=1) (by omega)
  show fJ _ _ _≤_
  omega
theorem KI {f:Tm→Int}(hf:∀a,1≤f a):∀{l:List Tm} {n:Int},fJ f l n≤60→(n:Int)+l.length≤60∧∀a,a∈l→f a≤60-n
 |[],n,h=>by simp[fJ] at h ⊢;exact h
 |a::l,n,h=>by
  unfold fJ at h
  have:=hf a
  split at h
  ·omega
  ·obtain⟨h1,h2⟩:=KI hf h
   refine⟨by simp;omega,fun b hb=>?_⟩
   rcases List.mem_cons.1 hb with rfl|hb
   ·omega
   ·have:=h2 b hb;omega
theorem Ei {L:Nat}{t:Tm}(h:bE (L+1) t≤60):t.args.length≤59∧∀a,a∈t.args→bE L a≤60:=by
 obtain⟨h1,h2⟩:=KI (th L) h
 exact⟨by omega,fun a ha=>by have:=h2 a ha;omega⟩
theorem lR:∀(L:Nat) (t:Tm) (lv:Int),t.OK→L≤8→lv=9-(L:Int)→Runs T Az [jz t,.int lv] (.int (bE L t))
 |0,t,lv,ht,hL,hlv=>by
  refine .of_tree rfl xZ sm ?_
  subst hlv
  simp[j8,bE]
 |L+1,t,lv,ht,hL,hlv=>by
  refine .of_tree rfl xZ sm ?_
  have hl:=ht.len
  have h8:¬(8<lv):=by omega
  have hwl:IntKind.i64.wrap (lv+1)=lv+1:=az (by omega)
  simp[j8,h8]
  refine .scan t.args.length (fun k=>1+jX (bE L) (t.args.take (k+1))≤60) (fun k=>[.int (1+jX (bE L) (t.args.take k)),.int k]) (fun _=>[]) ?_ (fun k hk hj ho=>?_) (fun k hk hj ho=>?_) (fun hj=>?_)
  ·simp[jX]
  all_goals try rw[Bi hk] at ho
  ·have hw:IntKind.i64.wrap ((k:Int)+1)=(k:Int)+1:=az (by omega)
   have hrec:=lR L t.args[k] (lv+1) (ht.arg (List.getElem_mem hk)) (by omega) (by omega)
   rw[Bi hk]
   have hs:0≤jX (bE L) (t.args.take k):=by
    unfold jX
    have:∀(l:List Tm),0≤(l.map (bE L)).sum:=by
     intro l
     induction l with
     |nil=>simp
     |cons a l ih=>have:=th L a;simp;omega
    exact this _
   have hb1:=th L t.args[k]
   generalize jX (bE L) (t.args.take k)=m at*
   generalize bE L t.args[k]=v at*
   have hwm:IntKind.i64.wrap (1+m+v)=1+m+v:=az (by omega)
   have ho':¬60<1+m+v:=by omega
   simp[gQ,dM,hk,hwl]
   refine⟨_,hrec,?_⟩
   simp[hwm,ho',hw]
   omega
  ·have hrec:=lR L t.args[k] (lv+1) (ht.arg (List.getElem_mem hk)) (by omega) (by omega)
   have hf:bE (L+1) t=1+jX (bE L) (t.args.take (k+1)):=Te hk hj (by rw[Bi hk];omega)
   rw[hf,Bi hk]
   have hs:0≤jX (bE L) (t.args.take k)∧1+jX (bE L) (t.args.take k)≤60:=by
    constructor
    ·unfold jX
     have:∀(l:List Tm),0≤(l.map (bE L)).sum:=by
       intro l
       induction l with
       |nil=>simp
       |cons a l ih=>have:=th L a;simp;omega
     exact this _
    ·cases k with
     |zero=>simp[jX]
     |succ k=>exact hj k (by omega)
   have hb1:=th L t.args[k]
   have hb2:=Xr L t.args[k]
   generalize jX (bE L) (t.args.take k)=m at*
   generalize bE L t.args[k]=v at*
   have hwm:IntKind.i64.wrap (1+m+v)=1+m+v:=az (by omega)
   have ho':60<1+m+v:=by omega
   simp[gQ,dM,hk,hwl]
   refine⟨_,hrec,?_⟩
   simp[hwm,ho']
   omega
  ·have hf:bE (L+1) t=1+jX (bE L) t.args:=Qg hj
   rw[hf]
   simp[gQ,dM]
def kAt (ws ts:List Int):Nat→Int
 |0=>-1
 |k+1=>if ws.getD k 0=-1∧kAt ws ts k=-1 then ts.getD k 0 else kAt ws ts k
def kOK (ws ts:List Int)(k:Nat):Bool:=if ws.getD k 0=-1 then decide (kAt ws ts k=-1)||decide (ts.getD k 0=kAt ws ts k) else decide (ts.getD k 0=ws.getD k 0)
def PX (t:Tm)(ks:List Int):Int×Int:=
 if t.op<0∨13<t.op then(0,1) else if t.op=0∨t.op=1∨t.op=2 then Xy t else
 if ks.length≠(bU t.op).1.length∨t.n≠0 then(0,2) else
 if mg (bU t.op).1.length (kOK (bU t.op).1 ks)=false then(0,11) else if(bU t.op).2=-1 then(kAt (bU t.op).1 ks (bU t.op).1.length,0) else((bU t.op).2,0)
def aJ:Nat→Tm→Int×Int
 |0,_=>(0,0)
 |L+1,t=>if kD t.args.length (fun k=>(aJ L (t.args.getD k default)).2)≠0 then(0,kD t.args.length (fun k=>(aJ L (t.args.getD k default)).2)) else PX t (t.args.map fun a=>(aJ L a).1)
theorem Ao (L:Nat)(t:Tm):aJ (L+1) t=if kD t.args.length (fun k=>(aJ L (t.args.getD k default)).2)≠0 then(0,kD t.args.length (fun k=>(aJ L (t.args.getD k default)).2)) else PX t (t.args.map fun a=>(aJ L a).1):=rfl
theorem D6 {α:Type}(A:List α)(z:α){k n:Nat}(hA:A.length=n)(hk:k<n):(A.take k++List.replicate (n-k) z).set k A[k]=A.take (k+1)++List.replicate (n-(k+1)) z:=by
 have h1:(A.take k).length=k:=by rw[List.length_take];omega
 rw[List.set_append_right _ _ (by omega),h1,Nat.sub_self]
 have:n-k=(n-(k+1))+1:=by omega
 rw[this,List.replicate_succ,List.set_cons_zero,List.take_succ_eq_append_getElem (by omega),List.append_assoc];rfl
theorem aaT (op:Int):(bU op).1.length≤3:=by
 unfold bU;repeat' split
 all_goals simp
theorem ql:∀(L:Nat) (t:Tm),t.OK→bE L t≤60→Runs T Fa [jz t] (.tup [.int (aJ L t).1,.int (aJ L t).2])
 |0,t,ht,hm=>by simp[bE] at hm
 |L+1,t,ht,hm=>by
  refine .of_tree rfl Rz I7 ?_
  obtain⟨hl,hp⟩:=Ei hm
  simp[vk]
  refine⟨by omega,?_⟩
  refine Kv t.args.length (fun k=>(aJ L (t.args.getD k default)).2) (fun k=>[.int 0,.int 0,.int k]) (fun k=>[ints ((t.args.map fun a=>(aJ L a).1).take k++List.replicate (t.args.length-k) 0)]) ?_ (fun k hk ho=>?_) (fun k hk ho hb=>?_) (fun hj=>?_)
  ·simp[ints]
  ·have hw:=ar hk (by omega)
   have hmem:=List.getElem_mem hk
   have hrec:=ql L t.args[k] (ht.arg hmem) (hp _ hmem)
   have hs:=D6 (t.args.map fun a=>(aJ L a).1) 0 (n:=t.args.length) (by simp) hk
   rw[←hs]
   have hlen:((t.args.map fun a=>(aJ L a).1).take k++List.replicate (t.args.length-k) (0:Int)).length=t.args.length:=by simp;omega
   have hgk:(t.args.map fun a=>(aJ L a).1)[k]'(by simpa using hk)=(aJ L t.args[k]).1:=by simp
   rw[hgk]
   generalize (t.args.map fun a=>(aJ L a).1).take k++List.replicate (t.args.length-k) (0:Int)=A at*
   simp[hk] at ho
   rw[ho] at hrec
   generalize (aJ L t.args[k]).1=kd at*
   simp[kO,fI,hk]
   refine⟨_,hrec,?_⟩
   simp[hlen,hk,hw,ints]
  ·have hmem:=List.getElem_mem hk
   have hrec:=ql L t.args[k] (ht.arg hmem) (hp _ hmem)
   have hf:aJ (L+1) t=(0,(aJ L (t.args.getD k default)).2):=by
    rw[Ao,hb,if_pos ho]
   rw[hf]
   simp[hk] at ho ⊢
   simp[kO,fI,hk]
   refine⟨_,hrec,?_⟩
   simp[ho]
  ·have hf:aJ (L+1) t=PX t (t.args.map fun a=>(aJ L a).1):=by
    rw[Ao,hj];simp
   rw[hf]
   have e0:(t.args.map fun a=>(aJ L a).1).take t.args.length++List.replicate (t.args.length-t.args.length) 0=t.args.map fun a=>(aJ L a).1:=by
    rw[Nat.sub_self,List.take_of_length_le (by simp)];simp
   rw[e0]
   have hkl:(t.args.map fun a=>(aJ L a).1).length=t.args.length:=by simp
   generalize (t.args.map fun a=>(aJ L a).1)=ks at*
   simp[kO,fI]
   unfold PX
   by_cases h1:t.op<0
   ·simp[h1]
   by_cases h2:13<t.op
   ·simp[h1,h2]
   simp[h1,h2]
   by_cases h3:t.op=0∨t.op=1∨t.op=2
   ·have h3':(t.op=0∨t.op=1)∨t.op=2:=by omega
    simp[h3,h3']
    refine⟨_,N6 t,?_⟩
    simp
   have h3':¬((t.op=0∨t.op=1)∨t.op=2):=by omega
   simp[h3,h3']
   refine⟨_,GL _,?_⟩
   have hsl:=aaT t.op
   generalize bU t.op=sh at*
   simp
   by_cases h4:ks.length=sh.1.length
   case neg=>
    have h4':¬((ks.length:Int)=sh.1.length):=by omega
    have h4'':¬t.args.length=sh.1.length:=by omega
    simp[h4,h4',h4'']
   have h4':(ks.length:Int)=sh.1.length:=by omega
   have h4'':t.args.length=sh.1.length:=by omega
   by_cases h5:t.n=0
   case neg=>simp[h4,h4',h4'',h5]
   simp[h4,h4',h4'',h5]
   refine gz sh.1.length (kOK sh.1 ks) (fun k=>[.int 0,.int 0,.int (kAt sh.1 ks k),.int k]) (fun _=>[]) ?_ (fun k hk ho=>?_) (fun k hk ho hb=>?_) (fun hj=>?_)
   ·simp[kAt]
   ·have hw:=ar hk (by omega)
    have hk2:k<ks.length:=by omega
    simp only[kAt]
    unfold kOK at ho
    simp only[List.getD_eq_getElem?_getD,List.getElem?_eq_getElem hk,List.getElem?_eq_getElem hk2,Option.getD_some] at ho ⊢
    generalize kAt sh.1 ks k=c at*
    by_cases a1:sh.1[k]=-1
    ·by_cases a2:c=-1
     ·simp[bX,bM,hk,hk2,hw,ints,a1,a2]
     ·simp[a1,a2] at ho
      simp[bX,bM,hk,hk2,hw,ints,a1,a2,ho]
    ·simp[a1] at ho
     simp[bX,bM,hk,hk2,hw,ints,a1,ho]
   ·rw[hb]
    have hk2:k<ks.length:=by omega
    unfold kOK at ho
    simp only[List.getD_eq_getElem?_getD,List.getElem?_eq_getElem hk,List.getElem?_eq_getElem hk2,Option.getD_some] at ho
    generalize kAt sh.1 ks k=c at*
    by_cases a1:sh.1[k]=-1
    ·by_cases a2:c=-1
     ·simp[a1,a2] at ho
     ·simp[a1,a2] at ho
      simp[bX,bM,hk,hk2,ints,a1,a2,ho]
    ·simp[a1] at ho
     simp[bX,bM,hk,hk2,ints,a1,ho]
   ·rw[hj]
    simp[bX,bM]
    by_cases a1:sh.2=-1<;>simp[a1]
def nw (t:Tm):Int×Int:=if 60<bE 8 t then(0,6) else aJ 8 t
theorem yx (t:Tm)(ht:t.OK):Runs T G5 [jz t] (.tup [.int (nw t).1,.int (nw t).2]):=by
 refine .of_tree rfl RD I6 ?_
 simp[uQ,nw]
 refine⟨_,lR 8 t 1 ht (by omega) (by omega),?_⟩
 by_cases h:60<bE 8 t
 ·simp[h]
 simp[h]
 refine⟨_,ql 8 t ht (by omega),?_⟩
 simp
end Rm
namespace Rm
open Go Go.Proofs Cx
abbrev u (n:Nat):D:=.v (.int .u64 n)
theorem Xc (n:Int):IntKind.u64.wrap n=n%18446744073709551616:=rfl
theorem ac2 {n:Int}(h:0≤n∧n<18446744073709551616):IntKind.u64.wrap n=n:=by
 rw[Xc];omega
theorem sS {n:Nat}(h:n<18446744073709551616):IntKind.u64.wrap (n:Int)=n:=ac2 (by omega)
theorem aez (a s:Nat)(h:s≤64):arI .shr .u64 a s=((a/2^s:Nat):Int):=by
 show Int.fdiv (a:Int) (2^(min (s:Int).toNat 64))=_
 have:min (s:Int).toNat 64=s:=by simp;omega
 rw[this,Int.fdiv_eq_ediv_of_nonneg _ (Int.le_of_lt (Int.pow_pos (by decide)))]
 rw[Int.natCast_ediv,Int.natCast_pow];rfl
theorem TX (a:Nat)(h:a<18446744073709551616):arI .and .u64 a 4294967295=((a%4294967296:Nat):Int):=by
 show IntKind.u64.wrap ((BitVec.ofInt 64 (a:Int)&&& BitVec.ofInt 64 4294967295).toNat:Nat)=_
 have e:(BitVec.ofInt 64 (a:Int)&&& BitVec.ofInt 64 4294967295).toNat=a%4294967296:=by
  rw[BitVec.toNat_and]
  have e1:(BitVec.ofInt 64 (a:Int)).toNat=a:=by simp[BitVec.ofInt,BitVec.toNat_ofNat];omega
  have e2:(BitVec.ofInt 64 4294967295).toNat=2^32-1:=by decide
  rw[e1,e2,Nat.and_two_pow_sub_one_eq_mod]
 rw[e,sS (by omega)]
@[simp] theorem SA (a:Nat):arI .shr .u64 a 32=((a/4294967296:Nat):Int):=aez a 32 (by decide)
set_option maxHeartbeats 2000000 in
theorem Zv (a b:Nat)(ha:a<18446744073709551616)(hb:b<18446744073709551616):Runs T Ge [u a,u b] (.tup [u (a*b/18446744073709551616),u (a*b%18446744073709551616)]):=by
 refine .of_tree rfl R6 J2 ?_
 obtain⟨h1,h2,h3,h4⟩:=Go.Lib.mul64_hi a b ha hb
 have elo:IntKind.u64.wrap ((a:Int)*(b:Int))=((a*b%18446744073709551616:Nat):Int):=by rw[Xc,Int.natCast_emod,Int.natCast_mul];rfl
 have ea1:arI .shr .u64 (a:Int) 32=((a/4294967296:Nat):Int):=SA a
 have ea0:arI .and .u64 (a:Int) 4294967295=((a%4294967296:Nat):Int):=TX a ha
 have eb1:arI .shr .u64 (b:Int) 32=((b/4294967296:Nat):Int):=SA b
 have eb0:arI .and .u64 (b:Int) 4294967295=((b%4294967296:Nat):Int):=TX b hb
 have hm11:=Go.Lib.half_mul_le (a:=a/4294967296) (b:=b/4294967296) (by omega) (by omega)
 have hm10:=Go.Lib.half_mul_le (a:=a/4294967296) (b:=b%4294967296) (by omega) (by omega)
 have hm01:=Go.Lib.half_mul_le (a:=a%4294967296) (b:=b/4294967296) (by omega) (by omega)
 have hm00:=Go.Lib.half_mul_le (a:=a%4294967296) (b:=b%4294967296) (by omega) (by omega)
 have hhi:a*b/18446744073709551616<18446744073709551616:=by
  have:a*b<18446744073709551616*18446744073709551616:=Nat.mul_lt_mul'' ha hb
  exact Nat.div_lt_of_lt_mul this
 simp only[ve]
 generalize a/4294967296=a1 at*
 generalize a%4294967296=a0 at*
 generalize b/4294967296=b1 at*
 generalize b%4294967296=b0 at*
 have p11:IntKind.u64.wrap ((a1:Int)*(b1:Int))=((a1*b1:Nat):Int):=by rw[←Int.natCast_mul];exact sS (by omega)
 have p10:IntKind.u64.wrap ((a1:Int)*(b0:Int))=((a1*b0:Nat):Int):=by rw[←Int.natCast_mul];exact sS (by omega)
 have p01:IntKind.u64.wrap ((a0:Int)*(b1:Int))=((a0*b1:Nat):Int):=by rw[←Int.natCast_mul];exact sS (by omega)
 have p00:IntKind.u64.wrap ((a0:Int)*(b0:Int))=((a0*b0:Nat):Int):=by rw[←Int.natCast_mul];exact sS (by omega)
 rw[←h4] at hhi ⊢
 generalize a1*b1=P at*
 generalize a1*b0=Q at*
 generalize a0*b1=R at*
 generalize a0*b0=S at*
 have s1:arI .shr .u64 (S:Int) 32=((S/4294967296:Nat):Int):=SA S
 have s2:IntKind.u64.wrap ((Q:Int)+((S/4294967296:Nat):Int))=((Q+S/4294967296:Nat):Int):=by rw[ac2 (by omega)];omega
 generalize S/4294967296=S1 at*
 generalize hT:Q+S1=TT at*
 have s3:arI .shr .u64 (TT:Int) 32=((TT/4294967296:Nat):Int):=SA TT
 have s4:arI .and .u64 (TT:Int) 4294967295=((TT%4294967296:Nat):Int):=TX TT (by omega)
 have s5:IntKind.u64.wrap (((TT%4294967296:Nat):Int)+(R:Int))=((TT%4294967296+R:Nat):Int):=by rw[ac2 (by omega)];omega
 generalize hU:TT%4294967296+R=U at*
 have s6:arI .shr .u64 (U:Int) 32=((U/4294967296:Nat):Int):=SA U
 have s7:IntKind.u64.wrap ((P:Int)+((TT/4294967296:Nat):Int))=((P+TT/4294967296:Nat):Int):=by rw[ac2 (by omega)];omega
 have s8:IntKind.u64.wrap (((P+TT/4294967296:Nat):Int)+((U/4294967296:Nat):Int))=((P+TT/4294967296+U/4294967296:Nat):Int):=by rw[ac2 (by omega)];omega
 simp[-SA,-Int.natCast_add,-Int.natCast_mul,-Int.natCast_ediv,-Int.natCast_emod,elo,ea1,ea0,eb1,eb0,p11,p10,p01,p00,s1,s2,s3,s4,s5,s6,s7,s8]
def Hy (m:Nat):Int:=if m<1099511627776 then m else 1099511627776
def Tt (a b:Int):Int:=if(decide (a<0)!=decide (b<0))=true then-Hy (a.natAbs*b.natAbs) else Hy (a.natAbs*b.natAbs)
theorem ZU (m:Nat):0≤Hy m∧Hy m≤1099511627776:=by unfold Hy;split<;>omega
set_option maxHeartbeats 1000000 in
theorem GS (a b:Int)(ha:-1099511627776≤a∧a≤1099511627776)(hb:-1099511627776≤b∧b≤1099511627776):Runs T AR [.int a,.int b] (.int (Tt a b)):=by
 refine .of_tree rfl MG DT ?_
 have wa:IntKind.u64.wrap (a.natAbs:Int)=a.natAbs:=sS (by omega)
 have wb:IntKind.u64.wrap (b.natAbs:Int)=b.natAbs:=sS (by omega)
 have w0a:IntKind.i64.wrap (0-a)=-a:=by rw[az (by omega)];omega
 have w0b:IntKind.i64.wrap (0-b)=-b:=by rw[az (by omega)];omega
 have w0a':IntKind.i64.wrap (-a)=-a:=az (by omega)
 have w0b':IntKind.i64.wrap (-b)=-b:=az (by omega)
 have ea:(if a< -a then D.int (-a) else D.int a)=D.int a.natAbs:=by split<;>congr 1<;>omega
 have eb:(if b< -b then D.int (-b) else D.int b)=D.int b.natAbs:=by split<;>congr 1<;>omega
 have ea':(if a< -a then-a else a)=(a.natAbs:Int):=by split<;>omega
 have eb':(if b< -b then-b else b)=(b.natAbs:Int):=by split<;>omega
 simp[pA,w0a',w0b',ea,eb,ea',eb']
 rw[wa,wb]
 refine⟨_,Zv a.natAbs b.natAbs (by omega) (by omega),?_⟩
 unfold Tt
 generalize a.natAbs*b.natAbs=m
 have hs:(decide (a<0)!=decide (b<0))=false↔(a<0↔b<0):=by
  by_cases h1:a<0<;>by_cases h2:b<0<;>simp[h1,h2]
 have key:((if((m/18446744073709551616:Nat):Int)=0∧((m%18446744073709551616:Nat):Int)<1099511627776 then IntKind.i64.wrap ((m%18446744073709551616:Nat):Int) else 1099511627776):Int)=Hy m:=by
  unfold Hy
  by_cases hm:m<1099511627776
  ·have h1:m/18446744073709551616=0:=by omega
   have h2:m%18446744073709551616=m:=by omega
   rw[h1,h2,if_pos ⟨rfl,by omega⟩,if_pos hm,az (by omega)]
  ·rw[if_neg hm,if_neg]
   rintro⟨h1,h2⟩
   omega
 have hb':=ZU m
 have keyD:(if((m/18446744073709551616:Nat):Int)=0∧((m%18446744073709551616:Nat):Int)<1099511627776 then D.int (IntKind.i64.wrap ((m%18446744073709551616:Nat):Int)) else D.int 1099511627776)=D.int (Hy m):=by
  rw[←key];split<;>rfl
 show(if a<0↔b<0 then(if((m/18446744073709551616:Nat):Int)=0∧((m%18446744073709551616:Nat):Int)<1099511627776 then D.int (IntKind.i64.wrap ((m%18446744073709551616:Nat):Int)) else D.int 1099511627776)=_ else
  IntKind.i64.wrap (-(if((m/18446744073709551616:Nat):Int)=0∧((m%18446744073709551616:Nat):Int)<1099511627776 then IntKind.i64.wrap ((m%18446744073709551616:Nat):Int) else 1099511627776))=_)
 rw[keyD,key]
 generalize Hy m=n at*
 split
 ·rename_i h;rw[hs.2 h];simp
 ·rename_i h
  have:(decide (a<0)!=decide (b<0))=true:=by
   cases e:(decide (a<0)!=decide (b<0)) with
   |true=>rfl
   |false=>exact absurd (hs.1 e) h
  rw[this,az (by omega)];simp
def HL (op a b:Int):Int:=if op=9 then Nn (a+b) else if op=10 then Nn (a-b) else if op=11 then Tt a b else if op=12 then min a b else max a b
theorem zE (op a b:Int)(ha:-1099511627776≤a∧a≤1099511627776)(hb:-1099511627776≤b∧b≤1099511627776):Runs T tX [.int op,.int a,.int b] (.int (HL op a b)):=by
 refine .of_tree rfl DG yX ?_
 have w1:IntKind.i64.wrap (a+b)=a+b:=az (by omega)
 have w2:IntKind.i64.wrap (a-b)=a-b:=az (by omega)
 simp[kN,HL,w1,w2]
 by_cases h1:op=9
 ·simp[h1];exact og _
 by_cases h2:op=10
 ·simp[h1,h2];exact og _
 by_cases h3:op=11
 ·simp[h1,h2,h3];exact GS a b ha hb
 by_cases h4:op=12
 ·simp[h1,h2,h3,h4]
  by_cases h5:b<a<;>simp[h5]<;>omega
 simp[h1,h2,h3,h4]
 by_cases h5:b>a<;>simp[h5]<;>omega
def kQ (b:Bool):Cell:=if b then⟨true,1⟩ else⟨true,0⟩
theorem dc (b:Bool):Runs T OM [.bool b] (aI (kQ b)):=by
 refine .of_tree rfl Wv QC ?_
 cases b<;>simp[AL,kQ]<;>rfl
def noC:Cell:=⟨false,0⟩
@[simp] theorem alv:D.agg [.bool false,.int 0]=aI noC:=_root_.id rfl
@[simp] theorem alN:noC.known=false:=rfl
@[simp] theorem alE:noC.n=0:=rfl
def cellAt (cs:List Cell)(v:Int):Cell:=cs.getD v.toNat default
def gf (cs:List Cell)(v:Int):Cell:=if cs.length≤v.toNat∨(cellAt cs v).known=false then noC else if(Hn v).1=1 then kQ (decide ((cellAt cs v).n≠0)) else⟨true,Nn (cellAt cs v).n⟩
abbrev af7 (cs:List Cell):D:=.agg [cells cs]
theorem LV (cs:List Cell)(v:Int)(hv:0≤v):Runs T ph [af7 cs,.int v] (aI (gf cs v)):=by
 refine .of_tree rfl yV vF ?_
 obtain⟨k,rfl⟩:=Int.eq_ofNat_of_zero_le hv
 simp[gh,gf,cellAt]
 by_cases h1:cs.length≤k
 ·simp[h1]
 have h1':k<cs.length:=by omega
 simp[h1,h1']
 cases h2:cs[k].known
 ·simp[h2]
 simp[h2]
 refine⟨_,uc _,?_⟩
 by_cases h3:(Hn k).1=1
 ·simp[h3,h1']
  refine⟨_,dc _,?_⟩
  simp
  rfl
 ·simp[h3,h1']
  refine⟨_,og _,?_⟩
  simp
  rfl
@[simp] theorem akm (a b:Int):(a==b)=decide (a=b):=_root_.id rfl
@[simp] theorem aky (a b:Int):(a !=b)= !decide (a=b):=_root_.id rfl
def aH (l:List Cell)(k:Nat):Cell:=l.getD k default
def aS (op:Int)(l:List Cell):Cell:=
 if op=3 then(if(aH l 0).known=true then kQ (decide ((aH l 0).n=0)) else noC)
 else if(op=4∨op=5)∧(aH l 0=kQ (decide (op=5))∨aH l 1=kQ (decide (op=5))) then kQ (decide (op=5))
 else if op=6 then(if(aH l 1).known=true∧aH l 1=aH l 2 then aH l 1 else noC)
 else if(aH l 0).known=false∨(aH l 1).known=false then noC
 else if op=4∨op=5 then kQ (decide (op=4))
 else if op=7 then kQ (decide ((aH l 0).n<(aH l 1).n)) else if op=8 then kQ (decide ((aH l 0).n=(aH l 1).n)) else⟨true,HL op (aH l 0).n (aH l 1).n⟩
theorem aes (a b:Cell):a=b↔a.known=b.known∧a.n=b.n:=by cases a;cases b;simp
theorem Hs (op:Int)(l:List Cell)(h1:1≤l.length)(h2:op≠3→2≤l.length)(h3:op=6→3≤l.length)
 (hb:9≤op→(-1099511627776≤(aH l 0).n∧(aH l 0).n≤1099511627776)∧(-1099511627776≤(aH l 1).n∧(aH l 1).n≤1099511627776)) (h9:op<3∨8<op→9≤op):
 Runs T zI [.int op,cells l] (aI (aS op l)):=by
 refine .of_tree rfl MM Ev ?_
 have g0:0<l.length:=by omega
 have gg0:l[0]=aH l 0:=by simp[aH,g0]
 simp[pB]
 unfold aS
 by_cases o3:op=3
 ·simp[o3,g0,gg0]
  cases e:(aH l 0).known
  ·simp
  ·simp[g0]
   refine⟨_,dc _,?_⟩
   simp
 have g1:1<l.length:=by have:=h2 o3;omega
 have gg1:l[1]=aH l 1:=by simp[aH,g1]
 have g1':(1:Int)<l.length:=by omega
 simp[o3]
 have fin:∀a b:Cell,(a=b)=(a.known=b.known∧a.n=b.n):=fun a b=>propext (aes a b)
 rcases Classical.em (op=4) with o4|o4
 ·subst o4
  simp
  refine⟨_,dc _,?_⟩
  simp[g0,g1,g1',gg0,gg1,fin]
  split
  ·rfl
  ·split
   ·rfl
   ·refine⟨_,dc _,?_⟩
    simp
 rcases Classical.em (op=5) with o5|o5
 ·subst o5
  simp
  refine⟨_,dc _,?_⟩
  simp[g0,g1,g1',gg0,gg1,fin]
  split
  ·rfl
  ·split
   ·rfl
   ·refine⟨_,dc _,?_⟩
    simp
 rcases Classical.em (op=6) with o6|o6
 ·subst o6
  have g2:2<l.length:=by have:=h3 rfl;omega
  have gg2:l[2]=aH l 2:=by simp[aH,g2]
  have g2':(2:Int)<l.length:=by omega
  simp[g1,g2,g1',g2',gg1,gg2,fin]
  cases e1:(aH l 1).known
  ·simp
  by_cases e2:(aH l 1).known=(aH l 2).known∧(aH l 1).n=(aH l 2).n
  ·rw[e1] at e2
   simp[e1,e2]
  ·rw[e1] at e2
   have e2':¬((aH l 2).known=true∧(aH l 1).n=(aH l 2).n):=fun h=>e2 ⟨h.1.symm,h.2⟩
   simp only[e1,true_and,if_true]
   first|(rw[if_neg e2',if_neg e2'])|(simp[e2'])
 simp[o4,o5,o6,g0,g1,g1',gg0,gg1]
 cases e1:(aH l 0).known
 ·simp
 cases e2:(aH l 1).known
 ·simp
 simp[g1,g1',gg1]
 rcases Classical.em (op=7) with o7|o7
 ·subst o7
  simp
  refine⟨_,dc _,?_⟩
  simp
 rcases Classical.em (op=8) with o8|o8
 ·subst o8
  simp
  refine⟨_,dc _,?_⟩
  simp
 simp[o7,o8]
 obtain⟨b1,b2⟩:=hb (h9 (by omega))
 refine⟨_,zE op _ _ b1 b2,?_⟩
 simp
 rfl
end Rm
namespace Rm
open Go Go.Proofs Cx
def aG:Nat→List Cell→Tm→Cell
 |0,_,_=>noC
 |L+1,cs,t=>if t.op=0∨t.op=1 then⟨true,t.n⟩ else if t.op=2 then gf cs t.n else
   if t.op=6∧(aH (t.args.map (aG L cs)) 0).known=true then aH (t.args.map (aG L cs)) (2-(aH (t.args.map (aG L cs)) 0).n).toNat else aS t.op (t.args.map (aG L cs))
def bC:Nat→List Cell→Tm→List Int
 |0,_,_=>[]
 |L+1,cs,t=>if t.op=0∨t.op=1 then[] else if t.op=2 then(if(gf cs t.n).known=true then[] else[t.n]) else
   if t.op=6∧(aH (t.args.map (aG L cs)) 0).known=true then(t.args.map (bC L cs)).getD (2-(aH (t.args.map (aG L cs)) 0).n).toNat [] else
   if(aS t.op (t.args.map (aG L cs))).known=true then[] else(t.args.map (bC L cs)).flatten
theorem nm (L:Nat)(cs:List Cell)(t:Tm):aG (L+1) cs t=if t.op=0∨t.op=1 then⟨true,t.n⟩ else if t.op=2 then gf cs t.n else
 if t.op=6∧(aH (t.args.map (aG L cs)) 0).known=true then aH (t.args.map (aG L cs)) (2-(aH (t.args.map (aG L cs)) 0).n).toNat else aS t.op (t.args.map (aG L cs)):=rfl
theorem uD (L:Nat)(cs:List Cell)(t:Tm):bC (L+1) cs t=if t.op=0∨t.op=1 then[] else if t.op=2 then(if(gf cs t.n).known=true then[] else[t.n]) else
 if t.op=6∧(aH (t.args.map (aG L cs)) 0).known=true then(t.args.map (bC L cs)).getD (2-(aH (t.args.map (aG L cs)) 0).n).toNat [] else
 if(aS t.op (t.args.map (aG L cs))).known=true then[] else(t.args.map (bC L cs)).flatten:=rfl
theorem xt {L:Nat}{t:Tm}{k:Int}(h:aJ (L+1) t=(k,0)):(∀a,a∈t.args→(aJ L a).2=0)∧PX t (t.args.map fun a=>(aJ L a).1)=(k,0):=by
 rw[Ao] at h
 by_cases e:kD t.args.length (fun k=>(aJ L (t.args.getD k default)).2)=0
 ·rw[if_neg (by simpa using e)] at h
  refine⟨fun a ha=>?_,h⟩
  obtain⟨j,hj,rfl⟩:=List.getElem_of_mem ha
  have:=firstE_iff.1 e j hj
  simpa [hj] using this
 ·rw[if_pos e] at h
  injection h with _ h
  exact absurd h e
inductive Node (ks:List Int) (t:Tm):Int→Prop where
 |int (h:t.op=0) (ha:t.args=[]) (hn:-1099511627776≤t.n∧t.n≤1099511627776):Node ks t 0
 |bool (h:t.op=1) (ha:t.args=[]) (hn:t.n=0∨t.n=1):Node ks t 1
 |var (h:t.op=2) (ha:t.args=[]) (hn:0≤t.n∧t.n≤19):Node ks t (Hn t.n).1
 |not (h:t.op=3) (hk:ks=[1]):Node ks t 1
 |log (h:t.op=4∨t.op=5) (hk:ks=[1,1]):Node ks t 1
 |ite (k:Int) (h:t.op=6) (hk:ks=[1,k,k]):Node ks t k
 |less (h:t.op=7) (hk:ks=[0,0]):Node ks t 1
 |equal (k:Int) (h:t.op=8) (hk:ks=[k,k]):Node ks t 1
 |num (h:9≤t.op∧t.op≤13) (hk:ks=[0,0]):Node ks t 0
theorem aex (v:Int):(Hn v).1=0∨(Hn v).1=1:=by
 unfold Hn;repeat' split
 all_goals simp
theorem aer {t:Tm}{ks:List Int}{k:Int}(hl:ks.length=t.args.length)(h01:∀x,x∈ks→x=0∨x=1)(h:PX t ks=(k,0)):Node ks t k:=by
 unfold PX at h
 split at h
 ·injection h with _ h;cases h
 rename_i hop
 split at h
 ·rename_i h3
  unfold Xy at h
  split at h
  ·injection h with _ h;cases h
  rename_i ha0
  have ha:t.args=[]:=List.eq_nil_of_length_eq_zero (by omega)
  split at h
  ·rename_i h0
   split at h
   ·injection h with _ h;cases h
   ·rename_i hc
    injection h with h _
    subst h
    refine .int h0 ha ?_
    unfold Nn at hc;omega
  split at h
  ·rename_i h0
   split at h
   ·injection h with _ h;cases h
   ·rename_i hc
    injection h with h _
    subst h
    exact .bool h0 ha (by omega)
  split at h
  ·injection h with _ h;cases h
  ·rename_i g0 g1 hc
   injection h with h _
   subst h
   refine .var (by omega) ha ?_
   unfold Hn at hc
   split at hc
   ·simp at hc
   ·omega
 rename_i h3
 split at h
 ·injection h with _ h;cases h
 rename_i hlen
 have hlen':ks.length=(bU t.op).1.length:=by
  refine Classical.byContradiction fun hh=>hlen (.inl hh)
 split at h
 ·injection h with _ h;cases h
 rename_i hok
 have hok':∀j,j<(bU t.op).1.length→kOK (bU t.op).1 ks j=true:=allB_iff.1 (by simpa using hok)
 have two:∀{n:Nat},ks.length=2→∃a b,ks=[a,b]:=fun h=>by
  match ks,h with
  |[a,b],_=>exact⟨a,b,rfl⟩
 by_cases o3:t.op=3
 ·have e:bU t.op=([1],1):=by simp[bU,o3]
  rw[e] at hlen' hok' h
  match ks,hlen' with
  |[a],_=>
   have:=hok' 0 (by simp)
   simp[kOK] at this
   simp at h
   subst h this
   exact .not o3 rfl
 by_cases o45:t.op=4∨t.op=5
 ·have e:bU t.op=([1,1],1):=by simp[bU,o3,o45]
  rw[e] at hlen' hok' h
  match ks,hlen' with
  |[a,b],_=>
   have t1:=hok' 0 (by simp)
   have t2:=hok' 1 (by simp)
   simp[kOK] at t1 t2
   simp at h
   subst h t1 t2
   exact .log o45 rfl
 by_cases o6:t.op=6
 ·have e:bU t.op=([1,-1,-1],-1):=by simp[bU,o6]
  rw[e] at hlen' hok' h
  match ks,hlen',h01 with
  |[a,b,c],_,h01=>
   have t1:=hok' 0 (by simp)
   have t3:=hok' 2 (by simp)
   have hb:=h01 b (by simp)
   have hbn:¬b=-1:=by omega
   simp[kOK] at t1
   simp[kOK,kAt,hbn] at t3
   simp[kAt,hbn] at h
   subst h t1 t3
   exact .ite _ o6 rfl
 by_cases o7:t.op=7
 ·have e:bU t.op=([0,0],1):=by simp[bU,o7]
  rw[e] at hlen' hok' h
  match ks,hlen' with
  |[a,b],_=>
   have t1:=hok' 0 (by simp)
   have t2:=hok' 1 (by simp)
   simp[kOK] at t1 t2
   simp at h
   subst h t1 t2
   exact .less o7 rfl
 by_cases o8:t.op=8
 ·have e:bU t.op=([-1,-1],1):=by simp[bU,o8]
  rw[e] at hlen' hok' h
  match ks,hlen',h01 with
  |[a,b],_,h01=>
   have t2:=hok' 1 (by simp)
   have ha:=h01 a (by simp)
   have han:¬a=-1:=by omega
   simp[kOK,kAt,han] at t2
   simp at h
   subst h t2
   exact .equal _ o8 rfl
 have e:bU t.op=([0,0],0):=by simp[bU,o3,o45,o6,o7,o8]
 rw[e] at hlen' hok' h
 match ks,hlen' with
 |[a,b],_=>
  have t1:=hok' 0 (by simp)
  have t2:=hok' 1 (by simp)
  simp[kOK] at t1 t2
  simp at h
  subst h t1 t2
  exact .num (by omega) rfl
theorem wY:∀{L:Nat} {t:Tm} {k:Int},aJ (L+1) t=(k,0)→Node (t.args.map fun a=>(aJ L a).1) t k∧(k=0∨k=1)
 |L,t,k,h=>by
  obtain⟨h1,h2⟩:=xt h
  have h01:∀x,x∈(t.args.map fun a=>(aJ L a).1)→x=0∨x=1:=by
   intro x hx
   obtain⟨a,ha,rfl⟩:=List.mem_map.1 hx
   cases L with
   |zero=>exact .inl rfl
   |succ L=>exact(wY (L:=L) (t:=a) (k:=(aJ (L+1) a).1) (by rw[←h1 a ha])).2
  have hn:=aer (by simp) h01 h2
  refine⟨hn,?_⟩
  cases hn with
  |int=>simp
  |bool=>simp
  |var=>exact aex _
  |not=>simp
  |log=>simp
  |ite k _ hk=>exact h01 k (by rw[hk];simp)
  |less=>simp
  |equal=>simp
  |num=>simp
end Rm
namespace Rm
open Go Go.Proofs Cx
def Rng (k:Int)(c:Cell):Prop:=(c.known=false→c=noC)∧(c.known=true→(k=1→c.n=0∨c.n=1)∧(k=0→-1099511627776≤c.n∧c.n≤1099511627776))
theorem A4 (k:Int):Rng k noC:=⟨fun _=>rfl,fun h=>by cases h⟩
theorem Bh (b:Bool):Rng 1 (kQ b):=⟨fun h=>(by cases b<;>cases h),fun _=>⟨fun _=>(by cases b<;>simp[kQ]),fun h=>by cases h⟩⟩
theorem Vq (n:Int):-1099511627776≤Nn n∧Nn n≤1099511627776:=by unfold Nn;omega
theorem aaQ (cs:List Cell)(v:Int)(hv:0≤v∧v≤19):Rng (Hn v).1 (gf cs v):=by
 unfold gf
 split
 ·exact A4 _
 ·split
  ·rename_i h;rw[h];exact Bh _
  ·rename_i h
   refine⟨fun h=>(by cases h),fun _=>⟨fun h'=>absurd h' h,fun _=>Vq _⟩⟩
theorem adb (a b:Int):-1099511627776≤Tt a b∧Tt a b≤1099511627776:=by
 unfold Tt
 have:=ZU (a.natAbs*b.natAbs)
 split<;>omega
theorem aa3 (op a b:Int)(ha:-1099511627776≤a∧a≤1099511627776)(hb:-1099511627776≤b∧b≤1099511627776):-1099511627776≤HL op a b∧HL op a b≤1099511627776:=by
 unfold HL
 split
 ·exact Vq _
 split
 ·exact Vq _
 split
 ·exact adb _ _
 split<;>omega
theorem alj {α β:Type}{f:α→β}{l:List α}{x:β}(h:l.map f=[x]):∃a,l=[a]∧f a=x:=by
 match l,h with
 |[a],h=>exact⟨a,rfl,by simpa using h⟩
theorem aay {α β:Type}{f:α→β}{l:List α}{x y:β}(h:l.map f=[x,y]):∃a b,l=[a,b]∧f a=x∧f b=y:=by
 match l,h with
 |[a,b],h=>exact⟨a,b,rfl,by simpa using h⟩
theorem aey {α β:Type}{f:α→β}{l:List α}{x y z:β}(h:l.map f=[x,y,z]):∃a b c,l=[a,b,c]∧f a=x∧f b=y∧f c=z:=by
 match l,h with
 |[a,b,c],h=>exact⟨a,b,c,rfl,by simpa using h⟩
theorem NM:∀{L:Nat} {t:Tm} {k:Int} (cs:List Cell),aJ L t=(k,0)→Rng k (aG L cs t)
 |0,t,k,cs,h=>A4 _
 |L+1,t,k,cs,h=>by
  obtain⟨hn,hk⟩:=wY h
  obtain⟨ha,_⟩:=xt h
  have ih:∀a,a∈t.args→Rng (aJ L a).1 (aG L cs a):=fun a hm=>NM cs (show aJ L a=((aJ L a).1,0) by rw[←ha a hm])
  rw[nm]
  cases hn with
  |int h0 ha hn=>rw[if_pos (.inl h0)];exact⟨fun h=>(by cases h),fun _=>⟨fun h=>(by cases h),fun _=>hn⟩⟩
  |bool h0 ha hn=>rw[if_pos (.inr h0)];exact⟨fun h=>(by cases h),fun _=>⟨fun _=>hn,fun h=>by cases h⟩⟩
  |var h0 ha hn=>rw[if_neg (by omega),if_pos h0];exact aaQ cs _ hn
  |not h0 hk=>
   rw[if_neg (by omega),if_neg (by omega),if_neg (by omega)]
   unfold aS
   rw[if_pos h0]
   split
   ·exact Bh _
   ·exact A4 _
  |log h0 hk=>
   rw[if_neg (by omega),if_neg (by omega),if_neg (by omega)]
   unfold aS
   rw[if_neg (by omega)]
   split
   ·exact Bh _
   rw[if_neg (by omega)]
   split
   ·exact A4 _
   exact Bh _
  |ite k h0 hk2=>
   obtain⟨a,b,c,hl,e1,e2,e3⟩:=aey hk2
   rw[hl] at ih ⊢
   have r1:=ih a (by simp)
   have r2:=ih b (by simp)
   have r3:=ih c (by simp)
   rw[e1] at r1;rw[e2] at r2;rw[e3] at r3
   rw[if_neg (by omega),if_neg (by omega)]
   simp only[List.map_cons,List.map_nil,aH,List.getD_cons_zero]
   split
   ·rename_i hh
    rcases(r1.2 hh.2).1 rfl with h1|h1<;>rw[h1]
    ·exact r3
    ·exact r2
   ·unfold aS
    rw[if_neg (by omega),if_neg (by omega),if_pos h0]
    simp only[aH,List.getD_cons_zero,List.getD_cons_succ]
    split
    ·exact r2
    ·exact A4 _
  |less h0 hk=>
   rw[if_neg (by omega),if_neg (by omega),if_neg (by omega)]
   unfold aS
   rw[if_neg (by omega),if_neg (by omega),if_neg (by omega)]
   split
   ·exact A4 _
   repeat' split
   all_goals exact Bh _
  |equal k h0 hk=>
   rw[if_neg (by omega),if_neg (by omega),if_neg (by omega)]
   unfold aS
   rw[if_neg (by omega),if_neg (by omega),if_neg (by omega)]
   split
   ·exact A4 _
   repeat' split
   all_goals exact Bh _
  |num h0 hk2=>
   obtain⟨a,b,hl,e1,e2⟩:=aay hk2
   rw[hl] at ih ⊢
   have r1:=ih a (by simp)
   have r2:=ih b (by simp)
   rw[e1] at r1;rw[e2] at r2
   rw[if_neg (by omega),if_neg (by omega),if_neg (by omega)]
   unfold aS
   rw[if_neg (by omega),if_neg (by omega),if_neg (by omega)]
   simp only[List.map_cons,List.map_nil,aH,List.getD_cons_zero,List.getD_cons_succ]
   split
   ·exact A4 _
   rename_i hkn
   rw[if_neg (by omega),if_neg (by omega),if_neg (by omega)]
   have k1:(aG L cs a).known=true:=by
    cases e:(aG L cs a).known with
    |true=>rfl
    |false=>exact absurd (.inl e) hkn
   have k2:(aG L cs b).known=true:=by
    cases e:(aG L cs b).known with
    |true=>rfl
    |false=>exact absurd (.inr e) hkn
   exact⟨fun h=>(by cases h),fun _=>⟨fun h=>(by cases h),fun _=>aa3 _ _ _ ((r1.2 k1).2 rfl) ((r2.2 k2).2 rfl)⟩⟩
theorem S9:∀(L:Nat) (cs:List Cell) (t:Tm),bE L t≤60→((bC L cs t).length:Int)≤bE L t
 |0,cs,t,h=>by simp[bE] at h
 |L+1,cs,t,h=>by
  have h1:=th (L+1) t
  obtain⟨hl,hp⟩:=Ei h
  have hs:∀(l:List Tm) (n:Int),(∀a,a∈l→bE L a≤60)→fJ (bE L) l n≤60→((l.map (bC L cs)).flatten.length:Int)+n≤fJ (bE L) l n∧∀j,(((l.map (bC L cs)).getD j []).length:Int)+n≤fJ (bE L) l n:=by
   intro l
   induction l with
   |nil=>intro n _ _;simp[fJ]
   |cons a l ih=>
    intro n hp hm
    have ha:=S9 L cs a (hp a (by simp))
    unfold fJ at hm ⊢
    split at hm
    ·omega
    ·rename_i h60
     rw[if_neg h60]
     obtain⟨i1,i2⟩:=ih (n+bE L a) (fun b hb=>hp b (by simp[hb])) hm
     refine⟨by rw[List.map_cons,List.flatten_cons,List.length_append];omega,fun j=>?_⟩
     cases j with
     |zero=>simp;omega
     |succ j=>have:=i2 j;simp at this ⊢;omega
  obtain⟨hs1,hs2⟩:=hs t.args 1 hp h
  rw[uD]
  split
  ·simp;omega
  split
  ·split<;>simp<;>omega
  split
  ·have:=hs2 (2-(aH (t.args.map (aG L cs)) 0).n).toNat
   show _≤fJ _ _ _
   omega
  split
  ·simp;omega
  ·show _≤fJ _ _ _
   omega
@[simp] theorem aeo (x y:List Int):tS (ints x) 0 (ints y)=ints y:=_root_.id rfl
@[simp] theorem US (x y:Cell):tS (aI x) 0 (aI y)=aI y:=_root_.id rfl
@[simp] theorem ahu (a b:List Int):D.list (a.map D.int++b.map D.int)=ints (a++b):=by simp[ints]
def lists (l:List (List Int)):D:=.list (l.map ints)
@[simp] theorem akg (l:List (List Int)):(lists l).l=l.map ints:=_root_.id rfl
theorem VK (l:List (List Int))(hl:l.length≤1000)(hs:l.flatten.length≤1000000):Runs T qM [lists l] (ints l.flatten):=by
 refine .of_tree rfl As wu ?_
 simp[gF]
 have hb:∀k,(l.take k).flatten.length≤l.flatten.length:=by
  intro k
  conv=>rhs;rw[←List.take_append_drop k l]
  rw[List.flatten_append,List.length_append];omega
 have hk1:∀k (hk:k<l.length),(l.take (k+1)).flatten=(l.take k).flatten++l[k]:=fun k hk=>by
  rw[List.take_succ_eq_append_getElem hk,List.flatten_append];simp
 refine EvP.forRounds l.length (fun k=>[.int ((l.take k).flatten.length:Nat),.int k]) (fun k=>[]) ?_ (fun k hk=>?_) ?_
 ·simp
 ·have hw:=ar hk (by omega)
  have h1:=hk1 k hk
  have h2:=hb (k+1)
  rw[h1] at h2 ⊢
  rw[List.length_append] at h2 ⊢
  generalize (l.take k).flatten.length=m at*
  have hwm:IntKind.i64.wrap ((m:Int)+(l[k].length:Int))=(m:Int)+l[k].length:=az (by omega)
  have hnn:¬((m:Int)+l[k].length<0):=by omega
  simp[jk,cM,hk,hw,hwm,hnn]
 ·simp[jk,cM]
  have hgrow:Runs T 251 [.list [],.int (l.flatten.length:Nat)] (.list []):=by
   refine .of_ext (g:=fun _ ds=>ZL ds) rfl ⟨0,fun _ _=>?_⟩
   show(if(0:Int)≤(l.flatten.length:Nat)∧((l.flatten.length:Nat):Int)≤4294967296 then some (D.list []) else none)=some (D.list [])
   rw[if_pos (by omega)]
  rw[List.length_flatten] at hgrow
  refine⟨_,hgrow,?_⟩
  refine EvP.forRounds l.length (fun k=>[.none,.int k]) (fun k=>[ints (l.take k).flatten]) ?_ (fun k hk=>?_) ?_
  ·simp[ints]
  ·have hw:=ar hk (by omega)
   have h1:=hk1 k hk
   have h2:=hb (k+1)
   rw[h1] at h2 ⊢
   rw[List.length_append] at h2
   generalize (l.take k).flatten=m at*
   simp[jf,cT,hk,hw]
   omega
  ·simp[jf,cT]
theorem aep {op:Int}{l:List Cell}(h:(aS op l).known=false):aS op l=noC:=by
 have hy:∀b,(kQ b).known=true:=fun b=>by cases b<;>simp[kQ]
 unfold aS at h ⊢
 split<;>rename_i c1
 ·rw[if_pos c1] at h
  split<;>rename_i c2
  ·rw[if_pos c2,hy] at h;cases h
  ·rfl
 rw[if_neg c1] at h
 split<;>rename_i c2
 ·rw[if_pos c2,hy] at h;cases h
 rw[if_neg c2] at h
 split<;>rename_i c3
 ·rw[if_pos c3] at h
  split<;>rename_i c4
  ·rw[if_pos c4,c4.1] at h;cases h
  ·rfl
 rw[if_neg c3] at h
 split<;>rename_i c4
 ·rfl
 rw[if_neg c4] at h
 repeat' split at h
 all_goals first|(rw[hy] at h;cases h)|cases h
theorem Cq:∀(L:Nat) (cs:List Cell) (t:Tm) (k:Int),t.OK→bE L t≤60→aJ L t=(k,0)→Runs T kL [af7 cs,jz t] (.tup [aI (aG L cs t),ints (bC L cs t)])
 |0,cs,t,k,ht,hm,hc=>by simp[bE] at hm
 |L+1,cs,t,k,ht,hm,hc=>by
  refine .of_tree rfl BL wS ?_
  obtain⟨hl,hp⟩:=Ei hm
  obtain⟨ha,_⟩:=xt hc
  obtain⟨hn,hk01⟩:=wY hc
  have hrec:∀a,a∈t.args→Runs T kL [af7 cs,jz a] (.tup [aI (aG L cs a),ints (bC L cs a)]):=fun a hm'=>Cq L cs a (aJ L a).1 (ht.arg hm') (hp a hm') (by rw[←ha a hm'])
  have hrng:∀a,a∈t.args→Rng (aJ L a).1 (aG L cs a):=fun a hm'=>NM cs (show aJ L a=((aJ L a).1,0) by rw[←ha a hm'])
  have hnl:∀a,a∈t.args→(bC L cs a).length≤60:=fun a hm'=>by have:=S9 L cs a (hp a hm');have:=hp a hm';omega
  by_cases h01:t.op=0∨t.op=1
  ·
   have e1:aG (L+1) cs t=⟨true,t.n⟩:=by rw[nm,if_pos h01]
   have e2:bC (L+1) cs t=[]:=by rw[uD,if_pos h01]
   rw[e1,e2]
   rcases h01 with h|h<;>simp[cK,h]<;>exact⟨rfl,rfl⟩
  have o0:t.op≠0:=fun h=>h01 (.inl h)
  have o1:t.op≠1:=fun h=>h01 (.inr h)
  by_cases o2:t.op=2
  ·have hv:0≤t.n:=by
    cases hn with
    |var h0 ha hn=>exact hn.1
    |_=>omega
   have e1:aG (L+1) cs t=gf cs t.n:=by rw[nm,if_neg h01,if_pos o2]
   have e2:bC (L+1) cs t=if(gf cs t.n).known=true then[] else[t.n]:=by rw[uD,if_neg h01,if_pos o2]
   rw[e1,e2]
   simp[cK,o2]
   refine⟨_,LV cs t.n hv,?_⟩
   cases e:(gf cs t.n).known
   ·have:gf cs t.n=noC:=by
     unfold gf at e ⊢
     split
     ·rfl
     ·rename_i h
      rw[if_neg h] at e
      split at e
      ·cases hb:decide ((cellAt cs t.n).n≠0)<;>rw[hb] at e<;>cases e
      ·cases e
    rw[this]
    simp[ints]
   ·have h:gf cs t.n=⟨true,(gf cs t.n).n⟩:=by rw[←e]
    rw[h]
    simp[ints]
    try rfl
  have hlen:1≤t.args.length∧(t.op≠3→2≤t.args.length)∧(t.op=6→3≤t.args.length):=by
   cases hn with
   |int h0 ha hn=>omega
   |bool h0 ha hn=>omega
   |var h0 ha hn=>omega
   |not h0 hk=>obtain⟨a,hl,_⟩:=alj hk;rw[hl];simp;omega
   |log h0 hk=>obtain⟨a,b,hl,_⟩:=aay hk;rw[hl];simp;omega
   |ite k h0 hk=>obtain⟨a,b,c,hl,_⟩:=aey hk;rw[hl];simp
   |less h0 hk=>obtain⟨a,b,hl,_⟩:=aay hk;rw[hl];simp;omega
   |equal k h0 hk=>obtain⟨a,b,hl,_⟩:=aay hk;rw[hl];simp;omega
   |num h0 hk=>obtain⟨a,b,hl,_⟩:=aay hk;rw[hl];simp;omega
  have hb9:9≤t.op→(-1099511627776≤(aH (t.args.map (aG L cs)) 0).n∧(aH (t.args.map (aG L cs)) 0).n≤1099511627776)∧(-1099511627776≤(aH (t.args.map (aG L cs)) 1).n∧(aH (t.args.map (aG L cs)) 1).n≤1099511627776):=by
   intro h9
   have rb:∀c:Cell,Rng 0 c→-1099511627776≤c.n∧c.n≤1099511627776:=by
    intro c hr
    cases e:c.known with
    |false=>rw[hr.1 e];simp
    |true=>exact(hr.2 e).2 rfl
   cases hn with
   |num h0 hk=>
    obtain⟨a,b,hl,ea,eb⟩:=aay hk
    rw[hl] at hrng ⊢
    have r1:=hrng a (by simp)
    have r2:=hrng b (by simp)
    rw[ea] at r1;rw[eb] at r2
    exact⟨rb _ r1,rb _ r2⟩
   |log h0 hk=>omega
   |_=>omega
  have h6:t.op=6→(aH (t.args.map (aG L cs)) 0).known=true→(aH (t.args.map (aG L cs)) 0).n=0∨(aH (t.args.map (aG L cs)) 0).n=1:=by
   intro o6 hkn
   cases hn with
   |ite k h0 hk=>
    obtain⟨a,b,c,hl,ea,_⟩:=aey hk
    rw[hl] at hrng hkn ⊢
    have r1:=hrng a (by simp)
    rw[ea] at r1
    exact(r1.2 hkn).1 rfl
   |log h0 hk=>omega
   |num h0 hk=>omega
   |_=>omega
  have hop:t.op<3∨8<t.op→9≤t.op:=by
   cases hn with
   |log h0 hk=>omega
   |num h0 hk=>omega
   |_=>omega
  have e1:aG (L+1) cs t=if t.op=6∧(aH (t.args.map (aG L cs)) 0).known=true then aH (t.args.map (aG L cs)) (2-(aH (t.args.map (aG L cs)) 0).n).toNat else aS t.op (t.args.map (aG L cs)):=by
   rw[nm,if_neg h01,if_neg o2]
  have e2:bC (L+1) cs t=if t.op=6∧(aH (t.args.map (aG L cs)) 0).known=true then(t.args.map (bC L cs)).getD (2-(aH (t.args.map (aG L cs)) 0).n).toNat [] else if(aS t.op (t.args.map (aG L cs))).known=true then[] else(t.args.map (bC L cs)).flatten:=by
   rw[uD,if_neg h01,if_neg o2]
  rw[e1,e2]
  simp[cK,o0,o1,o2]
  refine⟨by omega,?_⟩
  refine EvP.forRounds t.args.length (fun k=>[.int k]) (fun k=>[cells ((t.args.map (aG L cs)).take k++List.replicate (t.args.length-k) noC),lists ((t.args.map (bC L cs)).take k++List.replicate (t.args.length-k) [])]) ?_ (fun k hk=>?_) ?_
  ·simp[cells,lists,ints]
  ·have hw:=ar hk (by omega)
   have hmem:=List.getElem_mem hk
   have hr:=hrec _ hmem
   have s1:=D6 (t.args.map (aG L cs)) noC (n:=t.args.length) (by simp) hk
   have s2:=D6 (t.args.map (bC L cs)) [] (n:=t.args.length) (by simp) hk
   rw[←s1,←s2]
   have l1:((t.args.map (aG L cs)).take k++List.replicate (t.args.length-k) noC).length=t.args.length:=by simp;omega
   have l2:((t.args.map (bC L cs)).take k++List.replicate (t.args.length-k) []).length=t.args.length:=by simp;omega
   have g1:(t.args.map (aG L cs))[k]'(by simpa using hk)=aG L cs t.args[k]:=by simp
   have g2:(t.args.map (bC L cs))[k]'(by simpa using hk)=bC L cs t.args[k]:=by simp
   rw[g1,g2]
   generalize (t.args.map (aG L cs)).take k++List.replicate (t.args.length-k) noC=A at*
   generalize (t.args.map (bC L cs)).take k++List.replicate (t.args.length-k) []=B at*
   generalize aG L cs t.args[k]=c at*
   generalize bC L cs t.args[k]=d at*
   simp[dZ,bR,hk]
   refine⟨_,hr,?_⟩
   simp[hw,hk,l1,l2,cells,lists]
  ·have hA:(t.args.map (aG L cs)).take t.args.length++List.replicate (t.args.length-t.args.length) noC=t.args.map (aG L cs):=by rw[Nat.sub_self,List.replicate_zero,List.append_nil,List.take_of_length_le (by simp)]
   have hB:(t.args.map (bC L cs)).take t.args.length++List.replicate (t.args.length-t.args.length) []=t.args.map (bC L cs):=by rw[Nat.sub_self,List.replicate_zero,List.append_nil,List.take_of_length_le (by simp)]
   have lA:(t.args.map (aG L cs)).length=t.args.length:=by simp
   have lB:(t.args.map (bC L cs)).length=t.args.length:=by simp
   have hfl:∀l:List Tm,(∀a,a∈l→a∈t.args)→((l.map (bC L cs)).flatten.length≤l.length*60):=by
    intro l
    induction l with
    |nil=>intro _;simp
    |cons a l ih=>
     intro h
     have h1:=hnl a (h a (by simp))
     have h2:=ih (fun b hb=>h b (by simp[hb]))
     rw[List.map_cons,List.flatten_cons,List.length_append,List.length_cons]
     omega
   have hfl:=hfl t.args (fun a h=>h)
   have hBg:∀m:Nat,(Option.map (bC L cs) t.args[m]?).getD []=(t.args.map (bC L cs)).getD m []:=fun m=>by simp[List.getD_eq_getElem?_getD]
   rw[hA,hB]
   generalize t.args.map (aG L cs)=A at*
   generalize t.args.map (bC L cs)=B at*
   have g0:0<A.length:=by omega
   have gg0:A[0]=aH A 0:=by simp[aH,g0]
   by_cases h6k:t.op=6∧(aH A 0).known=true
   ·obtain⟨o6,kn⟩:=h6k
    have hv:=h6 o6 kn
    have hw:IntKind.i64.wrap (2-(aH A 0).n)=2-(aH A 0).n:=az (by omega)
    have h3:3≤t.args.length:=hlen.2.2 o6
    rw[if_pos ⟨o6,kn⟩,if_pos ⟨o6,kn⟩]
    obtain⟨m,hm'⟩:∃m:Nat,m=(2-(aH A 0).n).toNat:=⟨_,rfl⟩
    have hmA:m<A.length:=by omega
    have hmB:m<B.length:=by omega
    simp[dZ,bR,o6,kn,g0,gg0,hw,←hm',hmA,hmB,cells,lists]
    refine⟨by omega,by omega,by simp[aH,hmA],?_⟩
    rw[hBg,List.getD_eq_getElem?_getD,List.getElem?_eq_getElem hmB]
    rfl
   ·rw[if_neg h6k,if_neg h6k]
    have hcomb:=Hs t.op A (by omega) (by omega) (by omega) hb9 hop
    have hconc:=VK B (by omega) (by omega)
    simp[dZ,bR,g0,gg0]
    rw[if_neg h6k]
    refine⟨_,hcomb,?_⟩
    cases e:(aS t.op A).known
    ·have hno:aS t.op A=noC:=aep e
     rw[hno]
     simp
     exact hconc
    ·have h:aS t.op A=⟨true,(aS t.op A).n⟩:=by rw[←e]
     rw[h]
     simp[ints]
     try rfl
end Rm
namespace Rm
open Go Go.Proofs Cx
def ixB (n:Nat)(g:Nat→Bool):Int:=if(List.range n).findIdx g<n then((List.range n).findIdx g:Nat) else-1
theorem wE (n:Nat)(g:Nat→Bool):(ixB n g=-1∧∀k,k<n→g k=false)∨∃k:Nat,k<n∧ixB n g=k∧g k=true∧∀i,i<k→g i=false:=by
 unfold ixB
 split
 ·rename_i h
  refine .inr ⟨_,h,rfl,?_,fun i hi=>?_⟩
  ·have:=List.findIdx_getElem (p:=g) (xs:=List.range n) (w:=by simpa using h)
   simpa using this
  ·have:=List.not_of_lt_findIdx (p:=g) (xs:=List.range n) hi
   simpa using this
 ·rename_i h
  refine .inl ⟨rfl,fun k hk=>?_⟩
  have:=List.not_of_lt_findIdx (p:=g) (xs:=List.range n) (i:=k) (by omega)
  simpa using this
theorem Pf {n:Nat}{g:Nat→Bool}(h:∀k,k<n→g k=false):ixB n g=-1:=by
 rcases wE n g with⟨h1,_⟩|⟨k,hk,_,h2,_⟩
 ·exact h1
 ·rw[h k hk] at h2;cases h2
theorem NU {n k:Nat}{g:Nat→Bool}(hk:k<n)(h:g k=true)(hj:∀i,i<k→g i=false):ixB n g=k:=by
 rcases wE n g with⟨_,h1⟩|⟨m,hm,h1,h2,h3⟩
 ·rw[h1 k hk] at h;cases h
 ·rcases Nat.lt_trichotomy m k with h4|h4|h4
  ·rw[hj m h4] at h2;cases h2
  ·rw[h1,h4]
  ·rw[h3 k h4] at h;cases h
theorem ade (n:Nat)(g:Nat→Bool):decide (0≤ixB n g)=(List.range n).any g:=by
 rcases wE n g with⟨h1,h2⟩|⟨m,hm,h1,h2,h3⟩
 ·rw[h1]
  symm
  simp
  exact h2
 ·rw[h1]
  simp
  exact⟨m,hm,h2⟩
theorem BP (l:List Rule)(f:Nat)(caps:List D)(g:Nat→Bool)(hg:∀k (hk:k<l.length),Runs T f (q8 l[k]::caps) (.bool (g k)))(hl:l.length≤4294967296):
 Runs T lu [rules l,.clo f caps] (.int (ixB l.length g)):=by
 refine .of_tree rfl vI rn ?_
 simp[eg]
 refine .scan l.length (fun k=>g k=false) (fun k=>[.int 0,.int k]) (fun _=>[]) ?_ (fun k hk hj ho=>?_) (fun k hk hj ho=>?_) (fun hj=>?_)
 ·simp
 ·have hw:=ar hk hl
  simp[cu,aW,hk,hw]
  refine⟨_,_,⟨rfl,rfl⟩,_,hg k hk,?_⟩
  simp[ho,hw]
 ·have he:=NU hk (by simpa using ho) hj
  simp[cu,aW,hk,he]
  refine⟨_,_,⟨rfl,rfl⟩,_,hg k hk,?_⟩
  simp[ho]
 ·have he:=Pf hj
  simp[cu,aW,he]
theorem DB (l:List Int)(f:Nat)(caps:List D)(g:Nat→Bool)(hg:∀k (hk:k<l.length),Runs T f (.int l[k]::caps) (.bool (g k)))(hl:l.length≤4294967296):
 Runs T lY [ints l,.clo f caps] (.int (ixB l.length g)):=by
 refine .of_tree rfl wA sY ?_
 simp[eM]
 refine .scan l.length (fun k=>g k=false) (fun k=>[.int 0,.int k]) (fun _=>[]) ?_ (fun k hk hj ho=>?_) (fun k hk hj ho=>?_) (fun hj=>?_)
 ·simp
 ·have hw:=ar hk hl
  simp[cC,bj,hk,hw,ints]
  refine⟨_,_,⟨rfl,rfl⟩,_,hg k hk,?_⟩
  simp[ho,hw]
 ·have he:=NU hk (by simpa using ho) hj
  simp[cC,bj,hk,he,ints]
  refine⟨_,_,⟨rfl,rfl⟩,_,hg k hk,?_⟩
  simp[ho]
 ·have he:=Pf hj
  simp[cC,bj,he,ints]
theorem AA (l:List Alter)(f:Nat)(caps:List D)(g:Nat→Bool)(hg:∀k (hk:k<l.length),Runs T f (gP l[k]::caps) (.bool (g k)))(hl:l.length≤4294967296):
 Runs T jE [alters l,.clo f caps] (.int (ixB l.length g)):=by
 refine .of_tree rfl tu qq ?_
 simp[dy]
 refine .scan l.length (fun k=>g k=false) (fun k=>[.int 0,.int k]) (fun _=>[]) ?_ (fun k hk hj ho=>?_) (fun k hk hj ho=>?_) (fun hj=>?_)
 ·simp
 ·have hw:=ar hk hl
  simp[bV,aU,hk,hw]
  refine⟨_,_,⟨rfl,rfl⟩,_,hg k hk,?_⟩
  simp[ho,hw]
 ·have he:=NU hk (by simpa using ho) hj
  simp[bV,aU,hk,he]
  refine⟨_,_,⟨rfl,rfl⟩,_,hg k hk,?_⟩
  simp[ho]
 ·have he:=Pf hj
  simp[bV,aU,he]
theorem yN (l:List Int)(f:Nat)(caps:List D)(g:Nat→Bool)(hg:∀k (hk:k<l.length),Runs T f (.int l[k]::caps) (.bool (g k)))(hl:l.length≤4294967296):
 Runs T jh [ints l,.clo f caps] (.bool ((List.range l.length).any g)):=by
 refine .of_tree rfl rW oW ?_
 simp[di]
 refine⟨_,DB l f caps g hg hl,?_⟩
 have:=ade l.length g
 simp[←this]
theorem wx (l:List Alter)(f:Nat)(caps:List D)(g:Nat→Bool)(hg:∀k (hk:k<l.length),Runs T f (gP l[k]::caps) (.bool (g k)))(hl:l.length≤4294967296):
 Runs T gq [alters l,.clo f caps] (.bool ((List.range l.length).any g)):=by
 refine .of_tree rfl pk mV ?_
 simp[cD]
 refine⟨_,AA l f caps g hg hl,?_⟩
 have:=ade l.length g
 simp[←this]
def C4 (cs:List Cell)(t:Tm):Cell:=if(nw t).2=0 then aG 8 cs t else noC
theorem SU {t:Tm}(h:(nw t).2=0):bE 8 t≤60∧aJ 8 t=((nw t).1,0):=by
 unfold nw at h ⊢
 split at h
 ·cases h
 ·rename_i hm
  rw[if_neg hm]
  exact⟨by omega,by rw[←h]⟩
theorem PV (t:Tm)(cs:List Cell)(ht:t.OK):Runs T KK [jz t,cells cs] (aI (C4 cs t)):=by
 refine .of_tree rfl Uq Lm ?_
 simp[xQ,C4]
 refine⟨_,yx t ht,?_⟩
 by_cases h:(nw t).2=0
 ·obtain⟨h1,h2⟩:=SU h
  simp[h]
  refine⟨_,Cq 8 cs t _ ht h1 h2,?_⟩
  simp
  try rfl
 ·simp[h]
  try rfl
def ago:List Int:=[6,7,10,12,13,14,15,16,20,21]
def y5 (ask:Int):Int×Bool:=if ask<0∨22≤ask then(0,false) else if hasB ago ask then(0,true) else(1,true)
theorem pS (ask:Int):Runs T Hv [.int ask] (.tup [.int (y5 ask).1,.bool (y5 ask).2]):=by
 refine .of_tree rfl R9 Jn ?_
 simp[vz,y5]
 by_cases h0:ask<0
 ·simp[h0]
 by_cases h1:22≤ask
 ·simp[h0,h1]
 simp[h0,h1]
 refine⟨_,cA ago ask (by decide),?_⟩
 cases h:hasB ago ask<;>simp[h]
def noT:Tm:=⟨0,0,[]⟩
def K8 (o:Order)(ask:Int)(k:Nat):Bool:=decide ((o.rules.getD k default).ask=ask)
def PG (o:Order)(i:Int):Tm:=(o.rules.getD i.toNat default).term
def findF (o:Order)(ask:Int):Tm×Int:=
 if(y5 ask).2=false then(noT,1) else if ixB o.rules.length (K8 o ask)<0 then(noT,4) else
    if(nw (PG o (ixB o.rules.length (K8 o ask)))).2≠0∨(nw (PG o (ixB o.rules.length (K8 o ask)))).1≠(y5 ask).1 then(noT,11) else(PG o (ixB o.rules.length (K8 o ask)),0)
theorem ZZ {o:Order}(ho:o.OK){m:Nat}(hm:m<o.rules.length):o.rules[m].term.OK:=(ho.2.2 _ (List.getElem_mem hm)).2
theorem YR:noT.OK:=by
 exact .mk 0 0 [] (by unfold I64;omega) (by unfold I64;omega) (by decide) (fun _ h=>by cases h)
theorem ad9 {o:Order}(ho:o.OK)(ask:Int):(findF o ask).1.OK:=by
 unfold findF
 split
 ·exact YR
 split
 ·exact YR
 split
 ·exact YR
 ·rename_i h _
  rcases wE o.rules.length (K8 o ask) with⟨h1,h2⟩|⟨m,hm,h1,h2,h3⟩
  ·exact absurd (by rw[h1];decide) h
  ·rw[h1]
   simp[PG,hm]
   exact ZZ ho hm
theorem XZ (r:Rule)(ask:Int):Runs T rZ [q8 r,.ref (.int ask)] (.bool (decide (r.ask=ask))):=by
 refine .of_tree rfl Mr EJ ?_
 simp[qa]
theorem M1 (o:Order)(ask:Int)(ho:o.OK)(hl:o.rules.length≤4294967296):Runs T FX [bQ o,.int ask] (.tup [jz (findF o ask).1,.int (findF o ask).2]):=by
 refine .of_tree rfl Sq JR ?_
 simp[vf,findF]
 refine⟨_,pS ask,?_⟩
 cases h0:(y5 ask).2
 ·simp[h0]
  try rfl
 simp[h0]
 refine⟨_,BP o.rules rZ [.ref (.int ask)] (K8 o ask) (fun k hk=>by simpa [K8,hk] using XZ o.rules[k] ask) hl,?_⟩
 rcases wE o.rules.length (K8 o ask) with⟨h1,h2⟩|⟨m,hm,h1,h2,h3⟩
 ·rw[h1]
  simp
  try rfl
 ·rw[h1]
  have hnn:¬((m:Int)<0):=by omega
  have htm:o.rules[m].term.OK:=ZZ ho hm
  simp[hm,PG,hnn]
  refine⟨_,yx _ htm,?_⟩
  by_cases h4:(nw o.rules[m].term).2=0<;>by_cases h5:(nw o.rules[m].term).1=(y5 ask).1<;>simp[h4,h5]<;>try rfl
def mD (o:Order)(ask:Int)(cs:List Cell):Cell×Int:=
 if(findF o ask).2≠0 then(noC,(findF o ask).2) else
    (if(y5 ask).1=0∧(C4 cs (findF o ask).1).known=true then⟨true,min (max (C4 cs (findF o ask).1).n 0) 20000⟩ else C4 cs (findF o ask).1,0)
theorem Fz (o:Order)(ask:Int)(cs:List Cell)(ho:o.OK)(hl:o.rules.length≤4294967296):Runs T Ac [bQ o,.int ask,cells cs] (.tup [aI (mD o ask cs).1,.int (mD o ask cs).2]):=by
 refine .of_tree rfl M7 DM ?_
 simp[qt]
 refine⟨_,M1 o ask ho hl,?_⟩
 have hf:(findF o ask).1.OK:=ad9 ho ask
 by_cases h:(findF o ask).2=0
 ·simp[h,mD]
  refine⟨_,PV _ cs hf,_,pS ask,?_⟩
  generalize C4 cs (findF o ask).1=c
  obtain⟨kn,n⟩:=c
  by_cases h1:(y5 ask).1=0
  ·cases kn
   ·simp[h1,aI]
   ·by_cases h2:n<0
    ·have:min (max n 0) 20000=0:=by omega
     simp[h1,aI,h2,this]
     rfl
    ·by_cases h3:20000<n
     ·have:min (max n 0) 20000=20000:=by omega
      simp[h1,aI,h2,h3,this]
      rfl
     ·have:min (max n 0) 20000=n:=by omega
      simp[h1,aI,h2,h3,this]
      rfl
  ·simp[h1,aI]
 ·simp[h,mD]
  try rfl
end Rm
namespace Rm
open Go Go.Proofs Cx
theorem tW (b:Bool):Runs T AT [.bool b] (aI (kQ b)):=by
 refine .of_tree rfl Lp Di ?_
 cases b<;>simp[pq,kQ]<;>rfl
def jM (kind sign:Int)(x:Fact):Bool:=decide (x.kind=kind)&&decide (x.at_=sign)
def bh (f:File)(kind sign:Int):Cell:=match f.facts.find? (jM kind sign) with|none=>noC|some x=>kQ (decide (x.n≠0))
theorem nk {α:Type}{p:α→Bool}:∀{l:List α} {k:Nat} (hk:k<l.length),p l[k]=true→(∀j (hj:j<k),p (l[j]'(by omega))=false)→l.find? p=some l[k]
 |a::l,0,hk,h,hj=>by simp at h;simp[h]
 |a::l,k+1,hk,h,hj=>by
  have h0:=hj 0 (by omega)
  simp at h0
  simp only[List.find?_cons,h0,List.getElem_cons_succ]
  exact nk (by simpa using hk) (by simpa using h) (fun j hj'=>by simpa using hj (j+1) (by omega))
theorem mz {α:Type}{p:α→Bool}{l:List α}(h:∀j (hj:j<l.length),p l[j]=false):l.find? p=none:=by
 rw[List.find?_eq_none]
 intro x hx
 obtain⟨j,hj,rfl⟩:=List.getElem_of_mem hx
 rw[h j hj];decide
theorem eF (f:File)(kind sign:Int)(hl:f.facts.length≤4294967296):Runs T Cr [aD f,.int kind,.int sign] (aI (bh f kind sign)):=by
 refine .of_tree rfl P2 F1 ?_
 simp[s9]
 refine .scan f.facts.length (fun k=>jM kind sign (f.facts.getD k default)=false) (fun k=>[.int k]) (fun _=>[aI noC]) ?_ (fun k hk hj ho=>?_) (fun k hk hj ho=>?_) (fun hj=>?_)
 ·simp
 ·have hw:=ar hk hl
  simp[hk,jM] at ho
  by_cases h1:f.facts[k].kind=kind<;>by_cases h2:f.facts[k].at_=sign
  ·exact absurd h2 (ho h1)
  all_goals simp[jB,eP,hk,hw,h1,h2]
 ·have hw:=ar hk hl
  have hf:bh f kind sign=kQ (decide (f.facts[k].n≠0)):=by
   unfold bh
   rw[nk hk (by simpa [hk] using ho) (fun j hj'=>by have:=hj j hj';simpa [show j<f.facts.length by omega] using this)]
  simp[hk,jM] at ho
  simp[jB,eP,hk,hw,ho,hf]
  refine⟨_,tW _,?_⟩
  simp
  try rfl
 ·have hf:bh f kind sign=noC:=by
   unfold bh
   rw[mz (fun j hj'=>by have:=hj j hj';simpa [hj'] using this)]
  simp[jB,eP,hf]
  try rfl
def aY (r:Realm)(c:Int):Int:=if inB c r.cities.length=true then(r.cities.getD c.toNat default).order else-1
theorem aK (r:Realm)(c:Int):Runs T yo [au r,.int c] (.int (aY r c)):=by
 refine .of_tree rfl JF B4 ?_
 simp[nq,aY]
 refine⟨_,aB c r.cities.length,?_⟩
 cases h:inB c r.cities.length
 ·simp[h]
 ·simp[inB] at h
  have h1:c.toNat<r.cities.length:=by omega
  simp[h,h1]
def upS (day:Int)(l:List Sign):List Sign:=l.takeWhile fun s=>decide (s.day≤day)
def upA (day:Int)(l:List Act):List Act:=l.takeWhile fun s=>decide (s.day≤day)
def RE (n:Nat)(a:Alter):Bool:=decide (a.at_≤(n:Int))
def Dl (n:Nat)(x:Fact):Bool:=inB x.at_ n
def atF (f:File)(day:Int):File:=
 ⟨f.bill,upS day f.signs,f.alters.filter (RE (upS day f.signs).length),upA day f.acts,f.facts.filter (Dl (upS day f.signs).length)⟩
theorem Ni {α:Type}(p:α→Bool):∀(l:List α),∃m,m≤l.length∧l.takeWhile p=l.take m∧(∀k (hk:k<l.length),k<m→p l[k]=true)∧(∀hk:m<l.length,p l[m]=false)
 |[]=>⟨0,by simp,by simp,fun k hk=>by simp at hk,fun hk=>by simp at hk⟩
 |a::l=>by
  by_cases h:p a=true
  ·obtain⟨m,h1,h2,h3,h4⟩:=Ni p l
   refine⟨m+1,by simp;omega,by simp[h,h2],fun k hk hm=>?_,fun hk=>?_⟩
   ·cases k with
    |zero=>simpa using h
    |succ k=>simpa using h3 k (by simpa using hk) (by omega)
   ·simpa using h4 (by simpa using hk)
  ·refine⟨0,by simp,by simp[h],fun k hk hm=>by omega,fun hk=>by simpa using h⟩
theorem lb {α:Type}(p:α→Bool)(l:List α){k:Nat}(hk:k<l.length):(l.take (k+1)).filter p=(l.take k).filter p++if p l[k] then[l[k]] else[]:=by
 rw[List.take_succ_eq_append_getElem hk,List.filter_append]
 congr 1
 cases h:p l[k]<;>simp[h]
def acN (b:Bill)(w x y z:D):D:=.agg [.int b.drawer,.int b.drawee,.int b.payee,.int b.sum,.int b.currency,.int b.tenor.kind,.int b.tenor.n,.int b.tenor.unit,.int b.day,.int b.city,.int b.pay,.int b.need,.int b.rate,.int b.flags,.int b.parts,w,x,y,z]
def yE {α:Type}(l:List α):D:=match l with|[]=>.list []|_=>.none
@[simp] theorem agP {α:Type}:yE ([]:List α)=.list []:=rfl
@[simp] theorem agW {α:Type}(l:List α)(x:α):yE (l++[x])=.none:=by cases l<;>rfl
theorem sR (f:File)(day:Int)(h1:f.signs.length≤4294967295)(h2:f.acts.length≤4294967295)(h3:f.alters.length≤4294967295)(h4:f.facts.length≤4294967295):Runs T KO [aD f,.int day] (aD (atF f day)):=by
 refine .of_tree rfl Vh LX ?_
 simp[xK]
 obtain⟨m,hm,hS,hS1,hS2⟩:=Ni (fun s:Sign=>decide (s.day≤day)) f.signs
 obtain⟨n,hn,hA,hA1,hA2⟩:=Ni (fun s:Act=>decide (s.day≤day)) f.acts
 refine EvP.forRounds m (fun k=>[.int k]) (fun k=>[signs (f.signs.take k),acN f.bill (yE (f.signs.take k)) (.list []) (.list []) (.list [])]) ?_ (fun k hk=>?_) ?_
 ·simp[acN,signs]
  try rfl
 ·have hk':k<f.signs.length:=by omega
  have hw:=ar hk' (by omega)
  have hd:=hS1 k hk' hk
  simp at hd
  have hd':¬day<f.signs[k].day:=by omega
  have hle:(k:Int)+1≤4294967296:=by omega
  have ht:=List.take_succ_eq_append_getElem hk'
  rw[ht]
  have hlen:(f.signs.take k).length=k:=by simp;omega
  generalize f.signs.take k=A at*
  simp[mj,gH,hk',hw,hd',hlen]
  exact⟨hle,by simp[signs],rfl⟩
 have hSl:(f.signs.take m).length≤4294967295:=by rw[List.length_take];omega
 have hAt:atF f day=⟨f.bill,f.signs.take m,f.alters.filter (RE (f.signs.take m).length),f.acts.take n,f.facts.filter (Dl (f.signs.take m).length)⟩:=by
  unfold atF upS upA
  rw[hS,hA]
 rw[hAt]
 generalize f.signs.take m=S at*
 have hAl:(f.acts.take n).length≤4294967295:=by rw[List.length_take];omega
 by_cases hm':m<f.signs.length
 case' pos=>
  have hd:=hS2 hm'
  simp at hd
  simp[mj,gH,hm',hd]
  generalize D.bool true=bb
 case' neg=>
  have hm2:m=f.signs.length:=by omega
  simp[mj,gH,hm',hm2]
  generalize D.bool false=bb
 all_goals
  refine EvP.forRounds n (fun k=>[.int k]) (fun k=>[acts (f.acts.take k),acN f.bill (yE S) (.list []) (yE (f.acts.take k)) (.list [])]) ?_ (fun k hk=>?_) ?_
  ·simp[acts]
  ·have hk':k<f.acts.length:=by omega
   have hw:=ar hk' (by omega)
   have hd:=hA1 k hk' hk
   simp at hd
   have hd':¬day<f.acts[k].day:=by omega
   have hle:(k:Int)+1≤4294967296:=by omega
   have ht:=List.take_succ_eq_append_getElem hk'
   rw[ht]
   have hlen:(f.acts.take k).length=k:=by simp;omega
   generalize f.acts.take k=A at*
   simp[lX,gL,hk',hw,hd',hlen]
   exact⟨hle,by simp[acts],rfl⟩
  generalize f.acts.take n=A at*
  by_cases hn':n<f.acts.length
  case' pos=>
   have hd:=hA2 hn'
   simp at hd
   simp[lX,gL,hn',hd]
   generalize D.bool true=bc
  case' neg=>
   have hn2:n=f.acts.length:=by omega
   simp[lX,gL,hn',hn2]
   generalize D.bool false=bc
  all_goals
   refine EvP.forRounds f.alters.length (fun k=>[.int k]) (fun k=>[acN f.bill (yE S) (yE ((f.alters.take k).filter (RE S.length))) (yE A) (.list []),alters ((f.alters.take k).filter (RE S.length))]) ?_ (fun k hk=>?_) ?_
   ·simp[alters]
   ·have hw:=ar hk (by omega)
    have ht:=lb (RE S.length) f.alters hk
    rw[ht]
    have hlen:((f.alters.take k).filter (RE S.length)).length≤k:=Nat.le_trans (List.length_filter_le _ _) (by simp;omega)
    generalize (f.alters.take k).filter (RE S.length)=B at*
    by_cases hd:f.alters[k].at_≤(S.length:Int)
    ·simp[mR,gD,RE,hk,hw,hd]
     exact⟨by omega,rfl,by simp[alters]⟩
    ·simp[mR,gD,RE,hk,hw,hd]
   simp[mR,gD]
   generalize f.alters.filter (RE S.length)=B at*
   refine EvP.forRounds f.facts.length (fun k=>[.int k]) (fun k=>[acN f.bill (yE S) (yE B) (yE A) (yE ((f.facts.take k).filter (Dl S.length))),facts ((f.facts.take k).filter (Dl S.length))]) ?_ (fun k hk=>?_) ?_
   ·simp[facts]
   ·have hw:=ar hk (by omega)
    have ht:=lb (Dl S.length) f.facts hk
    rw[ht]
    have hlen:((f.facts.take k).filter (Dl S.length)).length≤k:=Nat.le_trans (List.length_filter_le _ _) (by simp;omega)
    generalize (f.facts.take k).filter (Dl S.length)=C at*
    cases hd:inB f.facts[k].at_ S.length
    ·simp[lz,gX,Dl,hk,hw,hd]
     refine⟨_,aL _ _,?_⟩
     simp[hd,hw]
    ·simp[lz,gX,Dl,hk,hw,hd]
     refine⟨_,aL _ _,?_⟩
     simp[hd,hw]
     exact⟨by omega,rfl,by simp[facts]⟩
   simp[lz,gX]
   rfl
end Rm
namespace Rm
open Go Go.Proofs Cx
def aaz:List Int→Int
 |[]=>-1
 |x::l=>l.foldl min x
theorem Up (x:Int)(l:List Int)(hl:l.length<4294967296):Runs T wc [ints (x::l)] (.int (aaz (x::l))):=by
 refine .of_tree rfl Gi A8 ?_
 have h0:¬((l.length:Int)+1<1):=by omega
 simp[l7,h0,aaz,ints]
 refine EvP.forRounds l.length (fun k=>[.int ((l.take k).foldl min x),.int ((k:Int)+1)]) (fun k=>[]) ?_ (fun k hk=>?_) ?_
 ·simp
 ·have hw:IntKind.i64.wrap ((k:Int)+1+1)=(k:Int)+1+1:=az (by omega)
  rw[List.take_succ_eq_append_getElem hk,List.foldl_append]
  generalize (l.take k).foldl min x=y
  have ht:((k:Int)+1).toNat=k+1:=by omega
  have hlt:(k:Int)+1<(l.length:Int)+1:=by omega
  simp[mO,eA,hk,hw,ht,hlt]
  refine⟨by omega,?_⟩
  by_cases h:l[k]<y
  ·simp[h];omega
  ·simp[h];omega
 ·simp[mO,eA]
def tO (f:File)(n:Nat):List Int:=if f.bill.tenor.kind=1 then((f.signs.take n).filter (fun s=>decide (s.kind=1))).map (·.day) else[]
def qJ (f:File)(n:Nat):List Int:=if f.bill.tenor.kind=1 then((f.acts.take n).filter (fun s=>decide (s.kind=1))).map (·.day) else[]
def Kd (f:File)(a:Act):Bool:=decide (f.bill.tenor.kind=0)&&decide (a.kind=2)
def x9 (f:File):Int:=match f.acts.find? (Kd f) with|some a=>a.day|none=>aaz (tO f f.signs.length++qJ f f.acts.length)
theorem IT (f:File)(h1:f.signs.length≤100000)(h2:f.acts.length≤100000):Runs T Ct [aD f] (.int (x9 f)):=by
 refine .of_tree rfl PU FN ?_
 simp[su]
 refine EvP.forRounds f.signs.length (fun k=>[.none,.int k]) (fun k=>[ints (tO f k)]) ?_ (fun k hk=>?_) ?_
 ·simp[tO,ints]
 ·have hw:=ar hk (by omega)
  have hs:tO f (k+1)=tO f k++if f.bill.tenor.kind=1∧f.signs[k].kind=1 then[f.signs[k].day] else[]:=by
   unfold tO
   by_cases h:f.bill.tenor.kind=1
   ·simp only[if_pos h,lb _ _ hk,List.map_append,h,true_and]
    congr 1
    by_cases h':f.signs[k].kind=1<;>simp[h']
   ·simp[h]
  have hlen:(tO f k).length≤k:=by
   unfold tO
   split
   ·rw[List.length_map]
    exact Nat.le_trans (List.length_filter_le _ _) (by simp;omega)
   ·simp
  rw[hs]
  generalize tO f k=A at*
  by_cases hc:f.bill.tenor.kind=1∧f.signs[k].kind=1
  ·simp[ju,eO,hk,hw,hc]
   exact⟨by omega,by simp[ints]⟩
  ·simp[ju,eO,hk,hw,hc]
 ·have hlS:(tO f f.signs.length).length≤100000:=by
   unfold tO
   split
   ·rw[List.length_map]
    exact Nat.le_trans (List.length_filter_le _ _) (by simp;omega)
   ·simp
  have hE:x9 f=match f.acts.find? (Kd f) with|some a=>a.day|none=>aaz (tO f f.signs.length++qJ f f.acts.length):=rfl
  generalize tO f f.signs.length=A at*
  simp[ju,eO]
  refine EvP.scan f.acts.length (fun k=>Kd f (f.acts.getD k default)=false) (fun k=>[.int 0,.none,.int k]) (fun k=>[ints (A++qJ f k)]) ?_ (fun k hk hj ho=>?_) (fun k hk hj ho=>?_) (fun hj=>?_)
  ·simp[qJ,ints]
  ·have hw:=ar hk (by omega)
   have hs:qJ f (k+1)=qJ f k++if f.bill.tenor.kind=1∧f.acts[k].kind=1 then[f.acts[k].day] else[]:=by
        unfold qJ
        by_cases h:f.bill.tenor.kind=1
        ·simp only[if_pos h,lb _ _ hk,List.map_append,h,true_and]
         congr 1
         by_cases h':f.acts[k].kind=1<;>simp[h']
        ·simp[h]
   have hlen:(qJ f k).length≤k:=by
        unfold qJ
        split
        ·rw[List.length_map]
         exact Nat.le_trans (List.length_filter_le _ _) (by simp;omega)
        ·simp
   rw[hs]
   generalize qJ f k=B at*
   simp[Kd,hk] at ho
   by_cases hc:f.bill.tenor.kind=1∧f.acts[k].kind=1
   ·simp[cI,bW,hk,hw,hc]
    exact⟨by omega,by simp[ints]⟩
   ·have hn:¬(f.bill.tenor.kind=0∧f.acts[k].kind=2):=fun h=>ho h.1 h.2
    simp[cI,bW,hk,hw,hc,hn]
  ·have hf:x9 f=f.acts[k].day:=by
        rw[hE,nk hk (by simpa [hk] using ho) (fun j hj'=>by have:=hj j hj';simpa [show j<f.acts.length by omega] using this)]
   simp[Kd,hk] at ho
   simp[cI,bW,hk,ho,hf]
  ·have hf:x9 f=aaz (A++qJ f f.acts.length):=by
        rw[hE,mz (fun j hj'=>by have:=hj j hj';simpa [hj'] using this)]
   have hlA:(qJ f f.acts.length).length≤100000:=by
        unfold qJ
        split
        ·rw[List.length_map]
         exact Nat.le_trans (List.length_filter_le _ _) (by simp;omega)
        ·simp
   rw[hf]
   have hL:(A++qJ f f.acts.length).length≤200000:=by rw[List.length_append];omega
   generalize A++qJ f f.acts.length=L at*
   cases L with
   |nil=>simp[cI,bW,aaz,ints]
   |cons x l=>
    have hne:¬((l.length:Int)+1=0):=by omega
    simp[cI,bW,hne]
    exact Up x l (by simp at hL;omega)
end Rm
namespace Rm
open Go Go.Proofs Cx
def dX (g:Nat→Cell):D:=.list ((List.range 20).map fun i=>aI (g i))
theorem Ok {g g':Nat→Cell}(h:∀i,i<20→g i=g' i):dX g=dX g':=by
 unfold dX
 congr 1
 exact List.map_congr_left fun i hi=>by rw[h i (by simpa using hi)]
theorem QO (g:Nat→Cell)(k:Nat)(c:Cell):D.list ((dX g).l.set k (aI c))=dX (fun i=>if i=k then c else g i):=by
 unfold dX
 congr 1
 show((List.range 20).map fun i=>aI (g i)).set k (aI c)=_
 apply List.ext_getElem
 ·simp
 ·intro i h1 h2
  simp at h2
  rw[List.getElem_set]
  by_cases h:k=i
  ·simp[h]
  ·have h':¬i=k:=fun e=>h e.symm
   simp[h,h']
@[simp] theorem af0 (g:Nat→Cell):(dX g).l.length=20:=by
  show((List.range 20).map fun i=>aI (g i)).length=20
  simp
theorem Bn (g:Nat→Cell){k:Nat}(hk:k<20):(dX g).l[k]?.getD D.none=aI (g k):=by
 show((List.range 20).map fun i=>aI (g i))[k]?.getD D.none=aI (g k)
 simp[hk]
theorem XR (g:Nat→Cell){k:Nat}(hk:k<(dX g).l.length):(dX g).l[k]=aI (g k):=by
 have h:=Bn g (k:=k) (by simpa using hk)
 rw[List.getElem?_eq_getElem hk] at h
 exact h
theorem VB (g:Nat→Cell)(k:Nat)(c:Cell):(dX g).l.set k (aI c)=(dX (fun i=>if i=k then c else g i)).l:=congrArg D.l (QO g k c)
theorem W0 (g:Nat→Cell):D.list (dX g).l=dX g:=rfl
@[simp] theorem adW (x:Cell)(b:Bool)(n:Int):tS (aI x) 0 (D.agg [D.bool b,D.int n])=aI ⟨b,n⟩:=_root_.id rfl
def aaA {α:Type}(l:List (Int×α))(val:α→Cell)(g0:Nat→Cell)(i:Nat):Cell:=match l.find? (fun p=>decide (p.1=(i:Int))) with|some p=>val p.2|none=>g0 i
def Df {α:Type}(enc:α→D)(p:Int×α):D:=.tup [.int p.1,enc p.2]
theorem Z5 {α:Type}{J o:Nat}{ps sel:List Nat}{a:PC}{ρ:Env}{Q:Out→Prop}(l:List (Int×α))(enc:α→D)(val:α→Cell)(g0:Nat→Cell)
 (nd:∀p q,p∈l→q∈l→p.1=q.1→p=q) (rng:∀p,p∈l→0≤p.1) (he:ρ.o J=.tup [.list [],.map (l.map fun p=>(.int p.1,enc p.2))]) (h0:ρ.o o=dX g0)
 (step:∀p,p∈l→∀g done,aE T (tn [o] a) ((ρ.put ps (sel.map (Df enc p).tget) [o] [dX g]).setO J (.tup [.list (done++[Df enc p]),.map (l.map fun p=>(.int p.1,enc p.2))])) (fun y=>∃ρ',y=.next ρ'∧ρ'.o o=.list ((dX g).l.set p.1.toNat (aI (val p.2)))))
 (last:Q (.next (ρ.put [] [] [o] [dX (aaA l val g0)]))):EvP T (.meach J ps sel [o] a) ρ Q:=by
 have hpo:cf (.map (l.map fun p=>((D.int p.1,enc p.2):D×D)))=l.map (Df enc):=by
  simp[cf,Df]
 refine .meachR _ he (fun done vo=>∃g:Nat→Cell,vo=[dX g]∧(∀p,p∈l→Df enc p∈done→g p.1.toNat=val p.2)∧∀i:Nat,(∀p,p∈l→Df enc p∈done→p.1≠i)→g i=g0 i) ⟨g0,by simp[h0],(fun p _ h=>by cases h),fun i _=>rfl⟩ (fun done x rest vo hp ⟨g,hv,hg1,hg2⟩=>?_) ⟨_,fun done hp vo ⟨g,hv,hg1,hg2⟩=>?_,last⟩
 ·subst hv
  rw[hpo] at hp
  have hx:x∈l.map (Df enc):=hp.subset (by simp)
  obtain⟨p,hpl,rfl⟩:=List.mem_map.mp hx
  refine rL _ (fun y ⟨ρ',e,ho⟩=>⟨ρ',e,fun i=>if i=p.1.toNat then val p.2 else g i,by simp[ho,QO],fun q hq hqd=>?_,fun i hi=>?_⟩) (step p hpl g done)
  ·have hqr:=rng q hq
   have hpr:=rng p hpl
   by_cases h:q.1=p.1
   ·rw[nd q p hq hpl h];simp
   ·show(if q.1.toNat=p.1.toNat then val p.2 else g q.1.toNat)=val q.2
    rw[if_neg (by omega)]
    rcases List.mem_append.mp hqd with h1|h1
    ·exact hg1 q hq h1
    ·simp[Df] at h1
     exact absurd h1.1 h
  ·have hpr:=rng p hpl
   have hi':=hi p hpl (by simp)
   show(if i=p.1.toNat then val p.2 else g i)=g0 i
   rw[if_neg (by omega)]
   exact hg2 i fun q hq hqd=>hi q hq (by simp[hqd])
 ·rw[hv,hpo] at*
  congr 1
  refine Ok fun i hi=>?_
  unfold aaA
  cases hf:l.find? (fun p=>decide (p.1=(i:Int))) with
  |some p=>
   have hpl:=List.mem_of_find?_eq_some hf
   have hpi:p.1=(i:Int):=by simpa using List.find?_some hf
   have:=hg1 p hpl (hp.symm.subset (List.mem_map_of_mem hpl))
   simp only
   rw[←this,hpi]
   rfl
  |none=>
   refine hg2 i fun p hpl _=>?_
   have:=List.find?_eq_none.mp hf p hpl
   simpa using this
@[simp] theorem agN (a b:Int):dI (D.int a) (D.int b)=decide (a=b):=by
  show((a==b)&&true)=decide (a=b)
  rw[Bool.and_true]
  by_cases h:a=b<;>simp[h]
def XA (n k:Int):Bool:=decide (arI .and .i64 n k≠0)
def Og (s:Sign)(due:Int):Int:=if due=-1 then 0 else s.day-due
def T4 (f:File)(sign:Int):Bool:=(List.range f.alters.length).any fun k=>decide ((f.alters.getD k default).at_≤sign)
def ld (c:Case):Int:=if c.holder<0 then 0 else c.holder
def vS (c:Case)(s:Sign):List (Int×Int):=[(0,c.file.bill.sum),(1,c.file.bill.parts),(2,c.file.bill.tenor.kind),(3,c.file.bill.rate),(4,s.kind),(5,c.defence),(6,Og s c.due)]
def yq (r:Realm)(c:Case)(s:Sign):List (Int×Bool):=[(7,XA c.file.bill.flags 1),(8,decide (c.file.bill.payee=-1)),(9,XA c.file.bill.flags 4),(10,XA c.file.bill.flags 2),(11,decide (aY r c.file.bill.city≠aY r c.file.bill.pay)),(12,T4 c.file c.sign),(13,XA s.flags 1),(14,decide (0<Og s c.due))]
def Cw (r:Realm)(c:Case)(s:Sign):List Cell:=
 (vS c s).map (fun p=>⟨true,p.2⟩)++(yq r c s).map (fun p=>kQ p.2)++
    [bh c.file 0 c.sign,bh c.file 1 c.sign,bh c.file 2 c.sign,bh c.file 3 (ld c),bh c.file 4 (ld c)]
@[simp] theorem ae3 (x:Case):v9 19 (bq x)=aD x.file:=_root_.id rfl
@[simp] theorem aeI (x:Case):v9 15 (bq x)=aT x.file.bill:=_root_.id rfl
@[simp] theorem aeT (x:File):v9 15 (aD x)=aT x.bill:=_root_.id rfl
def uh (c:Case):Bool:=inB c.sign c.file.signs.length&&decide (-1≤c.holder)&&decide (ld c<c.file.signs.length)&&(decide (c.due=-1)||inB c.due 100001)
def fP (r:Realm)(c:Case):List Cell:=if uh c=true∧inB (c.file.signs.getD c.sign.toNat default).day 100001=true then Cw r c (c.file.signs.getD c.sign.toNat default) else[]
theorem Ji (r:Realm)(c:Case)(h2:c.file.facts.length≤100000)(h3:c.file.alters.length≤100000):Runs T Cl [au r,bq c] (cells (fP r c)):=by
 refine .of_tree rfl Qf Gk ?_
 cases hs:inB c.sign c.file.signs.length
 ·have hv:fP r c=[]:=by unfold fP uh;rw[hs];simp
  rw[hv]
  simp[cm]
  refine⟨_,aL _ _,?_⟩
  simp[hs]
  rfl
 by_cases hh:c.holder< -1
 ·have hv:fP r c=[]:=by unfold fP uh;rw[hs];simp;intros;omega
  rw[hv]
  simp[cm,hh]
  exact⟨⟨_,aL _ _⟩,rfl⟩
 by_cases hm:(c.file.signs.length:Int)≤ld c
 ·have hv:fP r c=[]:=by unfold fP uh;rw[hs];simp;intros;omega
  rw[hv]
  unfold ld at hm
  simp[cm,hm]
  exact⟨⟨_,aL _ _⟩,rfl⟩
 by_cases hd:c.due≠-1∧inB c.due 100001=false
 ·have hv:fP r c=[]:=by unfold fP uh;rw[hs];simp[hd]
  rw[hv]
  unfold ld at hm
  obtain⟨hd1,hd2⟩:=hd
  simp[cm,hh,hm,hd1]
  refine⟨_,aL _ _,?_⟩
  simp[hs,hh,hm,hd1]
  refine⟨_,aL _ _,?_⟩
  simp[hs,hh,hm,hd1,hd2]
  rfl
 have hcb:uh c=true:=by
  unfold uh
  rw[hs]
  simp
  refine⟨⟨by omega,by omega⟩,?_⟩
  by_cases h:c.due=-1
  ·exact .inl h
  ·right
   cases hb:inB c.due 100001
   ·exact absurd ⟨h,hb⟩ hd
   ·rfl
 have hlen:c.sign.toNat<c.file.signs.length:=by simp[inB] at hs;omega
 have hs2:0≤c.sign∧c.sign<(c.file.signs.length:Int):=by simpa [inB] using hs
 obtain⟨s,hse⟩:∃s:Sign,s=c.file.signs[c.sign.toNat]:=⟨_,rfl⟩
 have hsg:c.file.signs.getD c.sign.toNat default=s:=by rw[hse];simp[hlen]
 have hv:fP r c=if inB s.day 100001=true then Cw r c s else[]:=by
  unfold fP;rw[hsg,hcb];simp
 rw[hv]
 unfold ld at hm
 by_cases hdue:c.due=-1
 case' pos=>
  have hdue':(c.due=-1)=True:=eq_true hdue
  simp[cm,hh,hm,hdue']
  refine⟨_,aL _ _,?_⟩
  simp[hs,hh,hm,hdue',hlen,←hse,hs2]
 case' neg=>
  have hdb:inB c.due 100001=true:=by
   cases hb:inB c.due 100001
   ·exact absurd ⟨hdue,hb⟩ hd
   ·rfl
  simp[cm,hh,hm,hdue]
  refine⟨_,aL _ _,?_⟩
  simp[hs,hh,hm,hdue]
  refine⟨_,aL _ _,?_⟩
  simp[hs,hh,hm,hdue,hdb,hlen,←hse,hs2]
 all_goals
  refine⟨_,aL _ _,?_⟩
  cases hday:inB s.day 100001
  ·simp[hday]
   rfl
  simp[hday,nM]
  refine Z5 (vS c s) D.int (fun n=>⟨true,n⟩) (fun _=>noC) ?_ ?_ ?_ ?_ (fun p hp g done=>?_) ?_
  ·intro p q hp hq h
   simp[vS] at hp hq
   rcases hp with rfl|rfl|rfl|rfl|rfl|rfl|rfl<;>rcases hq with rfl|rfl|rfl|rfl|rfl|rfl|rfl<;>first|rfl|(simp at h)
  ·intro p hp
   simp[vS] at hp
   rcases hp with rfl|rfl|rfl|rfl|rfl|rfl|rfl<;>simp
  ·have hgap:(if c.due=-1 then(0:Int) else IntKind.i64.wrap (s.day-c.due))=Og s c.due:=by
        unfold Og
        by_cases h:c.due=-1
        ·simp[h]
        ·have hdb:inB c.due 100001=true:=by
          cases hb:inB c.due 100001
          ·exact absurd ⟨h,hb⟩ hd
          ·rfl
         simp[inB] at hdb hday
         rw[if_neg h,if_neg h]
         exact az (by omega)
   simp[vS,nM,hlen,←hse]
   rw[←hgap]
   by_cases h:c.due=-1<;>simp[h]
  ·simp[dX]
   rfl
  ·have hr:0≤p.1∧p.1<20:=by
        simp[vS] at hp
        rcases hp with rfl|rfl|rfl|rfl|rfl|rfl|rfl<;>simp
   have hk:p.1.toNat<20:=by omega
   simp[BM,nT,Df,Bn g hk]
   exact hr
  have hlt1:∀k (hk:k<c.file.alters.length),Runs T yh (gP c.file.alters[k]::[.ref (bq c)]) (.bool (decide ((c.file.alters.getD k default).at_≤c.sign))):=fun k hk=>by
   refine .of_tree rfl Ja B2 ?_
   simp[np,hk]
  simp
  refine⟨_,wx c.file.alters _ _ _ hlt1 (by omega),_,aK r _,_,aK r _,?_⟩
  have hgap:(if c.due=-1 then(0:Int) else IntKind.i64.wrap (s.day-c.due))=Og s c.due:=by
   unfold Og
   by_cases h:c.due=-1
   ·simp[h]
   ·have hdb:inB c.due 100001=true:=by
     cases hb:inB c.due 100001
     ·exact absurd ⟨h,hb⟩ hd
     ·rfl
    simp[inB] at hdb hday
    rw[if_neg h,if_neg h]
    exact az (by omega)
  have hfull:cells (Cw r c s)=dX (fun i=>if i=15 then bh c.file 0 c.sign else if i=16 then bh c.file 1 c.sign else if i=17 then bh c.file 2 c.sign else if i=18 then bh c.file 3 (ld c) else if i=19 then bh c.file 4 (ld c) else aaA (yq r c s) kQ (aaA (vS c s) (fun n=>⟨true,n⟩) (fun _=>noC)) i):=by
   rfl
  generalize aaA (vS c s) (fun n=>(⟨true,n⟩:Cell)) (fun _=>noC)=g1 at*
  refine Z5 (yq r c s) D.bool kQ g1 ?_ ?_ ?_ ?_ (fun p hp g done=>?_) ?_
  ·intro p q hp hq h
   simp[yq] at hp hq
   rcases hp with rfl|rfl|rfl|rfl|rfl|rfl|rfl|rfl<;>rcases hq with rfl|rfl|rfl|rfl|rfl|rfl|rfl|rfl<;>first|rfl|(simp at h)
  ·intro p hp
   simp[yq] at hp
   rcases hp with rfl|rfl|rfl|rfl|rfl|rfl|rfl|rfl<;>simp
  ·simp[yq,nM,hlen,←hse,XA]
   rw[←hgap]
   by_cases h:c.due=-1<;>simp[h,T4]
  ·simp
  ·have hr:0≤p.1∧p.1<20:=by
        simp[yq] at hp
        rcases hp with rfl|rfl|rfl|rfl|rfl|rfl|rfl|rfl<;>simp
   have hk:p.1.toNat<20:=by omega
   simp[Ci,nF,Df,Bn g hk]
   refine⟨_,tW _,?_⟩
   simp[Bn g hk]
   exact hr
  simp
  generalize aaA (yq r c s) kQ g1=g2 at*
  have hho:(if c.holder<0 then D.int 0 else D.int c.holder)=D.int (ld c):=by
   unfold ld
   split<;>rfl
  rw[hho]
  refine⟨_,eF _ _ _ (by omega),_,eF _ _ _ (by omega),_,eF _ _ _ (by omega),_,eF _ _ _ (by omega),_,eF _ _ _ (by omega),?_⟩
  rw[hfull]
  simp only[XR,US,VB,W0]
  refine Ok fun i hi=>?_
  by_cases h15:i=15
  ·subst h15;simp
  by_cases h16:i=16
  ·subst h16;simp
  by_cases h17:i=17
  ·subst h17;simp
  by_cases h18:i=18
  ·subst h18;simp
  by_cases h19:i=19
  ·subst h19;simp
  simp[h15,h16,h17,h18,h19]
end Rm
namespace Rm
open Go Go.Proofs Cx
def ad4 (n:Nat)(x:Int):Bool:=decide (x<0)||decide ((n:Int)≤x)
def uk (r:Realm)(a q:Int)(l:List Int):Bool:=
 !(decide (a<0)||decide ((r.orders.length:Int)≤a)||decide (q<0)||decide (22≤q)||decide (l.length≠5))&& !((List.range l.length).any fun k=>ad4 r.orders.length (l.getD k 0))
theorem XX (x n:Int):Runs T lT [.int x,.ref (.int n)] (.bool (decide (x<0)||decide (n≤x))):=by
 refine .of_tree rfl DR yQ ?_
 by_cases h:x<0<;>simp[kE,h]
theorem SZ (r:Realm)(a q:Int)(l:List Int)(hl:l.length≤100000):Runs T yw [au r,.int a,.int q,ints l] (.bool (uk r a q l)):=by
 refine .of_tree rfl IU Cc ?_
 by_cases h1:a<0
 ·simp[bz,uk,h1]
 by_cases h2:(r.orders.length:Int)≤a
 ·simp[bz,uk,h1,h2]
 by_cases h3:q<0
 ·simp[bz,uk,h1,h2,h3]
 by_cases h4:22≤q
 ·simp[bz,uk,h1,h2,h3,h4]
 by_cases h5:(l.length:Int)=5
 ·have h5':l.length=5:=by omega
  simp[bz,h1,h2,h3,h4,h5']
  refine⟨_,yN l lT [.ref (.int r.orders.length)] (fun k=>ad4 r.orders.length (l.getD k 0)) (fun k hk=>by simpa [ad4,hk] using XX l[k] r.orders.length) (by omega),?_⟩
  simp only[uk,h5']
  simp[h1,h2,h3,h4]
 ·have h5':¬l.length=5:=by omega
  simp[bz,uk,h1,h2,h3,h4,h5']
  intro h;omega
theorem I8 {r:Realm}{a q:Int}{l:List Int}(h:uk r a q l=true):(0≤a∧a<r.orders.length)∧l.length=5∧(∀x,x∈l→0≤x∧x<r.orders.length)∧∀b:Int,0≤b→b<r.orders.length→uk r b q l=true:=by
 unfold uk at h ⊢
 rw[Bool.and_eq_true] at h
 obtain⟨h1,h2⟩:=h
 simp at h1
 refine⟨by omega,h1.2,fun x hx=>?_,fun b hb1 hb2=>?_⟩
 ·obtain⟨k,hk,rfl⟩:=List.getElem_of_mem hx
  simp[ad4] at h2
  have:=h2 k hk
  simp[hk] at this
  omega
 ·rw[h2]
  simp
  omega
def ac1 (r:Realm):Prop:=∀o,o∈r.orders→o.choices.length≤100000∧∀ch,ch∈o.choices→0≤ch.by_∧ch.by_<5
def OL (q:Int)(ch:Choice):Bool:=decide (ch.ask=q)&&decide (ch.by_≠0)
def kr (r:Realm)(a:Int):Order:=r.orders.getD a.toNat default
def cO (r:Realm)(a q:Int)(l:List Int):Int×Bool:=
 (match(kr r a).choices.find? (OL q) with|some ch=>l.getD ch.by_.toNat 0|none=>a,match(kr r a).choices.find? (OL q) with|some ch=>ch.whole|none=>false)
theorem Qd (r:Realm)(hby:ac1 r)(a q:Int)(l:List Int)(hl:l.length≤100000)(hf:uk r a q l=true):
 Runs T wy [au r,.int a,.int q,ints l] (.tup [.int (cO r a q l).1,.bool (cO r a q l).2])∧0≤(cO r a q l).1∧(cO r a q l).1<r.orders.length:=by
 obtain⟨ha,hl5,hx,_⟩:=I8 hf
 have hat:a.toNat<r.orders.length:=by omega
 obtain⟨hcl,hch⟩:=hby _ (List.getElem_mem hat)
 obtain⟨o,ho⟩:∃o,o=r.orders[a.toNat]:=⟨_,rfl⟩
 rw[←ho] at hcl hch
 have hoa:kr r a=o:=by rw[ho];simp[kr,hat]
 unfold cO
 rw[hoa]
 refine⟨?_,?_⟩
 ·refine .of_tree rfl Gl zW ?_
  simp[ma]
  refine⟨_,SZ r a q l hl,?_⟩
  simp[hf,hat,←ho,ha]
  refine EvP.scan o.choices.length (fun k=>OL q (o.choices.getD k default)=false) (fun k=>[.int 0,.bool false,.int k]) (fun _=>[]) ?_ (fun k hk hj hok=>?_) (fun k hk hj hok=>?_) (fun hj=>?_)
  ·simp
  ·have hw:=ar hk (by omega)
   have hn:¬(o.choices[k].ask=q∧¬o.choices[k].by_=0):=by simpa [OL,hk] using hok
   simp[fj,cE,hat,←ho,hk,hw,hn]
  ·have hfi:=nk hk (by simpa [hk] using hok) (fun j hj'=>by have:=hj j hj';simpa [show j<o.choices.length by omega] using this)
   rw[hfi]
   have hc:o.choices[k].ask=q∧¬o.choices[k].by_=0:=by simpa [OL,hk] using hok
   have hb:=hch _ (List.getElem_mem hk)
   have hbl:o.choices[k].by_.toNat<l.length:=by omega
   simp[fj,cE,hat,←ho,hk,hc,ints,hbl]
   omega
  ·have hfi:=mz (l:=o.choices) (p:=OL q) (fun j hj'=>by have:=hj j hj';simpa [hj'] using this)
   rw[hfi]
   simp[fj,cE,hat,←ho]
 ·cases hfi:o.choices.find? (OL q) with
  |none=>exact ha
  |some ch=>
   have hb:=hch _ (List.mem_of_find?_eq_some hfi)
   have hbl:ch.by_.toNat<l.length:=by omega
   simp[hbl]
   exact hx _ (List.getElem_mem hbl)
theorem ZC:∀(N:Nat) (l:List Int),l.Nodup→(∀x,x∈l→0≤x∧x<(N:Int))→l.length≤N
 |0,l,hn,h=>by
  cases l with
  |nil=>simp
  |cons a l=>have:=h a (by simp);omega
 |N+1,l,hn,h=>by
  by_cases hm:(N:Int)∈l
  ·have h1:=ZC N (l.erase (N:Int)) (hn.erase _) (fun x hx=>by
    have hx':=(hn.mem_erase_iff).mp hx
    have:=h x hx'.2
    have hne:=hx'.1
    omega)
   rw[List.length_erase_of_mem hm] at h1
   omega
  ·have h1:=ZC N l hn (fun x hx=>by
    have:=h x hx
    have hne:x≠(N:Int):=fun e=>hm (e▸hx)
    omega)
   omega
def cj (l:List Int):Int:=l.getD (l.length-1) 0
def B0 (r:Realm)(q:Int)(l:List Int):Nat→List Int→List Int×Int
 |0,p=>(p,0)
 |n+1,p=>
  if(cO r (cj p) q l).1=cj p then(p,0)
  else if(cO r (cj p) q l).2=false∨(hasB p (cO r (cj p) q l).1=true∧(kr r (cO r (cj p) q l).1).accepts=true) then(p++[(cO r (cj p) q l).1],0)
  else if hasB p (cO r (cj p) q l).1=true then(p++[(cO r (cj p) q l).1],12)
  else B0 r q l n (p++[(cO r (cj p) q l).1])
theorem IF (r:Realm)(q:Int)(l:List Int)(n:Nat)(p:List Int):B0 r q l (n+1) p=
 if(cO r (cj p) q l).1=cj p then(p,0)
 else if(cO r (cj p) q l).2=false∨(hasB p (cO r (cj p) q l).1=true∧(kr r (cO r (cj p) q l).1).accepts=true) then(p++[(cO r (cj p) q l).1],0)
 else if hasB p (cO r (cj p) q l).1=true then(p++[(cO r (cj p) q l).1],12)
 else B0 r q l n (p++[(cO r (cj p) q l).1]):=rfl
def wK (r:Realm)(a q:Int)(l:List Int):List Int×Int:=if uk r a q l=true∧l.getD 0 0=a then B0 r q l r.orders.length [a] else([],1)
theorem adK (r:Realm)(hby:ac1 r)(hn:r.orders.length≤100000)(a q:Int)(l:List Int)(hl:l.length≤100000):Runs T zp [au r,.int a,.int q,ints l] (.tup [ints (wK r a q l).1,.int (wK r a q l).2]):=by
 refine .of_tree rfl L4 En ?_
 simp[pH]
 refine⟨_,SZ r a q l hl,?_⟩
 cases hf:uk r a q l
 ·simp[wK,hf]
  rfl
 obtain⟨ha,hl5,hx,hal⟩:=I8 hf
 have h0:0<l.length:=by omega
 by_cases hla:l[0]=a
 ·have hE:wK r a q l=B0 r q l r.orders.length [a]:=by unfold wK;rw[if_pos ⟨hf,by simp[h0,hla]⟩]
  rw[hE]
  simp[h0,hla,ints]
  refine EvP.forLoop (α:=Nat×List Int) (fun s vr vo=>vr=[.list [],.int 0,.none]∧vo=[ints s.2]∧s.2.Nodup∧(∀x,x∈s.2→0≤x∧x<(r.orders.length:Int))∧s.2≠[]∧s.1+s.2.length=r.orders.length+1∧B0 r q l s.1 s.2=B0 r q l r.orders.length [a]) (fun s=>s.1) (r.orders.length,[a]) ?_ ?_
  ·simp[ints]
   exact ha
  ·rintro⟨n,p⟩ vr vo ⟨rfl,rfl,hnd,hin,hne,hlen,hlaw⟩
   simp only at*
   have hpl:p.length≤r.orders.length:=ZC _ p hnd hin
   have hpos:0<p.length:=List.length_pos_iff.mpr hne
   obtain⟨m,rfl⟩:∃m,n=m+1:=⟨n-1,by omega⟩
   have hlt:p.length-1<p.length:=by omega
   have hlast:cj p=p[p.length-1]:=by simp[cj,hlt]
   have hli:=hin _ (List.getElem_mem hlt)
   rw[←hlast] at hli
   obtain⟨hLr,ht1,ht2⟩:=Qd r hby (cj p) q l hl (hal _ hli.1 hli.2)
   have hlw:((p.length:Int)-1).toNat=p.length-1:=by omega
   have hww:IntKind.i64.wrap ((p.length:Int)-1)=(p.length:Int)-1:=az (by omega)
   rw[←hlaw,IF]
   obtain⟨L,hL⟩:∃L,L=cO r (cj p) q l:=⟨_,rfl⟩
   rw[←hL] at hLr ht1 ht2 ⊢
   obtain⟨to,whole⟩:=L
   simp only at hLr ht1 ht2
   have hto:to.toNat<r.orders.length:=by omega
   have hoa:kr r to=r.orders[to.toNat]:=by simp[kr,hto]
   simp only[hoa]
   simp[zV,mJ,hww,hlw,hlt,←hlast,ints]
   refine⟨by omega,_,hLr,?_⟩
   by_cases h1:to=cj p
   ·simp[h1]
   simp[h1]
   refine⟨_,cA p to (by omega),by omega,?_⟩
   cases whole
   ·simp
   cases h2:hasB p to
   ·have hnm:to∉p:=fun hm=>by
     have:hasB p to=true:=by simp[hasB,hm]
     rw[h2] at this;cases this
    simp[h2]
    refine⟨m,by omega,p++[to],by simp,?_,?_,by simp,by simp;omega,rfl⟩
    ·exact List.nodup_append.mpr ⟨hnd,by simp,fun x hx y hy=>by simp at hy;subst hy;exact fun e=>hnm (e▸hx)⟩
    ·intro x hx
     rcases List.mem_append.mp hx with h|h
     ·exact hin x h
     ·simp at h;subst h;exact⟨ht1,ht2⟩
   ·cases h3:r.orders[to.toNat].accepts<;>simp[h2,h3,hto]<;>omega
 ·have hE:wK r a q l=([],1):=by unfold wK;rw[if_neg (by simp[h0,hla])]
  rw[hE]
  simp[h0,hla]
  rfl
end Rm
namespace Rm
open Go Go.Proofs Cx
def kG (f:File)(i:Int):Sign:=f.signs.getD i.toNat default
def EW (r:Realm)(forum:Int)(c:Case):List Int:=[forum,aY r (kG c.file c.sign).city,aY r c.file.bill.pay,aY r c.file.bill.city,aY r (r.firms.getD (kG c.file c.sign).who.toNat default).city]
def Qj (r:Realm)(forum:Int)(c:Case):Prop:=(kG c.file c.sign).who<0∨(r.firms.length:Int)≤(kG c.file c.sign).who∨forum<0∨(r.orders.length:Int)≤forum
instance (r:Realm) (forum:Int) (c:Case):Decidable (Qj r forum c):=by unfold Qj;infer_instance
def cB (r:Realm)(forum:Int)(c:Case):List Int:=if Qj r forum c then[] else if hasB (EW r forum c) (-1)=true then[] else EW r forum c
@[simp] theorem ajh (r:Realm)(x:Int):atS (au r) x=aY r x:=by
  unfold atS aY inB
  by_cases h:0≤x∧x<(r.cities.length:Int)
  ·have hx:x.toNat<r.cities.length:=by omega
   rw[if_pos (by simpa using h),if_pos (by simpa using h)]
   simp[hx]
  ·rw[if_neg (by simpa using h),if_neg (by simpa using h)]
theorem Pd (r:Realm)(forum:Int)(c:Case)(h1:c.sign.toNat<c.file.signs.length):TV [au r,.int forum,bq c]=ints (cB r forum c):=by
 have hs:kG c.file c.sign=c.file.signs[c.sign.toNat]:=by simp[kG,h1]
 unfold TV cB
 simp[h1]
 by_cases hb:Qj r forum c
 ·rw[if_pos (by simpa [Qj,hs] using hb),if_pos hb]
  rfl
 ·rw[if_neg (by simpa [Qj,hs] using hb),if_neg hb]
  have hwho:(kG c.file c.sign).who.toNat<r.firms.length:=by unfold Qj at hb;omega
  have hwho':c.file.signs[c.sign.toNat].who.toNat<r.firms.length:=by rw[←hs];exact hwho
  have hout:EW r forum c=[forum,aY r c.file.signs[c.sign.toNat].city,aY r c.file.bill.pay,aY r c.file.bill.city,aY r r.firms[c.file.signs[c.sign.toNat].who.toNat].city]:=by
   simp[EW,hs,hwho']
  have hmem:∀l:List Int,hasB l (-1)=true↔-1∈l:=fun l=>by simp[hasB]
  rw[hout]
  simp[hwho']
  split
  ·rename_i h
   rw[if_pos ((hmem _).mpr (by simpa using h))]
   rfl
  ·rename_i h
   rw[if_neg (fun h'=>h (by simpa using(hmem _).mp h'))]
theorem WV (r:Realm)(forum:Int)(c:Case)(h1:0≤c.sign∧c.sign<c.file.signs.length):Runs T Vd [au r,.int forum,bq c] (ints (cB r forum c)):=by
 have h1':c.sign.toNat<c.file.signs.length:=by omega
 rw[←Pd r forum c h1']
 have hs:kG c.file c.sign=c.file.signs[c.sign.toNat]:=by simp[kG,h1']
 refine Runs.of_nsl rfl EV Dm ?_
 rw[Pd r forum c h1']
 by_cases hb:Qj r forum c
 ·refine .inr ⟨by simp[cB,hb];rfl,?_⟩
  have hb':=hb
  simp[Qj,hs] at hb'
  simp[kg,h1,h1']
  intros;omega
 have hbn:cB r forum c=if hasB (EW r forum c) (-1)=true then[] else EW r forum c:=by unfold cB;rw[if_neg hb]
 have hb':=hb
 simp[Qj,hs] at hb'
 have hw:c.file.signs[c.sign.toNat].who.toNat<r.firms.length:=by omega
 have hC:=cA (EW r forum c) (-1) (by simp[EW])
 cases hh:hasB (EW r forum c) (-1)<;>rw[hh] at hC<;>simp[EW,ints,hs,hw] at hC
 ·refine .inl ⟨(EW r forum c).map .int,by simp[EW],by rw[hbn,hh];rfl,?_⟩
  simp[qe,h1,h1',hw]
  rw[if_neg (by omega)]
  refine⟨_,aK r _,_,aK r _,_,aK r _,by omega,_,aK r _,_,by simpa using hC,?_⟩
  simp[EW,hs,hw]
 ·refine .inr ⟨by rw[hbn,hh];rfl,?_⟩
  simp[kg,h1,h1',hw]
  intros
  refine⟨_,aK r _,_,aK r _,_,aK r _,by omega,_,aK r _,_,by simpa using hC,?_⟩
  simp
end Rm
namespace Rm
open Go Go.Proofs Cx
structure Right (r:Realm):Prop where
 by_:ac1 r
 len:r.orders.length≤100000
 ok:∀o,o∈r.orders→o.OK∧o.rules.length≤100000
structure FewS (f:File):Prop where
 signs:f.signs.length≤1000
 alters:f.alters.length≤1000
 acts:f.acts.length≤1000
 facts:f.facts.length≤1000
theorem acL {α:Type}(p:α→Bool)(l:List α):(l.takeWhile p).length≤l.length:=by
 obtain⟨m,h1,h2,_⟩:=Ni p l
 rw[h2,List.length_take];omega
theorem FewS.at_ {f:File}(h:FewS f)(day:Int):FewS (atF f day):=
 ⟨Nat.le_trans (acL _ _) h.1,Nat.le_trans (List.length_filter_le _ _) h.2,Nat.le_trans (acL _ _) h.3,Nat.le_trans (List.length_filter_le _ _) h.4⟩
def ofF (c:Case):Case:={c with file:=atF c.file c.day}
@[simp] theorem ahB (x:File)(a0 a1 a2 a3 a4 a5 a6 a7 a8 a9 a10 a11 a12 a13 a14 a15 a16 a17 a18:D)(s h d u y:Int):v9 24 (D.agg (aX [a0,a1,a2,a3,a4,a5,a6,a7,a8,a9,a10,a11,a12,a13,a14,a15,a16,a17,a18,.int s,.int h,.int d,.int u,.int y] 0 [.int x.bill.drawer,.int x.bill.drawee,.int x.bill.payee,.int x.bill.sum,.int x.bill.currency,.int x.bill.tenor.kind,.int x.bill.tenor.n,.int x.bill.tenor.unit,.int x.bill.day,.int x.bill.city,.int x.bill.pay,.int x.bill.need,.int x.bill.rate,.int x.bill.flags,.int x.bill.parts,signs x.signs,alters x.alters,acts x.acts,facts x.facts]))=bq ⟨x,s,h,d,u,y⟩:=_root_.id rfl
theorem Wm (r:Realm)(c:Case)(hf:FewS c.file):Runs T Ww [au r,bq c] (.tup [bq (ofF c),cells (fP r (ofF c))]):=by
 refine .of_tree rfl aa7 Vb ?_
 simp[II]
 have h1:=hf.1;have h2:=hf.2;have h3:=hf.3;have h4:=hf.4
 refine⟨_,sR c.file c.day (by omega) (by omega) (by omega) (by omega),?_⟩
 have hfa:=hf.at_ c.day
 have h5:=hfa.4;have h6:=hfa.2
 simp
 exact⟨Ji r (ofF c) (by show(atF c.file c.day).facts.length≤_;omega) (by show(atF c.file c.day).alters.length≤_;omega),(congrArg (v9 24) (abk (ofF c) _ _ _ _ _ _ _ _ _ _ _ _ _ _ _ _ _ _ _ _ _ _ _ _)).trans (aa2 (ofF c))⟩
theorem abC {r:Realm}{c:Case}(h:fP r c≠[]):0≤c.sign∧c.sign<c.file.signs.length:=by
 unfold fP at h
 split at h
 ·rename_i hh
  have h1:=hh.1
  unfold uh at h1
  simp[inB] at h1
  omega
 ·exact absurd rfl h
theorem ZN (r:Realm)(hby:ac1 r)(q:Int)(l:List Int)(hl:l.length≤100000)(hal:∀b:Int,0≤b→b<r.orders.length→uk r b q l=true):∀(n:Nat) (p:List Int),p≠[]→(∀x,x∈p→0≤x∧x<(r.orders.length:Int))→
 (B0 r q l n p).1≠[]∧∀x,x∈(B0 r q l n p).1→0≤x∧x<(r.orders.length:Int)
 |0,p,hne,hp=>⟨hne,hp⟩
 |n+1,p,hne,hp=>by
  have hlt:p.length-1<p.length:=by have:=List.length_pos_iff.mpr hne;omega
  have hlast:cj p=p[p.length-1]:=by simp[cj,hlt]
  have hli:=hp _ (List.getElem_mem hlt)
  rw[←hlast] at hli
  obtain⟨_,ht⟩:=Qd r hby (cj p) q l hl (hal _ hli.1 hli.2)
  have hp':∀x,x∈p++[(cO r (cj p) q l).1]→0≤x∧x<(r.orders.length:Int):=fun x hx=>by
   rcases List.mem_append.mp hx with h|h
   ·exact hp x h
   ·simp at h;subst h;exact ht
  rw[IF]
  split
  ·exact⟨hne,hp⟩
  split
  ·exact⟨by simp,hp'⟩
  split
  ·exact⟨by simp,hp'⟩
  ·exact ZN r hby q l hl hal n _ (by simp) hp'
theorem Z1 {r:Realm}(hr:Right r){a q:Int}{l:List Int}(hl:l.length≤100000)(h:(wK r a q l).2=0):(wK r a q l).1≠[]∧0≤cj (wK r a q l).1∧cj (wK r a q l).1<r.orders.length:=by
 unfold wK at h ⊢
 split at h
 ·rename_i hh
  rw[if_pos hh]
  obtain⟨ha,hl5,hx,hal⟩:=I8 hh.1
  obtain⟨h1,h2⟩:=ZN r hr.by_ q l hl hal r.orders.length [a] (by simp) (fun x hx=>by simp at hx;subst hx;exact ha)
  refine⟨h1,?_⟩
  have hlt:(B0 r q l r.orders.length [a]).1.length-1<(B0 r q l r.orders.length [a]).1.length:=by have:=List.length_pos_iff.mpr h1;omega
  have hlast:cj (B0 r q l r.orders.length [a]).1=(B0 r q l r.orders.length [a]).1[(B0 r q l r.orders.length [a]).1.length-1]:=by simp[cj,hlt]
  rw[hlast]
  exact h2 _ (List.getElem_mem hlt)
 ·cases h
theorem V9 (r:Realm)(q:Int)(l:List Int):∀(n:Nat) (p:List Int),(B0 r q l n p).1.length≤p.length+n
 |0,p=>by simp[B0]
 |n+1,p=>by
  rw[IF]
  split
  ·simp
  split
  ·simp
  split
  ·simp
  ·have:=V9 r q l n (p++[(cO r (cj p) q l).1])
   simp at this
   omega
theorem abS (r:Realm)(a q:Int)(l:List Int):(wK r a q l).1.length≤1+r.orders.length:=by
 unfold wK
 split
 ·exact V9 r q l _ [a]
 ·simp
@[simp] theorem ag3 (a b c d e x:D):aX [a,b,c,d,e] 2 [x]=[a,b,x,d,e]:=_root_.id rfl
@[simp] theorem agx (a b c d e x:D):aX [a,b,c,d,e] 3 [x]=[a,b,c,x,e]:=_root_.id rfl
@[simp] theorem agQ (a b c d e x:D):aX [a,b,c,d,e] 4 [x]=[a,b,c,d,x]:=_root_.id rfl
def Yr:Said:=⟨noC,-1,[],1⟩
def bH (r:Realm)(forum q:Int)(c:Case):Said×List Cell:=
 if fP r (ofF c)=[] then(Yr,[]) else if(y5 q).2=false then(Yr,[]) else if cB r forum (ofF c)=[] then(Yr,[]) else
    (⟨noC,if(wK r forum q (cB r forum (ofF c))).2=0 then cj (wK r forum q (cB r forum (ofF c))).1 else-1,(wK r forum q (cB r forum (ofF c))).1,(wK r forum q (cB r forum (ofF c))).2⟩,fP r (ofF c))
theorem Qk (r:Realm)(forum:Int)(c:Case):(cB r forum c).length≤5:=by
 unfold cB
 split
 ·simp
 split<;>simp[EW]
theorem Q5 (r:Realm)(hr:Right r)(forum q:Int)(c:Case)(hf:FewS c.file):Runs T Qe [au r,.int forum,.int q,bq c] (.tup [lM (bH r forum q c).1,cells (bH r forum q c).2]):=by
 refine .of_tree rfl Wl Pg ?_
 simp[AQ]
 refine⟨_,Wm r c hf,?_⟩
 by_cases hv:fP r (ofF c)=[]
 ·simp[hv,bH]
  exact⟨rfl,rfl⟩
 simp[hv,bH]
 refine⟨_,pS q,?_⟩
 cases hq:(y5 q).2
 ·simp[hq]
  exact⟨rfl,rfl⟩
 simp[hq]
 refine⟨_,WV r forum (ofF c) (abC hv),?_⟩
 by_cases hp:cB r forum (ofF c)=[]
 ·simp[hp]
  exact⟨rfl,rfl⟩
 have hpl:=Qk r forum (ofF c)
 have hne:ints (cB r forum (ofF c))≠.list []:=fun e=>hp (by simpa [ints] using e)
 simp[hp]
 generalize cB r forum (ofF c)=l at*
 refine⟨_,adK r hr.by_ hr.len forum q l (by omega),?_⟩
 have hlen:=abS r forum q l
 have hlaw:=Z1 hr (a:=forum) (q:=q) (l:=l) (by omega)
 have hol:=hr.len
 generalize wK r forum q l=L at*
 obtain⟨path,err⟩:=L
 simp only at*
 by_cases he:err=0
 ·obtain⟨h1,h2⟩:=hlaw he
  have hpos:=List.length_pos_iff.mpr h1
  have hww:IntKind.i64.wrap ((path.length:Int)-1)=(path.length:Int)-1:=az (by omega)
  have hlw:((path.length:Int)-1).toNat=path.length-1:=by omega
  have hlt:path.length-1<path.length:=by omega
  have hlast:cj path=path[path.length-1]:=by simp[cj,hlt]
  simp[he,hww,hlw,hlt,←hlast]
  exact⟨by omega,rfl⟩
 ·simp[he]
  rfl
def Sm (r:Realm)(forum q:Int)(c:Case):Said:=
 if(bH r forum q c).1.order=-1 then(bH r forum q c).1
 else⟨(mD (kr r (bH r forum q c).1.order) q (bH r forum q c).2).1,(bH r forum q c).1.order,(bH r forum q c).1.path,(mD (kr r (bH r forum q c).1.order) q (bH r forum q c).2).2⟩
theorem Su {r:Realm}(hr:Right r)(forum q:Int)(c:Case):(bH r forum q c).1.order=-1∨(0≤(bH r forum q c).1.order∧(bH r forum q c).1.order<r.orders.length):=by
 unfold bH
 split
 ·exact .inl rfl
 split
 ·exact .inl rfl
 split
 ·exact .inl rfl
 ·have hpl:=Qk r forum (ofF c)
  have hlaw:=Z1 hr (a:=forum) (q:=q) (l:=cB r forum (ofF c)) (by omega)
  show(if _ then _ else _)=_∨_
  split
  ·rename_i h
   exact .inr (hlaw h).2
  ·exact .inl rfl
theorem Gn (r:Realm)(hr:Right r)(forum q:Int)(c:Case)(hf:FewS c.file):Runs T Tv [au r,.int forum,.int q,bq c] (lM (Sm r forum q c)):=by
 refine .of_tree rfl X7 Rv ?_
 simp[DK]
 refine⟨_,Q5 r hr forum q c hf,?_⟩
 have ho:=Su hr forum q c
 unfold Sm
 generalize bH r forum q c=S at*
 obtain⟨s,cs⟩:=S
 simp only at*
 by_cases h:s.order=-1
 ·obtain⟨⟨kn,n⟩,o,pth,e⟩:=s
  simp only at h
  subst h
  simp
  rfl
 ·have h1:0≤s.order∧s.order<r.orders.length:=by omega
  have h2:s.order.toNat<r.orders.length:=by omega
  have h3:kr r s.order=r.orders[s.order.toNat]:=by simp[kr,h2]
  obtain⟨hok,hlen⟩:=hr.ok _ (List.getElem_mem h2)
  simp[h,h1,h2,h3]
  refine⟨_,Fz _ q cs hok (by omega),?_⟩
  simp
  rfl
def uf (r:Realm)(forum q:Int)(f:File)(day:Int):Said:=Sm r forum q ⟨{f with facts:=[]},0,-1,-1,-1,day⟩
theorem C0 (r:Realm)(hr:Right r)(forum q:Int)(f:File)(day:Int)(hf:FewS f):Runs T Nt [au r,.int forum,.int q,aD f,.int day] (lM (uf r forum q f day)):=by
 refine .of_tree rfl V0 Nu ?_
 simp[A5]
 refine⟨lM (uf r forum q f day),Gn r hr forum q ⟨{f with facts:=[]},0,-1,-1,-1,day⟩ ⟨hf.1,hf.2,hf.3,by simp⟩,?_⟩
 simp
 try rfl
def MZ (s:Said):Int:=if s.err≠0 then 0 else if s.cell.known=false then 2 else if s.cell.n≠0 then 1 else 0
theorem G6 (s:Said):Runs T TJ [lM s] (.int (MZ s)):=by
 refine .of_tree rfl YE Rk ?_
 unfold MZ
 by_cases h1:s.err=0<;>cases h2:s.cell.known<;>by_cases h3:s.cell.n=0<;>simp[Dk,h1,h2,h3]
def oo (s:Said):Int:=if s.err≠0∨s.cell.known=false then-1 else s.cell.n
theorem L6 (s:Said):Runs T GP [lM s] (.int (oo s)):=by
 refine .of_tree rfl Sk Jq ?_
 unfold oo
 by_cases h1:s.err=0<;>cases h2:s.cell.known<;>simp[uU,h1,h2]
end Rm
namespace Rm
open Go Go.Proofs Cx
def BU (day:Int)(l:List Act)(es:List (D×D)):List (D×D):=l.foldl (fun es a=>if a.kind=7∧a.day≤day then nM (.int a.at_) (.bool true) es else es) es
theorem abI (day:Int)(l:List Act){k:Nat}(hk:k<l.length):BU day (l.take (k+1)) []=if l[k].kind=7∧l[k].day≤day then nM (.int l[k].at_) (.bool true) (BU day (l.take k) []) else BU day (l.take k) []:=by
 unfold BU
 rw[List.take_succ_eq_append_getElem hk,List.foldl_append]
 rfl
theorem XO (k v:D):∀es:List (D×D),(nM k v es).length≤es.length+1
 |[]=>by simp[nM]
 |e::es=>by
  unfold nM
  split
  ·simp
  ·have:=XO k v es
   simp;omega
theorem WO (day:Int):∀(l:List Act) (es:List (D×D)),(BU day l es).length≤es.length+l.length
 |[],es=>by simp[BU]
 |a::l,es=>by
  have h:=WO day l (if a.kind=7∧a.day≤day then nM (.int a.at_) (.bool true) es else es)
  have hp:=XO (.int a.at_) (.bool true) es
  show(BU day l (if a.kind=7∧a.day≤day then nM (.int a.at_) (.bool true) es else es)).length≤_
  split at h
  ·rename_i hc
   rw[if_pos hc]
   simp;omega
  ·rename_i hc
   rw[if_neg hc]
   simp;omega
theorem E8 (f:File)(day:Int)(hl:f.acts.length≤100000):Runs T AV [aD f,.int day] (.map (BU day f.acts [])):=by
 refine .of_tree rfl LW Dq ?_
 simp[qA]
 refine EvP.forRounds f.acts.length (fun k=>[.int k]) (fun k=>[.map (BU day (f.acts.take k) [])]) ?_ (fun k hk=>?_) ?_
 ·simp[BU]
 ·have hw:=ar hk (by omega)
  have hs:=abI day f.acts hk
  have hlen:=WO day (f.acts.take k) []
  rw[hs]
  simp at hlen
  generalize BU day (f.acts.take k) []=es at*
  by_cases hc:f.acts[k].kind=7∧f.acts[k].day≤day
  ·simp[gS,dP,hk,hw,hc]
   omega
  ·simp[gS,dP,hk,hw,hc]
 ·simp[gS,dP]
theorem V3 {k v:D}:∀{es:List (D×D)} {e:D×D},e∈nM k v es→e.2=v∨e∈es
 |[],e,h=>by simp[nM] at h;exact .inl (by rw[h])
 |x::es,e,h=>by
  unfold nM at h
  split at h
  ·rcases List.mem_cons.mp h with rfl|h
   ·exact .inl rfl
   ·exact .inr (by simp[h])
  ·rcases List.mem_cons.mp h with rfl|h
   ·exact .inr (by simp)
   ·rcases V3 h with h|h
    ·exact .inl h
    ·exact .inr (by simp[h])
theorem XH (day:Int):∀(l:List Act) (es:List (D×D)),(∀e,e∈es→e.2=.bool true)→∀e,e∈BU day l es→e.2=.bool true
 |[],es,h,e,he=>h e he
 |a::l,es,h,e,he=>by
  refine XH day l (if a.kind=7∧a.day≤day then nM (.int a.at_) (.bool true) es else es) (fun x hx=>?_) e he
  split at hx
  ·rcases V3 hx with h'|h'
   ·exact h'
   ·exact h x h'
  ·exact h x hx
theorem Tj {k d:D}:∀{es:List (D×D)},jP k es=some d→∃e,e∈es∧e.2=d
 |x::es,h=>by
  unfold jP at h
  split at h
  ·exact⟨x,by simp,by simpa using h⟩
  ·obtain⟨e,h1,h2⟩:=Tj h
   exact⟨e,by simp[h1],h2⟩
theorem abo (day:Int)(l:List Act)(k:D):(jP k (BU day l [])).getD (.bool false)=.bool ((jP k (BU day l [])).getD (.bool false)).b:=by
 cases h:jP k (BU day l []) with
 |none=>rfl
 |some d=>
  obtain⟨e,h1,h2⟩:=Tj h
  have:=XH day l [] (fun e h=>by cases h) e h1
  rw[h2] at this
  rw[this];rfl
def xh (f:File)(sign day:Int):Bool:=inB sign f.signs.length&&((jP (.int sign) (BU day f.acts [])).getD (.bool false)).b
theorem Gr (f:File)(sign day:Int)(hl:f.acts.length≤100000):Runs T Ap [aD f,.int sign,.int day] (.bool (xh f sign day)):=by
 refine .of_tree rfl Lt DD ?_
 by_cases h1:0≤sign<;>by_cases h2:sign<f.signs.length<;>simp[pz,h1,h2,xh,inB]
 refine⟨_,E8 f day hl,?_⟩
 exact abo day f.acts (.int sign)
def FF (f:File)(sign:Int)(n:Nat):Int:=(f.alters.take n).foldl (fun s a=>if a.at_≤sign then a.sum else s) f.bill.sum
theorem HT (f:File)(sign:Int)(hl:f.alters.length≤100000):Runs T Cp [aD f,.int sign] (.int (FF f sign f.alters.length)):=by
 refine .of_tree rfl Pc Ft ?_
 simp[sL]
 refine EvP.forRounds f.alters.length (fun k=>[.int (FF f sign k),.int k]) (fun k=>[]) ?_ (fun k hk=>?_) ?_
 ·simp[FF]
 ·have hw:=ar hk (by omega)
  have hs:FF f sign (k+1)=if f.alters[k].at_≤sign then f.alters[k].sum else FF f sign k:=by
   unfold FF
   rw[List.take_succ_eq_append_getElem hk,List.foldl_append]
   rfl
  rw[hs]
  generalize FF f sign k=s at*
  by_cases hc:f.alters[k].at_≤sign<;>simp[qI,iN,hk,hw,hc]
 ·simp[qI,iN]
end Rm
namespace Rm
open Go Go.Proofs Cx
theorem AM (r:Realm)(c:Int):Runs T rS [au r,.int c] (.bool (inB c r.cities.length)):=by
 refine .of_tree rfl MY Dw ?_
 by_cases h1:0≤c<;>by_cases h2:c<r.cities.length<;>simp[pD,h1,h2,inB]
def uL (n:Int):Bool:=decide (0≤n)&&decide (n≤100000)
theorem sy (n:Int):Runs T jK [.int n] (.bool (uL n)):=by
 refine .of_tree rfl N9 G0 ?_
 by_cases h1:0≤n<;>by_cases h2:n≤100000<;>simp[rQ,h1,h2,uL]
theorem sV (n:Int):Runs T v5 [.int n] (.bool (uL n)):=by
 refine .of_tree rfl GH zi ?_
 by_cases h1:0≤n<;>by_cases h2:n≤100000<;>simp[lD,h1,h2,uL]
def abO (t:Tenor):Bool:=decide (t.kind=0)||decide (t.kind=1)
theorem AU (t:Tenor):Runs T sM [jU t] (.bool (abO t)):=by
 refine .of_tree rfl MF Eo ?_
 by_cases h1:t.kind=0<;>simp[qu,h1,abO]
theorem Kg (y m d:Int):∃n:Int,Runs T mL [.int y,.int m,.int d] (.int n):=by
 by_cases h:m<3
 ·refine⟨?w,?h⟩
  case h=>
   refine Runs.of_tree (d:=.int ?w) rfl sf na ?_
   simp[eY,h]
   exact rfl
 ·refine⟨?v,?g⟩
  case g=>
   refine Runs.of_tree (d:=.int ?v) rfl sf na ?_
   simp[eY,h]
   exact rfl
noncomputable def acm (y m d:Int):Int:=(Kg y m d).choose
theorem qV (y m d:Int):Runs T mL [.int y,.int m,.int d] (.int (acm y m d)):=(Kg y m d).choose_spec
noncomputable def Bj (y m:Int):Int:=if m=12 then 31 else IntKind.i64.wrap (acm y (IntKind.i64.wrap (m+1)) 1-acm y m 1)
theorem uv (y m:Int):Runs T tL [.int y,.int m] (.int (Bj y m)):=by
 refine .of_tree rfl Eh yU ?_
 unfold Bj
 by_cases h:m=12
 ·simp[eX,h]
 ·simp[eX,h]
  refine⟨_,qV _ _ _,_,qV _ _ _,?_⟩
  simp
theorem ac5 (y m d:Int):∃n e:Int,Runs T zz [.int y,.int m,.int d] (.tup [.int n,.int e])∧(e=0→0≤n∧n≤100000):=by
 by_cases h0:(((2000≤y∧y≤2300)∧1≤m)∧m≤12)∧1≤d
 ·by_cases h2:d≤Bj y m
  ·cases h1:uL (acm y m d)
   ·refine⟨0,3,.of_tree rfl j1 fC ?_,by simp⟩
    simp[dG]
    rw[if_pos h0]
    refine⟨_,uv y m,?_⟩
    simp[h0,h2]
    refine⟨_,qV _ _ _,_,sV _,?_⟩
    simp[h1]
   ·refine⟨acm y m d,0,.of_tree rfl j1 fC ?_,fun _=>by simpa [uL] using h1⟩
    simp[dG]
    rw[if_pos h0]
    exact⟨_,uv y m,⟨h0,h2⟩,_,qV _ _ _,_,sV _,h1,rfl⟩
  ·refine⟨0,3,.of_tree rfl j1 fC ?_,by simp⟩
   simp[dG]
   rw[if_pos h0]
   refine⟨_,uv y m,?_⟩
   simp[h0,h2]
 ·refine⟨0,3,.of_tree rfl j1 fC ?_,by simp⟩
  simp[dG]
  rw[if_neg h0]
  intro a1 a2 a3 a4 a5
  exact absurd ⟨⟨⟨⟨a1,a2⟩,a3⟩,a4⟩,a5⟩ h0
theorem Xx (r:Realm)(fr to:Int)(hl:r.usances.length≤100000):∃n e:Int,Runs T zR [au r,.int fr,.int to] (.tup [.int n,.int e])∧(e=0→∃u,u∈r.usances∧n=u.days):=by
 let p:Usance→Bool:=fun u=>decide (u.fr=fr)&&decide (u.to=to)
 refine⟨match r.usances.find? p with|some u=>u.days|none=>0,match r.usances.find? p with|some u=>0|none=>4,?_,?_⟩
 ·refine .of_tree rfl MH D0 ?_
  simp[pK]
  refine EvP.scan r.usances.length (fun k=>p (r.usances.getD k default)=false) (fun k=>[.int 0,.int 0,.int k]) (fun _=>[]) ?_ (fun k hk hj hok=>?_) (fun k hk hj hok=>?_) (fun hj=>?_)
  ·simp
  ·have hw:=ar hk (by omega)
   have hn:¬(r.usances[k].fr=fr∧r.usances[k].to=to):=by simpa [p,hk] using hok
   simp[gT,dK,hk,hw,hn]
  ·have hfi:=nk hk (by simpa [hk] using hok) (fun j hj'=>by have:=hj j hj';simpa [show j<r.usances.length by omega] using this)
   have hc:r.usances[k].fr=fr∧r.usances[k].to=to:=by simpa [p,hk] using hok
   rw[hfi]
   simp[gT,dK,hk,hc]
  ·have hfi:=mz (l:=r.usances) (p:=p) (fun j hj'=>by have:=hj j hj';simpa [hj'] using this)
   rw[hfi]
   simp[gT,dK]
 ·cases h:r.usances.find? p with
  |none=>intro h;cases h
  |some u=>exact fun _=>⟨u,List.mem_of_find?_eq_some h,rfl⟩
end Rm
namespace Rm
open Go Go.Proofs Cx
theorem ZX (R Y:Int)(hR:0≤R∧R<146097)(h1:365*Y≤R-R/1460+R/36524-R/146096)(h2:R-R/1460+R/36524-R/146096<365*Y+365):0≤R-(365*Y+Y/4-Y/100)∧R-(365*Y+Y/4-Y/100)≤500:=by
 have k0:R/36524≤R/1460:=by omega
 have k1:Y/4≤R/1460:=by omega
 have hY:0≤Y:=by omega
 have hc:R/36524=0∨R/36524=1∨R/36524=2∨R/36524=3∨R/36524=4:=by omega
 have k2:25*(R/36524)≤R/1460:=by omega
 refine⟨?_,?_⟩
 ·rcases Int.lt_or_le Y (100*(R/36524)) with hy|hy
  ·have k3:Y/4≤25*(R/36524)-1:=by omega
   have k4:R/36524-1≤Y/100:=by omega
   omega
  ·have k3:R/36524≤Y/100:=by omega
   omega
 ·omega
theorem OV (n:Int)(h:0≤n∧n≤100400):Runs T wF [.int n] (.tup [.int (oY n).1,.int (oY n).2.1,.int (oY n).2.2]):=by
 refine .of_tree rfl GR Am ?_
 have w:∀x:Int,-1000000000≤x→x≤1000000000→IntKind.i64.wrap x=x:=fun x a b=>az (by omega)
 have t:∀x y:Int,0≤x→x.tdiv y=x/y:=fun x y hx=>Int.tdiv_eq_ediv_of_nonneg hx
 have u:∀x y:Int,0≤x→x.tmod y=x%y:=fun x y hx=>Int.tmod_eq_emod_of_nonneg hx
 simp[lP]
 unfold oY
 simp only[]
 rw[w (n+730425) (by omega) (by omega),u (n+730425) 146097 (by omega),t (n+730425) 146097 (by omega)]
 have hR:0≤(n+730425)%146097∧(n+730425)%146097<146097:=by omega
 have hE:0≤(n+730425)/146097∧(n+730425)/146097<100:=by omega
 generalize (n+730425)%146097=R at*
 generalize (n+730425)/146097=e at*
 rw[t R 1460 (by omega),t R 36524 (by omega),t R 146096 (by omega),w (R/1460) (by omega) (by omega),w (R-R/1460) (by omega) (by omega),w (R/36524) (by omega) (by omega),w (R-R/1460+R/36524) (by omega) (by omega),w (R/146096) (by omega) (by omega),w (R-R/1460+R/36524-R/146096) (by omega) (by omega),t (R-R/1460+R/36524-R/146096) 365 (by omega)]
 have hY:0≤(R-R/1460+R/36524-R/146096)/365∧(R-R/1460+R/36524-R/146096)/365<400:=by omega
 have hD:0≤R-(365*((R-R/1460+R/36524-R/146096)/365)+(R-R/1460+R/36524-R/146096)/365/4-(R-R/1460+R/36524-R/146096)/365/100)∧R-(365*((R-R/1460+R/36524-R/146096)/365)+(R-R/1460+R/36524-R/146096)/365/4-(R-R/1460+R/36524-R/146096)/365/100)≤500:=by
  exact ZX R _ hR (by omega) (by omega)
 generalize (R-R/1460+R/36524-R/146096)/365=Y at*
 rw[w Y (by omega) (by omega),w (365*Y) (by omega) (by omega),t Y 4 (by omega),t Y 100 (by omega),w (Y/4) (by omega) (by omega),w (Y/100) (by omega) (by omega),w (365*Y+Y/4) (by omega) (by omega),w (365*Y+Y/4-Y/100) (by omega) (by omega),w (R-(365*Y+Y/4-Y/100)) (by omega) (by omega)]
 generalize R-(365*Y+Y/4-Y/100)=D at*
 rw[w (5*D) (by omega) (by omega),w (5*D+2) (by omega) (by omega),t (5*D+2) 153 (by omega)]
 have hM:0≤(5*D+2)/153∧(5*D+2)/153≤20:=by omega
 generalize (5*D+2)/153=M at*
 rw[w M (by omega) (by omega),w (M+3) (by omega) (by omega),w (M+3-12) (by omega) (by omega),w e (by omega) (by omega),w (400*e) (by omega) (by omega),w (Y+400*e) (by omega) (by omega),w (Y+400*e+1) (by omega) (by omega)]
 rw[w (153*M) (by omega) (by omega),w (153*M+2) (by omega) (by omega),t (153*M+2) 5 (by omega),w ((153*M+2)/5) (by omega) (by omega),w (D-(153*M+2)/5) (by omega) (by omega),w (D-(153*M+2)/5+1) (by omega) (by omega)]
 refine⟨?_,?_,rfl⟩
 ·generalize (if 12<M+3 then M+3-12 else M+3)=m
  split<;>rfl
 ·split<;>rfl
theorem Qx (d n:Int):∃x e:Int,Runs T pg [.int d,.int n] (.tup [.int x,.int e])∧(e=0→0≤x∧x≤100000):=by
 by_cases h0:uL d=true∧-5000≤n∧n≤5000
 ·have hd:0≤d∧d≤100400:=by have:=h0.1;simp[uL] at this;omega
  obtain⟨A,hA⟩:∃A,A=IntKind.i64.wrap (IntKind.i64.wrap (IntKind.i64.wrap (IntKind.i64.wrap (12*(oY d).1)+(oY d).2.1)-1)+n):=⟨_,rfl⟩
  obtain⟨Y,hY⟩:∃Y,Y=IntKind.i64.wrap (A.tdiv 12):=⟨_,rfl⟩
  obtain⟨M,hM⟩:∃M,M=IntKind.i64.wrap (A.tmod 12+1):=⟨_,rfl⟩
  obtain⟨x,e,hD,hb⟩:=ac5 Y M (if Bj Y M<(oY d).2.2 then Bj Y M else(oY d).2.2)
  refine⟨x,e,.of_tree rfl m9 jI ?_,hb⟩
  have n1:¬n< -5000:=by omega
  have n2:¬5000<n:=by omega
  simp[dw,n1,n2]
  refine⟨_,sV d,?_⟩
  simp[h0.1]
  refine⟨_,OV d hd,?_⟩
  simp[←hA,←hY,←hM]
  refine⟨_,uv Y M,?_⟩
  by_cases hl:Bj Y M<(oY d).2.2
  ·simp only[if_pos hl] at hD
   simp[hl]
   refine⟨_,hD,?_⟩
   simp
  ·simp only[if_neg hl] at hD
   simp[hl]
   refine⟨_,hD,?_⟩
   simp
 ·refine⟨0,3,.of_tree rfl m9 jI ?_,by simp⟩
  simp[dw]
  refine⟨_,sV d,?_⟩
  simp
  intro a b c
  exact absurd ⟨a,b,c⟩ h0
end Rm
