/-
  Shared texts of this claim.
-/
import Derived.Test.YtehiffddpebpkaaGreatDoorKAN
import Derived.Lib.Mul64
set_option linter.unusedSimpArgs false
set_option linter.unusedVariables false
namespace Rm
open Go Go.Proofs Cx
def fV (f:Tm→Int):List Tm→Int→Int
 |[],n=>n
 |a::l,n=>if 60<n+f a then n+f a else fV f l (n+f a)
def bB:Nat→Tm→Int
 |0,_=>61
 |L+1,t=>fV (bB L) t.args 1
def jM (f:Tm→Int)(l:List Tm):Int:=(l.map f).sum
theorem Ba {f:Tm→Int}{l:List Tm}{k:Nat}(h:k<l.length):jM f (l.take (k+1))=jM f (l.take k)+f l[k]:=by
 unfold jM;rw[vA f h,List.sum_append];simp
theorem Ss {f:Tm→Int}:∀{l:List Tm} {n:Int} {k:Nat},(hk:k<l.length)→(∀j,j<k→n+jM f (l.take (j+1))≤60)→60<n+jM f (l.take (k+1))→fV f l n=n+jM f (l.take (k+1))
 |a::l,n,0,hk,_,h=>by
  simp[jM] at h ⊢
  unfold fV;rw[if_pos (by omega)]
 |a::l,n,k+1,hk,hj,h=>by
  have h0:=hj 0 (by omega)
  simp[jM] at h0
  unfold fV;rw[if_neg (by omega)]
  have e:∀j,n+jM f ((a::l).take (j+1+1))=n+f a+jM f (l.take (j+1)):=by intro j;simp[jM];omega
  rw[Ss (l:=l) (k:=k) (by simpa using hk) (fun j hjk=>by have:=hj (j+1) (by omega);rw[e] at this;exact this) (by rw[←e];exact h),e]
theorem NI {f:Tm→Int}:∀{l:List Tm} {n:Int},(∀j,j<l.length→n+jM f (l.take (j+1))≤60)→fV f l n=n+jM f l
 |[],n,_=>by simp[fV,jM]
 |a::l,n,hj=>by
  have h0:=hj 0 (by simp)
  simp[jM] at h0
  unfold fV;rw[if_neg (by omega)]
  have e:∀j,n+jM f ((a::l).take (j+1+1))=n+f a+jM f (l.take (j+1)):=by intro j;simp[jM];omega
  rw[NI (l:=l) (fun j hjl=>by have:=hj (j+1) (by simpa using hjl);rw[e] at this;exact this)]
  simp[jM];omega
theorem VU {f:Tm→Int}(hf:∀a,1≤f a):∀{l:List Tm} {n:Int},n≤fV f l n
 |[],n=>by simp[fV]
 |a::l,n=>by
  unfold fV
  have:=hf a
  split
  ·omega
  ·have:=VU hf (l:=l) (n:=n+f a);omega
theorem rO:∀(L:Nat) (t:Tm),1≤bB L t
 |0,t=>by simp[bB]
 |L+1,t=>VU (rO L)
theorem Xr {f:Tm→Int}{B:Int}(hf:∀a,f a≤B)(hB:0≤B):∀{l:List Tm} {n:Int},n≤60→fV f l n≤60+B
 |[],n,h=>by simp[fV];omega
 |a::l,n,h=>by
  unfold fV
  have:=hf a
  split
  ·omega
  ·exact Xr hf hB (by omega)
theorem Vq:∀(L:Nat) (t:Tm),bB L t≤61+60*L
 |0,t=>by simp[bB]
 |L+1,t=>by
  have:=Xr (f:=bB L) (fun a=>Vq L a) (by omega) (l:=t.args) (n:=1) (by omega)
  show fV _ _ _≤_
  omega
theorem Ki {f:Tm→Int}(hf:∀a,1≤f a):∀{l:List Tm} {n:Int},fV f l n≤60→(n:Int)+l.length≤60∧∀a,a∈l→f a≤60-n
 |[],n,h=>by simp[fV] at h ⊢;exact h
 |a::l,n,h=>by
  unfold fV at h
  have:=hf a
  split at h
  ·omega
  ·obtain⟨h1,h2⟩:=Ki hf h
   refine⟨by simp;omega,fun b hb=>?_⟩
   rcases List.mem_cons.1 hb with rfl|hb
   ·omega
   ·have:=h2 b hb;omega
theorem DG {L:Nat}{t:Tm}(h:bB (L+1) t≤60):t.args.length≤59∧∀a,a∈t.args→bB L a≤60:=by
 obtain⟨h1,h2⟩:=Ki (rO L) h
 exact⟨by omega,fun a ha=>by have:=h2 a ha;omega⟩
theorem lq:∀(L:Nat) (t:Tm) (lv:Int),t.OK→L≤8→lv=9-(L:Int)→Runs T AF [jd t,.int lv] (.int (bB L t))
 |0,t,lv,ht,hL,hlv=>by
  refine .of_tree rfl xZ sm ?_
  subst hlv
  simp[jX,bB]
 |L+1,t,lv,ht,hL,hlv=>by
  refine .of_tree rfl xZ sm ?_
  have hl:=ht.len
  have h8:¬(8<lv):=by omega
  have hwl:IntKind.i64.wrap (lv+1)=lv+1:=ay (by omega)
  simp[jX,h8]
  refine .scan t.args.length (fun k=>1+jM (bB L) (t.args.take (k+1))≤60) (fun k=>[.int (1+jM (bB L) (t.args.take k)),.int k]) (fun _=>[]) ?_ (fun k hk hj ho=>?_) (fun k hk hj ho=>?_) (fun hj=>?_)
  ·simp[jM]
  all_goals try rw[Ba hk] at ho
  ·have hw:IntKind.i64.wrap ((k:Int)+1)=(k:Int)+1:=ay (by omega)
   have hrec:=lq L t.args[k] (lv+1) (ht.arg (List.getElem_mem hk)) (by omega) (by omega)
   rw[Ba hk]
   have hs:0≤jM (bB L) (t.args.take k):=by
    unfold jM
    have:∀(l:List Tm),0≤(l.map (bB L)).sum:=by
     intro l
     induction l with
     |nil=>simp
     |cons a l ih=>have:=rO L a;simp;omega
    exact this _
   have hb1:=rO L t.args[k]
   generalize jM (bB L) (t.args.take k)=m at*
   generalize bB L t.args[k]=v at*
   have hwm:IntKind.i64.wrap (1+m+v)=1+m+v:=ay (by omega)
   have ho':¬60<1+m+v:=by omega
   simp[gG,dV,hk,hwl]
   refine⟨_,hrec,?_⟩
   simp[hwm,ho',hw]
   omega
  ·have hrec:=lq L t.args[k] (lv+1) (ht.arg (List.getElem_mem hk)) (by omega) (by omega)
   have hf:bB (L+1) t=1+jM (bB L) (t.args.take (k+1)):=Ss hk hj (by rw[Ba hk];omega)
   rw[hf,Ba hk]
   have hs:0≤jM (bB L) (t.args.take k)∧1+jM (bB L) (t.args.take k)≤60:=by
    constructor
    ·unfold jM
     have:∀(l:List Tm),0≤(l.map (bB L)).sum:=by
       intro l
       induction l with
       |nil=>simp
       |cons a l ih=>have:=rO L a;simp;omega
     exact this _
    ·cases k with
     |zero=>simp[jM]
     |succ k=>exact hj k (by omega)
   have hb1:=rO L t.args[k]
   have hb2:=Vq L t.args[k]
   generalize jM (bB L) (t.args.take k)=m at*
   generalize bB L t.args[k]=v at*
   have hwm:IntKind.i64.wrap (1+m+v)=1+m+v:=ay (by omega)
   have ho':60<1+m+v:=by omega
   simp[gG,dV,hk,hwl]
   refine⟨_,hrec,?_⟩
   simp[hwm,ho']
   omega
  ·have hf:bB (L+1) t=1+jM (bB L) t.args:=NI hj
   rw[hf]
   simp[gG,dV]
def kAt (ws ts:List Int):Nat→Int
 |0=>-1
 |k+1=>if ws.getD k 0=-1∧kAt ws ts k=-1 then ts.getD k 0 else kAt ws ts k
def kOK (ws ts:List Int)(k:Nat):Bool:=if ws.getD k 0=-1 then decide (kAt ws ts k=-1)||decide (ts.getD k 0=kAt ws ts k) else decide (ts.getD k 0=ws.getD k 0)
def P5 (t:Tm)(ks:List Int):Int×Int:=
 if t.op<0∨13<t.op then(0,1) else if t.op=0∨t.op=1∨t.op=2 then V6 t else
 if ks.length≠(bT t.op).1.length∨t.n≠0 then(0,2) else
 if mD (bT t.op).1.length (kOK (bT t.op).1 ks)=false then(0,11) else if(bT t.op).2=-1 then(kAt (bT t.op).1 ks (bT t.op).1.length,0) else((bT t.op).2,0)
def aL:Nat→Tm→Int×Int
 |0,_=>(0,0)
 |L+1,t=>if kH t.args.length (fun k=>(aL L (t.args.getD k default)).2)≠0 then(0,kH t.args.length (fun k=>(aL L (t.args.getD k default)).2)) else P5 t (t.args.map fun a=>(aL L a).1)
theorem As (L:Nat)(t:Tm):aL (L+1) t=if kH t.args.length (fun k=>(aL L (t.args.getD k default)).2)≠0 then(0,kH t.args.length (fun k=>(aL L (t.args.getD k default)).2)) else P5 t (t.args.map fun a=>(aL L a).1):=rfl
theorem El {α:Type}(A:List α)(z:α){k n:Nat}(hA:A.length=n)(hk:k<n):(A.take k++List.replicate (n-k) z).set k A[k]=A.take (k+1)++List.replicate (n-(k+1)) z:=by
 have h1:(A.take k).length=k:=by rw[List.length_take];omega
 rw[List.set_append_right _ _ (by omega),h1,Nat.sub_self]
 have:n-k=(n-(k+1))+1:=by omega
 rw[this,List.replicate_succ,List.set_cons_zero,List.take_succ_eq_append_getElem (by omega),List.append_assoc];rfl
theorem aaX (op:Int):(bT op).1.length≤3:=by
 unfold bT;repeat' split
 all_goals simp
theorem pX:∀(L:Nat) (t:Tm),t.OK→bB L t≤60→Runs T FU [jd t] (.tup [.int (aL L t).1,.int (aL L t).2])
 |0,t,ht,hm=>by simp[bB] at hm
 |L+1,t,ht,hm=>by
  refine .of_tree rfl QR IW ?_
  obtain⟨hl,hp⟩:=DG hm
  simp[uz]
  refine⟨by omega,?_⟩
  refine Kj t.args.length (fun k=>(aL L (t.args.getD k default)).2) (fun k=>[.int 0,.int 0,.int k]) (fun k=>[ints ((t.args.map fun a=>(aL L a).1).take k++List.replicate (t.args.length-k) 0)]) ?_ (fun k hk ho=>?_) (fun k hk ho hb=>?_) (fun hj=>?_)
  ·simp[ints]
  ·have hw:=ar hk (by omega)
   have hmem:=List.getElem_mem hk
   have hrec:=pX L t.args[k] (ht.arg hmem) (hp _ hmem)
   have hs:=El (t.args.map fun a=>(aL L a).1) 0 (n:=t.args.length) (by simp) hk
   rw[←hs]
   have hlen:((t.args.map fun a=>(aL L a).1).take k++List.replicate (t.args.length-k) (0:Int)).length=t.args.length:=by simp;omega
   have hgk:(t.args.map fun a=>(aL L a).1)[k]'(by simpa using hk)=(aL L t.args[k]).1:=by simp
   rw[hgk]
   generalize (t.args.map fun a=>(aL L a).1).take k++List.replicate (t.args.length-k) (0:Int)=A at*
   simp[hk] at ho
   rw[ho] at hrec
   generalize (aL L t.args[k]).1=kd at*
   simp[kO,fM,hk]
   refine⟨_,hrec,?_⟩
   simp[hlen,hk,hw,ints]
  ·have hmem:=List.getElem_mem hk
   have hrec:=pX L t.args[k] (ht.arg hmem) (hp _ hmem)
   have hf:aL (L+1) t=(0,(aL L (t.args.getD k default)).2):=by
    rw[As,hb,if_pos ho]
   rw[hf]
   simp[hk] at ho ⊢
   simp[kO,fM,hk]
   refine⟨_,hrec,?_⟩
   simp[ho]
  ·have hf:aL (L+1) t=P5 t (t.args.map fun a=>(aL L a).1):=by
    rw[As,hj];simp
   rw[hf]
   have e0:(t.args.map fun a=>(aL L a).1).take t.args.length++List.replicate (t.args.length-t.args.length) 0=t.args.map fun a=>(aL L a).1:=by
    rw[Nat.sub_self,List.take_of_length_le (by simp)];simp
   rw[e0]
   have hkl:(t.args.map fun a=>(aL L a).1).length=t.args.length:=by simp
   generalize (t.args.map fun a=>(aL L a).1)=ks at*
   simp[kO,fM]
   unfold P5
   by_cases h1:t.op<0
   ·simp[h1]
   by_cases h2:13<t.op
   ·simp[h1,h2]
   simp[h1,h2]
   by_cases h3:t.op=0∨t.op=1∨t.op=2
   ·have h3':(t.op=0∨t.op=1)∨t.op=2:=by omega
    simp[h3,h3']
    refine⟨_,Qk t,?_⟩
    simp
   have h3':¬((t.op=0∨t.op=1)∨t.op=2):=by omega
   simp[h3,h3']
   refine⟨_,Gt _,?_⟩
   have hsl:=aaX t.op
   generalize bT t.op=sh at*
   simp
   by_cases h4:ks.length=sh.1.length
   case neg=>
    have h4':¬((ks.length:Int)=sh.1.length):=by omega
    have h4'':¬t.args.length=sh.1.length:=by omega
    simp[h4,h4',h4'']
   have h4':(ks.length:Int)=sh.1.length:=by omega
   have h4'':t.args.length=sh.1.length:=by omega
   by_cases h5:t.n=0
   case neg=>simp[h4,h4',h4'',h5]
   simp[h4,h4',h4'',h5]
   refine gl sh.1.length (kOK sh.1 ks) (fun k=>[.int 0,.int 0,.int (kAt sh.1 ks k),.int k]) (fun _=>[]) ?_ (fun k hk ho=>?_) (fun k hk ho hb=>?_) (fun hj=>?_)
   ·simp[kAt]
   ·have hw:=ar hk (by omega)
    have hk2:k<ks.length:=by omega
    simp only[kAt]
    unfold kOK at ho
    simp only[List.getD_eq_getElem?_getD,List.getElem?_eq_getElem hk,List.getElem?_eq_getElem hk2,Option.getD_some] at ho ⊢
    generalize kAt sh.1 ks k=c at*
    by_cases a1:sh.1[k]=-1
    ·by_cases a2:c=-1
     ·simp[bR,bI,hk,hk2,hw,ints,a1,a2]
     ·simp[a1,a2] at ho
      simp[bR,bI,hk,hk2,hw,ints,a1,a2,ho]
    ·simp[a1] at ho
     simp[bR,bI,hk,hk2,hw,ints,a1,ho]
   ·rw[hb]
    have hk2:k<ks.length:=by omega
    unfold kOK at ho
    simp only[List.getD_eq_getElem?_getD,List.getElem?_eq_getElem hk,List.getElem?_eq_getElem hk2,Option.getD_some] at ho
    generalize kAt sh.1 ks k=c at*
    by_cases a1:sh.1[k]=-1
    ·by_cases a2:c=-1
     ·simp[a1,a2] at ho
     ·simp[a1,a2] at ho
      simp[bR,bI,hk,hk2,ints,a1,a2,ho]
    ·simp[a1] at ho
     simp[bR,bI,hk,hk2,ints,a1,ho]
   ·rw[hj]
    simp[bR,bI]
    by_cases a1:sh.2=-1<;>simp[a1]
def oT (t:Tm):Int×Int:=if 60<bB 8 t then(0,6) else aL 8 t
theorem xW (t:Tm)(ht:t.OK):Runs T G6 [jd t] (.tup [.int (oT t).1,.int (oT t).2]):=by
 refine .of_tree rfl Rs JI ?_
 simp[uo,oT]
 refine⟨_,lq 8 t 1 ht (by omega) (by omega),?_⟩
 by_cases h:60<bB 8 t
 ·simp[h]
 simp[h]
 refine⟨_,pX 8 t ht (by omega),?_⟩
 simp
end Rm
namespace Rm
open Go Go.Proofs Cx
abbrev u (n:Nat):D:=.v (.int .u64 n)
theorem Wr (n:Int):IntKind.u64.wrap n=n%18446744073709551616:=rfl
theorem acW {n:Int}(h:0≤n∧n<18446744073709551616):IntKind.u64.wrap n=n:=by
 rw[Wr];omega
theorem sy {n:Nat}(h:n<18446744073709551616):IntKind.u64.wrap (n:Int)=n:=acW (by omega)
theorem ads (a s:Nat)(h:s≤64):arI .shr .u64 a s=((a/2^s:Nat):Int):=by
 show Int.fdiv (a:Int) (2^(min (s:Int).toNat 64))=_
 have:min (s:Int).toNat 64=s:=by simp;omega
 rw[this,Int.fdiv_eq_ediv_of_nonneg _ (Int.le_of_lt (Int.pow_pos (by decide)))]
 rw[Int.natCast_ediv,Int.natCast_pow];rfl
theorem UX (a:Nat)(h:a<18446744073709551616):arI .and .u64 a 4294967295=((a%4294967296:Nat):Int):=by
 show IntKind.u64.wrap ((BitVec.ofInt 64 (a:Int)&&& BitVec.ofInt 64 4294967295).toNat:Nat)=_
 have e:(BitVec.ofInt 64 (a:Int)&&& BitVec.ofInt 64 4294967295).toNat=a%4294967296:=by
  rw[BitVec.toNat_and]
  have e1:(BitVec.ofInt 64 (a:Int)).toNat=a:=by simp[BitVec.ofInt,BitVec.toNat_ofNat];omega
  have e2:(BitVec.ofInt 64 4294967295).toNat=2^32-1:=by decide
  rw[e1,e2,Nat.and_two_pow_sub_one_eq_mod]
 rw[e,sy (by omega)]
@[simp] theorem R8 (a:Nat):arI .shr .u64 a 32=((a/4294967296:Nat):Int):=ads a 32 (by decide)
set_option maxHeartbeats 2000000 in
theorem X1 (a b:Nat)(ha:a<18446744073709551616)(hb:b<18446744073709551616):Runs T GL [u a,u b] (.tup [u (a*b/18446744073709551616),u (a*b%18446744073709551616)]):=by
 refine .of_tree rfl Rj JK ?_
 obtain⟨h1,h2,h3,h4⟩:=Go.Lib.mul64_hi a b ha hb
 have elo:IntKind.u64.wrap ((a:Int)*(b:Int))=((a*b%18446744073709551616:Nat):Int):=by rw[Wr,Int.natCast_emod,Int.natCast_mul];rfl
 have ea1:arI .shr .u64 (a:Int) 32=((a/4294967296:Nat):Int):=R8 a
 have ea0:arI .and .u64 (a:Int) 4294967295=((a%4294967296:Nat):Int):=UX a ha
 have eb1:arI .shr .u64 (b:Int) 32=((b/4294967296:Nat):Int):=R8 b
 have eb0:arI .and .u64 (b:Int) 4294967295=((b%4294967296:Nat):Int):=UX b hb
 have hm11:=Go.Lib.half_mul_le (a:=a/4294967296) (b:=b/4294967296) (by omega) (by omega)
 have hm10:=Go.Lib.half_mul_le (a:=a/4294967296) (b:=b%4294967296) (by omega) (by omega)
 have hm01:=Go.Lib.half_mul_le (a:=a%4294967296) (b:=b/4294967296) (by omega) (by omega)
 have hm00:=Go.Lib.half_mul_le (a:=a%4294967296) (b:=b%4294967296) (by omega) (by omega)
 have hhi:a*b/18446744073709551616<18446744073709551616:=by
  have:a*b<18446744073709551616*18446744073709551616:=Nat.mul_lt_mul'' ha hb
  exact Nat.div_lt_of_lt_mul this
 simp only[u7]
 generalize a/4294967296=a1 at*
 generalize a%4294967296=a0 at*
 generalize b/4294967296=b1 at*
 generalize b%4294967296=b0 at*
 have p11:IntKind.u64.wrap ((a1:Int)*(b1:Int))=((a1*b1:Nat):Int):=by rw[←Int.natCast_mul];exact sy (by omega)
 have p10:IntKind.u64.wrap ((a1:Int)*(b0:Int))=((a1*b0:Nat):Int):=by rw[←Int.natCast_mul];exact sy (by omega)
 have p01:IntKind.u64.wrap ((a0:Int)*(b1:Int))=((a0*b1:Nat):Int):=by rw[←Int.natCast_mul];exact sy (by omega)
 have p00:IntKind.u64.wrap ((a0:Int)*(b0:Int))=((a0*b0:Nat):Int):=by rw[←Int.natCast_mul];exact sy (by omega)
 rw[←h4] at hhi ⊢
 generalize a1*b1=P at*
 generalize a1*b0=Q at*
 generalize a0*b1=R at*
 generalize a0*b0=S at*
 have s1:arI .shr .u64 (S:Int) 32=((S/4294967296:Nat):Int):=R8 S
 have s2:IntKind.u64.wrap ((Q:Int)+((S/4294967296:Nat):Int))=((Q+S/4294967296:Nat):Int):=by rw[acW (by omega)];omega
 generalize S/4294967296=S1 at*
 generalize hT:Q+S1=TT at*
 have s3:arI .shr .u64 (TT:Int) 32=((TT/4294967296:Nat):Int):=R8 TT
 have s4:arI .and .u64 (TT:Int) 4294967295=((TT%4294967296:Nat):Int):=UX TT (by omega)
 have s5:IntKind.u64.wrap (((TT%4294967296:Nat):Int)+(R:Int))=((TT%4294967296+R:Nat):Int):=by rw[acW (by omega)];omega
 generalize hU:TT%4294967296+R=U at*
 have s6:arI .shr .u64 (U:Int) 32=((U/4294967296:Nat):Int):=R8 U
 have s7:IntKind.u64.wrap ((P:Int)+((TT/4294967296:Nat):Int))=((P+TT/4294967296:Nat):Int):=by rw[acW (by omega)];omega
 have s8:IntKind.u64.wrap (((P+TT/4294967296:Nat):Int)+((U/4294967296:Nat):Int))=((P+TT/4294967296+U/4294967296:Nat):Int):=by rw[acW (by omega)];omega
 simp[-R8,-Int.natCast_add,-Int.natCast_mul,-Int.natCast_ediv,-Int.natCast_emod,elo,ea1,ea0,eb1,eb0,p11,p10,p01,p00,s1,s2,s3,s4,s5,s6,s7,s8]
def G3 (m:Nat):Int:=if m<1099511627776 then m else 1099511627776
def SO (a b:Int):Int:=if(decide (a<0)!=decide (b<0))=true then-G3 (a.natAbs*b.natAbs) else G3 (a.natAbs*b.natAbs)
theorem Zn (m:Nat):0≤G3 m∧G3 m≤1099511627776:=by unfold G3;split<;>omega
set_option maxHeartbeats 1000000 in
theorem Gk (a b:Int)(ha:-1099511627776≤a∧a≤1099511627776)(hb:-1099511627776≤b∧b≤1099511627776):Runs T zk [.int a,.int b] (.int (SO a b)):=by
 refine .of_tree rfl Lv DM ?_
 have wa:IntKind.u64.wrap (a.natAbs:Int)=a.natAbs:=sy (by omega)
 have wb:IntKind.u64.wrap (b.natAbs:Int)=b.natAbs:=sy (by omega)
 have w0a:IntKind.i64.wrap (0-a)=-a:=by rw[ay (by omega)];omega
 have w0b:IntKind.i64.wrap (0-b)=-b:=by rw[ay (by omega)];omega
 have w0a':IntKind.i64.wrap (-a)=-a:=ay (by omega)
 have w0b':IntKind.i64.wrap (-b)=-b:=ay (by omega)
 have ea:(if a< -a then D.int (-a) else D.int a)=D.int a.natAbs:=by split<;>congr 1<;>omega
 have eb:(if b< -b then D.int (-b) else D.int b)=D.int b.natAbs:=by split<;>congr 1<;>omega
 have ea':(if a< -a then-a else a)=(a.natAbs:Int):=by split<;>omega
 have eb':(if b< -b then-b else b)=(b.natAbs:Int):=by split<;>omega
 simp[pC,w0a',w0b',ea,eb,ea',eb']
 rw[wa,wb]
 refine⟨_,X1 a.natAbs b.natAbs (by omega) (by omega),?_⟩
 unfold SO
 generalize a.natAbs*b.natAbs=m
 have hs:(decide (a<0)!=decide (b<0))=false↔(a<0↔b<0):=by
  by_cases h1:a<0<;>by_cases h2:b<0<;>simp[h1,h2]
 have key:((if((m/18446744073709551616:Nat):Int)=0∧((m%18446744073709551616:Nat):Int)<1099511627776 then IntKind.i64.wrap ((m%18446744073709551616:Nat):Int) else 1099511627776):Int)=G3 m:=by
  unfold G3
  by_cases hm:m<1099511627776
  ·have h1:m/18446744073709551616=0:=by omega
   have h2:m%18446744073709551616=m:=by omega
   rw[h1,h2,if_pos ⟨rfl,by omega⟩,if_pos hm,ay (by omega)]
  ·rw[if_neg hm,if_neg]
   rintro⟨h1,h2⟩
   omega
 have hb':=Zn m
 have keyD:(if((m/18446744073709551616:Nat):Int)=0∧((m%18446744073709551616:Nat):Int)<1099511627776 then D.int (IntKind.i64.wrap ((m%18446744073709551616:Nat):Int)) else D.int 1099511627776)=D.int (G3 m):=by
  rw[←key];split<;>rfl
 show(if a<0↔b<0 then(if((m/18446744073709551616:Nat):Int)=0∧((m%18446744073709551616:Nat):Int)<1099511627776 then D.int (IntKind.i64.wrap ((m%18446744073709551616:Nat):Int)) else D.int 1099511627776)=_ else
  IntKind.i64.wrap (-(if((m/18446744073709551616:Nat):Int)=0∧((m%18446744073709551616:Nat):Int)<1099511627776 then IntKind.i64.wrap ((m%18446744073709551616:Nat):Int) else 1099511627776))=_)
 rw[keyD,key]
 generalize G3 m=n at*
 split
 ·rename_i h;rw[hs.2 h];simp
 ·rename_i h
  have:(decide (a<0)!=decide (b<0))=true:=by
   cases e:(decide (a<0)!=decide (b<0)) with
   |true=>rfl
   |false=>exact absurd (hs.1 e) h
  rw[this,ay (by omega)];simp
def Hw (op a b:Int):Int:=if op=9 then Oe (a+b) else if op=10 then Oe (a-b) else if op=11 then SO a b else if op=12 then min a b else max a b
theorem Am (op a b:Int)(ha:-1099511627776≤a∧a≤1099511627776)(hb:-1099511627776≤b∧b≤1099511627776):Runs T tP [.int op,.int a,.int b] (.int (Hw op a b)):=by
 refine .of_tree rfl D5 yF ?_
 have w1:IntKind.i64.wrap (a+b)=a+b:=ay (by omega)
 have w2:IntKind.i64.wrap (a-b)=a-b:=ay (by omega)
 simp[km,Hw,w1,w2]
 by_cases h1:op=9
 ·simp[h1];exact nH _
 by_cases h2:op=10
 ·simp[h1,h2];exact nH _
 by_cases h3:op=11
 ·simp[h1,h2,h3];exact Gk a b ha hb
 by_cases h4:op=12
 ·simp[h1,h2,h3,h4]
  by_cases h5:b<a<;>simp[h5]<;>omega
 simp[h1,h2,h3,h4]
 by_cases h5:b>a<;>simp[h5]<;>omega
def sV (b:Bool):Cell:=if b then⟨true,1⟩ else⟨true,0⟩
theorem cY (b:Bool):Runs T Qj [.bool b] (aG (sV b)):=by
 refine .of_tree rfl WA Nm ?_
 cases b<;>simp[AO,sV]<;>rfl
def noC:Cell:=⟨false,0⟩
@[simp] theorem aj0:D.agg [.bool false,.int 0]=aG noC:=_root_.id rfl
@[simp] theorem ak6:noC.known=false:=rfl
@[simp] theorem ak5:noC.n=0:=rfl
def cellAt (cs:List Cell)(v:Int):Cell:=cs.getD v.toNat default
def kA (cs:List Cell)(v:Int):Cell:=if cs.length≤v.toNat∨(cellAt cs v).known=false then noC else if(Gn v).1=1 then sV (decide ((cellAt cs v).n≠0)) else⟨true,Oe (cellAt cs v).n⟩
abbrev afx (cs:List Cell):D:=.agg [cells cs]
theorem Ll (cs:List Cell)(v:Int)(hv:0≤v):Runs T oC [afx cs,.int v] (aG (kA cs v)):=by
 refine .of_tree rfl yt uw ?_
 obtain⟨k,rfl⟩:=Int.eq_ofNat_of_zero_le hv
 simp[gd,kA,cellAt]
 by_cases h1:cs.length≤k
 ·simp[h1]
 have h1':k<cs.length:=by omega
 simp[h1,h1']
 cases h2:cs[k].known
 ·simp[h2]
 simp[h2]
 refine⟨_,uh _,?_⟩
 by_cases h3:(Gn k).1=1
 ·simp[h3,h1']
  refine⟨_,cY _,?_⟩
  simp
  rfl
 ·simp[h3,h1']
  refine⟨_,nH _,?_⟩
  simp
  rfl
@[simp] theorem aje (a b:Int):(a==b)=decide (a=b):=_root_.id rfl
@[simp] theorem ajK (a b:Int):(a !=b)= !decide (a=b):=_root_.id rfl
def aW (l:List Cell)(k:Nat):Cell:=l.getD k default
def bl (op:Int)(l:List Cell):Cell:=
 if op=3 then(if(aW l 0).known=true then sV (decide ((aW l 0).n=0)) else noC)
 else if(op=4∨op=5)∧(aW l 0=sV (decide (op=5))∨aW l 1=sV (decide (op=5))) then sV (decide (op=5))
 else if op=6 then(if(aW l 1).known=true∧aW l 1=aW l 2 then aW l 1 else noC)
 else if(aW l 0).known=false∨(aW l 1).known=false then noC
 else if op=4∨op=5 then sV (decide (op=4))
 else if op=7 then sV (decide ((aW l 0).n<(aW l 1).n)) else if op=8 then sV (decide ((aW l 0).n=(aW l 1).n)) else⟨true,Hw op (aW l 0).n (aW l 1).n⟩
theorem adX (a b:Cell):a=b↔a.known=b.known∧a.n=b.n:=by cases a;cases b;simp
theorem Gm (op:Int)(l:List Cell)(h1:1≤l.length)(h2:op≠3→2≤l.length)(h3:op=6→3≤l.length)
 (hb:9≤op→(-1099511627776≤(aW l 0).n∧(aW l 0).n≤1099511627776)∧(-1099511627776≤(aW l 1).n∧(aW l 1).n≤1099511627776)) (h9:op<3∨8<op→9≤op):
 Runs T zU [.int op,cells l] (aG (bl op l)):=by
 refine .of_tree rfl Mn Dy ?_
 have g0:0<l.length:=by omega
 have gg0:l[0]=aW l 0:=by simp[aW,g0]
 simp[qm]
 unfold bl
 by_cases o3:op=3
 ·simp[o3,g0,gg0]
  cases e:(aW l 0).known
  ·simp
  ·simp[g0]
   refine⟨_,cY _,?_⟩
   simp
 have g1:1<l.length:=by have:=h2 o3;omega
 have gg1:l[1]=aW l 1:=by simp[aW,g1]
 have g1':(1:Int)<l.length:=by omega
 simp[o3]
 have fin:∀a b:Cell,(a=b)=(a.known=b.known∧a.n=b.n):=fun a b=>propext (adX a b)
 rcases Classical.em (op=4) with o4|o4
 ·subst o4
  simp
  refine⟨_,cY _,?_⟩
  simp[g0,g1,g1',gg0,gg1,fin]
  split
  ·rfl
  ·split
   ·rfl
   ·refine⟨_,cY _,?_⟩
    simp
 rcases Classical.em (op=5) with o5|o5
 ·subst o5
  simp
  refine⟨_,cY _,?_⟩
  simp[g0,g1,g1',gg0,gg1,fin]
  split
  ·rfl
  ·split
   ·rfl
   ·refine⟨_,cY _,?_⟩
    simp
 rcases Classical.em (op=6) with o6|o6
 ·subst o6
  have g2:2<l.length:=by have:=h3 rfl;omega
  have gg2:l[2]=aW l 2:=by simp[aW,g2]
  have g2':(2:Int)<l.length:=by omega
  simp[g1,g2,g1',g2',gg1,gg2,fin]
  cases e1:(aW l 1).known
  ·simp
  by_cases e2:(aW l 1).known=(aW l 2).known∧(aW l 1).n=(aW l 2).n
  ·rw[e1] at e2
   simp[e1,e2]
  ·rw[e1] at e2
   have e2':¬((aW l 2).known=true∧(aW l 1).n=(aW l 2).n):=fun h=>e2 ⟨h.1.symm,h.2⟩
   simp only[e1,true_and,if_true]
   first|(rw[if_neg e2',if_neg e2'])|(simp[e2'])
 simp[o4,o5,o6,g0,g1,g1',gg0,gg1]
 cases e1:(aW l 0).known
 ·simp
 cases e2:(aW l 1).known
 ·simp
 simp[g1,g1',gg1]
 rcases Classical.em (op=7) with o7|o7
 ·subst o7
  simp
  refine⟨_,cY _,?_⟩
  simp
 rcases Classical.em (op=8) with o8|o8
 ·subst o8
  simp
  refine⟨_,cY _,?_⟩
  simp
 simp[o7,o8]
 obtain⟨b1,b2⟩:=hb (h9 (by omega))
 refine⟨_,Am op _ _ b1 b2,?_⟩
 simp
 rfl
end Rm
namespace Rm
open Go Go.Proofs Cx
def aQ:Nat→List Cell→Tm→Cell
 |0,_,_=>noC
 |L+1,cs,t=>if t.op=0∨t.op=1 then⟨true,t.n⟩ else if t.op=2 then kA cs t.n else
   if t.op=6∧(aW (t.args.map (aQ L cs)) 0).known=true then aW (t.args.map (aQ L cs)) (2-(aW (t.args.map (aQ L cs)) 0).n).toNat else bl t.op (t.args.map (aQ L cs))
def bx:Nat→List Cell→Tm→List Int
 |0,_,_=>[]
 |L+1,cs,t=>if t.op=0∨t.op=1 then[] else if t.op=2 then(if(kA cs t.n).known=true then[] else[t.n]) else
   if t.op=6∧(aW (t.args.map (aQ L cs)) 0).known=true then(t.args.map (bx L cs)).getD (2-(aW (t.args.map (aQ L cs)) 0).n).toNat [] else
   if(bl t.op (t.args.map (aQ L cs))).known=true then[] else(t.args.map (bx L cs)).flatten
theorem xh (L:Nat)(cs:List Cell)(t:Tm):aQ (L+1) cs t=if t.op=0∨t.op=1 then⟨true,t.n⟩ else if t.op=2 then kA cs t.n else
 if t.op=6∧(aW (t.args.map (aQ L cs)) 0).known=true then aW (t.args.map (aQ L cs)) (2-(aW (t.args.map (aQ L cs)) 0).n).toNat else bl t.op (t.args.map (aQ L cs)):=rfl
theorem tA (L:Nat)(cs:List Cell)(t:Tm):bx (L+1) cs t=if t.op=0∨t.op=1 then[] else if t.op=2 then(if(kA cs t.n).known=true then[] else[t.n]) else
 if t.op=6∧(aW (t.args.map (aQ L cs)) 0).known=true then(t.args.map (bx L cs)).getD (2-(aW (t.args.map (aQ L cs)) 0).n).toNat [] else
 if(bl t.op (t.args.map (aQ L cs))).known=true then[] else(t.args.map (bx L cs)).flatten:=rfl
theorem D3 {L:Nat}{t:Tm}{k:Int}(h:aL (L+1) t=(k,0)):(∀a,a∈t.args→(aL L a).2=0)∧P5 t (t.args.map fun a=>(aL L a).1)=(k,0):=by
 rw[As] at h
 by_cases e:kH t.args.length (fun k=>(aL L (t.args.getD k default)).2)=0
 ·rw[if_neg (by simpa using e)] at h
  refine⟨fun a ha=>?_,h⟩
  obtain⟨j,hj,rfl⟩:=List.getElem_of_mem ha
  have:=firstE_iff.1 e j hj
  simpa [hj] using this
 ·rw[if_pos e] at h
  injection h with _ h
  exact absurd h e
inductive Node (ks:List Int) (t:Tm):Int→Prop where
 |int (h:t.op=0) (ha:t.args=[]) (hn:-1099511627776≤t.n∧t.n≤1099511627776):Node ks t 0
 |bool (h:t.op=1) (ha:t.args=[]) (hn:t.n=0∨t.n=1):Node ks t 1
 |var (h:t.op=2) (ha:t.args=[]) (hn:0≤t.n∧t.n≤19):Node ks t (Gn t.n).1
 |not (h:t.op=3) (hk:ks=[1]):Node ks t 1
 |log (h:t.op=4∨t.op=5) (hk:ks=[1,1]):Node ks t 1
 |ite (k:Int) (h:t.op=6) (hk:ks=[1,k,k]):Node ks t k
 |less (h:t.op=7) (hk:ks=[0,0]):Node ks t 1
 |equal (k:Int) (h:t.op=8) (hk:ks=[k,k]):Node ks t 1
 |num (h:9≤t.op∧t.op≤13) (hk:ks=[0,0]):Node ks t 0
theorem adU (v:Int):(Gn v).1=0∨(Gn v).1=1:=by
 unfold Gn;repeat' split
 all_goals simp
theorem adz {t:Tm}{ks:List Int}{k:Int}(hl:ks.length=t.args.length)(h01:∀x,x∈ks→x=0∨x=1)(h:P5 t ks=(k,0)):Node ks t k:=by
 unfold P5 at h
 split at h
 ·injection h with _ h;cases h
 rename_i hop
 split at h
 ·rename_i h3
  unfold V6 at h
  split at h
  ·injection h with _ h;cases h
  rename_i ha0
  have ha:t.args=[]:=List.eq_nil_of_length_eq_zero (by omega)
  split at h
  ·rename_i h0
   split at h
   ·injection h with _ h;cases h
   ·rename_i hc
    injection h with h _
    subst h
    refine .int h0 ha ?_
    unfold Oe at hc;omega
  split at h
  ·rename_i h0
   split at h
   ·injection h with _ h;cases h
   ·rename_i hc
    injection h with h _
    subst h
    exact .bool h0 ha (by omega)
  split at h
  ·injection h with _ h;cases h
  ·rename_i g0 g1 hc
   injection h with h _
   subst h
   refine .var (by omega) ha ?_
   unfold Gn at hc
   split at hc
   ·simp at hc
   ·omega
 rename_i h3
 split at h
 ·injection h with _ h;cases h
 rename_i hlen
 have hlen':ks.length=(bT t.op).1.length:=by
  refine Classical.byContradiction fun hh=>hlen (.inl hh)
 split at h
 ·injection h with _ h;cases h
 rename_i hok
 have hok':∀j,j<(bT t.op).1.length→kOK (bT t.op).1 ks j=true:=allB_iff.1 (by simpa using hok)
 have two:∀{n:Nat},ks.length=2→∃a b,ks=[a,b]:=fun h=>by
  match ks,h with
  |[a,b],_=>exact⟨a,b,rfl⟩
 by_cases o3:t.op=3
 ·have e:bT t.op=([1],1):=by simp[bT,o3]
  rw[e] at hlen' hok' h
  match ks,hlen' with
  |[a],_=>
   have:=hok' 0 (by simp)
   simp[kOK] at this
   simp at h
   subst h this
   exact .not o3 rfl
 by_cases o45:t.op=4∨t.op=5
 ·have e:bT t.op=([1,1],1):=by simp[bT,o3,o45]
  rw[e] at hlen' hok' h
  match ks,hlen' with
  |[a,b],_=>
   have t1:=hok' 0 (by simp)
   have t2:=hok' 1 (by simp)
   simp[kOK] at t1 t2
   simp at h
   subst h t1 t2
   exact .log o45 rfl
 by_cases o6:t.op=6
 ·have e:bT t.op=([1,-1,-1],-1):=by simp[bT,o6]
  rw[e] at hlen' hok' h
  match ks,hlen',h01 with
  |[a,b,c],_,h01=>
   have t1:=hok' 0 (by simp)
   have t3:=hok' 2 (by simp)
   have hb:=h01 b (by simp)
   have hbn:¬b=-1:=by omega
   simp[kOK] at t1
   simp[kOK,kAt,hbn] at t3
   simp[kAt,hbn] at h
   subst h t1 t3
   exact .ite _ o6 rfl
 by_cases o7:t.op=7
 ·have e:bT t.op=([0,0],1):=by simp[bT,o7]
  rw[e] at hlen' hok' h
  match ks,hlen' with
  |[a,b],_=>
   have t1:=hok' 0 (by simp)
   have t2:=hok' 1 (by simp)
   simp[kOK] at t1 t2
   simp at h
   subst h t1 t2
   exact .less o7 rfl
 by_cases o8:t.op=8
 ·have e:bT t.op=([-1,-1],1):=by simp[bT,o8]
  rw[e] at hlen' hok' h
  match ks,hlen',h01 with
  |[a,b],_,h01=>
   have t2:=hok' 1 (by simp)
   have ha:=h01 a (by simp)
   have han:¬a=-1:=by omega
   simp[kOK,kAt,han] at t2
   simp at h
   subst h t2
   exact .equal _ o8 rfl
 have e:bT t.op=([0,0],0):=by simp[bT,o3,o45,o6,o7,o8]
 rw[e] at hlen' hok' h
 match ks,hlen' with
 |[a,b],_=>
  have t1:=hok' 0 (by simp)
  have t2:=hok' 1 (by simp)
  simp[kOK] at t1 t2
  simp at h
  subst h t1 t2
  exact .num (by omega) rfl
theorem D7:∀{L:Nat} {t:Tm} {k:Int},aL (L+1) t=(k,0)→Node (t.args.map fun a=>(aL L a).1) t k∧(k=0∨k=1)
 |L,t,k,h=>by
  obtain⟨h1,h2⟩:=D3 h
  have h01:∀x,x∈(t.args.map fun a=>(aL L a).1)→x=0∨x=1:=by
   intro x hx
   obtain⟨a,ha,rfl⟩:=List.mem_map.1 hx
   cases L with
   |zero=>exact .inl rfl
   |succ L=>exact(D7 (L:=L) (t:=a) (k:=(aL (L+1) a).1) (by rw[←h1 a ha])).2
  have hn:=adz (by simp) h01 h2
  refine⟨hn,?_⟩
  cases hn with
  |int=>simp
  |bool=>simp
  |var=>exact adU _
  |not=>simp
  |log=>simp
  |ite k _ hk=>exact h01 k (by rw[hk];simp)
  |less=>simp
  |equal=>simp
  |num=>simp
end Rm
namespace Rm
open Go Go.Proofs Cx
def Rng (k:Int)(c:Cell):Prop:=(c.known=false→c=noC)∧(c.known=true→(k=1→c.n=0∨c.n=1)∧(k=0→-1099511627776≤c.n∧c.n≤1099511627776))
theorem yT (k:Int):Rng k noC:=⟨fun _=>rfl,fun h=>by cases h⟩
theorem AU (b:Bool):Rng 1 (sV b):=⟨fun h=>(by cases b<;>cases h),fun _=>⟨fun _=>(by cases b<;>simp[sV]),fun h=>by cases h⟩⟩
theorem Uh (n:Int):-1099511627776≤Oe n∧Oe n≤1099511627776:=by unfold Oe;omega
theorem aaH (cs:List Cell)(v:Int)(hv:0≤v∧v≤19):Rng (Gn v).1 (kA cs v):=by
 unfold kA
 split
 ·exact yT _
 ·split
  ·rename_i h;rw[h];exact AU _
  ·rename_i h
   refine⟨fun h=>(by cases h),fun _=>⟨fun h'=>absurd h' h,fun _=>Uh _⟩⟩
theorem acf (a b:Int):-1099511627776≤SO a b∧SO a b≤1099511627776:=by
 unfold SO
 have:=Zn (a.natAbs*b.natAbs)
 split<;>omega
theorem aai (op a b:Int)(ha:-1099511627776≤a∧a≤1099511627776)(hb:-1099511627776≤b∧b≤1099511627776):-1099511627776≤Hw op a b∧Hw op a b≤1099511627776:=by
 unfold Hw
 split
 ·exact Uh _
 split
 ·exact Uh _
 split
 ·exact acf _ _
 split<;>omega
theorem akn {α β:Type}{f:α→β}{l:List α}{x:β}(h:l.map f=[x]):∃a,l=[a]∧f a=x:=by
 match l,h with
 |[a],h=>exact⟨a,rfl,by simpa using h⟩
theorem aaq {α β:Type}{f:α→β}{l:List α}{x y:β}(h:l.map f=[x,y]):∃a b,l=[a,b]∧f a=x∧f b=y:=by
 match l,h with
 |[a,b],h=>exact⟨a,b,rfl,by simpa using h⟩
theorem afp {α β:Type}{f:α→β}{l:List α}{x y z:β}(h:l.map f=[x,y,z]):∃a b c,l=[a,b,c]∧f a=x∧f b=y∧f c=z:=by
 match l,h with
 |[a,b,c],h=>exact⟨a,b,c,rfl,by simpa using h⟩
theorem VQ:∀{L:Nat} {t:Tm} {k:Int} (cs:List Cell),aL L t=(k,0)→Rng k (aQ L cs t)
 |0,t,k,cs,h=>yT _
 |L+1,t,k,cs,h=>by
  obtain⟨hn,hk⟩:=D7 h
  obtain⟨ha,_⟩:=D3 h
  have ih:∀a,a∈t.args→Rng (aL L a).1 (aQ L cs a):=fun a hm=>VQ cs (show aL L a=((aL L a).1,0) by rw[←ha a hm])
  rw[xh]
  cases hn with
  |int h0 ha hn=>rw[if_pos (.inl h0)];exact⟨fun h=>(by cases h),fun _=>⟨fun h=>(by cases h),fun _=>hn⟩⟩
  |bool h0 ha hn=>rw[if_pos (.inr h0)];exact⟨fun h=>(by cases h),fun _=>⟨fun _=>hn,fun h=>by cases h⟩⟩
  |var h0 ha hn=>rw[if_neg (by omega),if_pos h0];exact aaH cs _ hn
  |not h0 hk=>
   rw[if_neg (by omega),if_neg (by omega),if_neg (by omega)]
   unfold bl
   rw[if_pos h0]
   split
   ·exact AU _
   ·exact yT _
  |log h0 hk=>
   rw[if_neg (by omega),if_neg (by omega),if_neg (by omega)]
   unfold bl
   rw[if_neg (by omega)]
   split
   ·exact AU _
   rw[if_neg (by omega)]
   split
   ·exact yT _
   exact AU _
  |ite k h0 hk2=>
   obtain⟨a,b,c,hl,e1,e2,e3⟩:=afp hk2
   rw[hl] at ih ⊢
   have r1:=ih a (by simp)
   have r2:=ih b (by simp)
   have r3:=ih c (by simp)
   rw[e1] at r1;rw[e2] at r2;rw[e3] at r3
   rw[if_neg (by omega),if_neg (by omega)]
   simp only[List.map_cons,List.map_nil,aW,List.getD_cons_zero]
   split
   ·rename_i hh
    rcases(r1.2 hh.2).1 rfl with h1|h1<;>rw[h1]
    ·exact r3
    ·exact r2
   ·unfold bl
    rw[if_neg (by omega),if_neg (by omega),if_pos h0]
    simp only[aW,List.getD_cons_zero,List.getD_cons_succ]
    split
    ·exact r2
    ·exact yT _
  |less h0 hk=>
   rw[if_neg (by omega),if_neg (by omega),if_neg (by omega)]
   unfold bl
   rw[if_neg (by omega),if_neg (by omega),if_neg (by omega)]
   split
   ·exact yT _
   repeat' split
   all_goals exact AU _
  |equal k h0 hk=>
   rw[if_neg (by omega),if_neg (by omega),if_neg (by omega)]
   unfold bl
   rw[if_neg (by omega),if_neg (by omega),if_neg (by omega)]
   split
   ·exact yT _
   repeat' split
   all_goals exact AU _
  |num h0 hk2=>
   obtain⟨a,b,hl,e1,e2⟩:=aaq hk2
   rw[hl] at ih ⊢
   have r1:=ih a (by simp)
   have r2:=ih b (by simp)
   rw[e1] at r1;rw[e2] at r2
   rw[if_neg (by omega),if_neg (by omega),if_neg (by omega)]
   unfold bl
   rw[if_neg (by omega),if_neg (by omega),if_neg (by omega)]
   simp only[List.map_cons,List.map_nil,aW,List.getD_cons_zero,List.getD_cons_succ]
   split
   ·exact yT _
   rename_i hkn
   rw[if_neg (by omega),if_neg (by omega),if_neg (by omega)]
   have k1:(aQ L cs a).known=true:=by
    cases e:(aQ L cs a).known with
    |true=>rfl
    |false=>exact absurd (.inl e) hkn
   have k2:(aQ L cs b).known=true:=by
    cases e:(aQ L cs b).known with
    |true=>rfl
    |false=>exact absurd (.inr e) hkn
   exact⟨fun h=>(by cases h),fun _=>⟨fun h=>(by cases h),fun _=>aai _ _ _ ((r1.2 k1).2 rfl) ((r2.2 k2).2 rfl)⟩⟩
theorem R4:∀(L:Nat) (cs:List Cell) (t:Tm),bB L t≤60→((bx L cs t).length:Int)≤bB L t
 |0,cs,t,h=>by simp[bB] at h
 |L+1,cs,t,h=>by
  have h1:=rO (L+1) t
  obtain⟨hl,hp⟩:=DG h
  have hs:∀(l:List Tm) (n:Int),(∀a,a∈l→bB L a≤60)→fV (bB L) l n≤60→((l.map (bx L cs)).flatten.length:Int)+n≤fV (bB L) l n∧∀j,(((l.map (bx L cs)).getD j []).length:Int)+n≤fV (bB L) l n:=by
   intro l
   induction l with
   |nil=>intro n _ _;simp[fV]
   |cons a l ih=>
    intro n hp hm
    have ha:=R4 L cs a (hp a (by simp))
    unfold fV at hm ⊢
    split at hm
    ·omega
    ·rename_i h60
     rw[if_neg h60]
     obtain⟨i1,i2⟩:=ih (n+bB L a) (fun b hb=>hp b (by simp[hb])) hm
     refine⟨by rw[List.map_cons,List.flatten_cons,List.length_append];omega,fun j=>?_⟩
     cases j with
     |zero=>simp;omega
     |succ j=>have:=i2 j;simp at this ⊢;omega
  obtain⟨hs1,hs2⟩:=hs t.args 1 hp h
  rw[tA]
  split
  ·simp;omega
  split
  ·split<;>simp<;>omega
  split
  ·have:=hs2 (2-(aW (t.args.map (aQ L cs)) 0).n).toNat
   show _≤fV _ _ _
   omega
  split
  ·simp;omega
  ·show _≤fV _ _ _
   omega
@[simp] theorem adr (x y:List Int):tl (ints x) 0 (ints y)=ints y:=_root_.id rfl
@[simp] theorem Ul (x y:Cell):tl (aG x) 0 (aG y)=aG y:=_root_.id rfl
@[simp] theorem ahY (a b:List Int):D.list (a.map D.int++b.map D.int)=ints (a++b):=by simp[ints]
def lists (l:List (List Int)):D:=.list (l.map ints)
@[simp] theorem ajS (l:List (List Int)):(lists l).l=l.map ints:=_root_.id rfl
theorem Wp (l:List (List Int))(hl:l.length≤1000)(hs:l.flatten.length≤1000000):Runs T qv [lists l] (ints l.flatten):=by
 refine .of_tree rfl yX vw ?_
 simp[gV]
 have hb:∀k,(l.take k).flatten.length≤l.flatten.length:=by
  intro k
  conv=>rhs;rw[←List.take_append_drop k l]
  rw[List.flatten_append,List.length_append];omega
 have hk1:∀k (hk:k<l.length),(l.take (k+1)).flatten=(l.take k).flatten++l[k]:=fun k hk=>by
  rw[List.take_succ_eq_append_getElem hk,List.flatten_append];simp
 refine EvP.forRounds l.length (fun k=>[.int ((l.take k).flatten.length:Nat),.int k]) (fun k=>[]) ?_ (fun k hk=>?_) ?_
 ·simp
 ·have hw:=ar hk (by omega)
  have h1:=hk1 k hk
  have h2:=hb (k+1)
  rw[h1] at h2 ⊢
  rw[List.length_append] at h2 ⊢
  generalize (l.take k).flatten.length=m at*
  have hwm:IntKind.i64.wrap ((m:Int)+(l[k].length:Int))=(m:Int)+l[k].length:=ay (by omega)
  have hnn:¬((m:Int)+l[k].length<0):=by omega
  simp[iX,cP,hk,hw,hwm,hnn]
 ·simp[iX,cP]
  have hgrow:Runs T 251 [.list [],.int (l.flatten.length:Nat)] (.list []):=by
   refine .of_ext (g:=fun _ ds=>ZC ds) rfl ⟨0,fun _ _=>?_⟩
   show(if(0:Int)≤(l.flatten.length:Nat)∧((l.flatten.length:Nat):Int)≤4294967296 then some (D.list []) else none)=some (D.list [])
   rw[if_pos (by omega)]
  rw[List.length_flatten] at hgrow
  refine⟨_,hgrow,?_⟩
  refine EvP.forRounds l.length (fun k=>[.none,.int k]) (fun k=>[ints (l.take k).flatten]) ?_ (fun k hk=>?_) ?_
  ·simp[ints]
  ·have hw:=ar hk (by omega)
   have h1:=hk1 k hk
   have h2:=hb (k+1)
   rw[h1] at h2 ⊢
   rw[List.length_append] at h2
   generalize (l.take k).flatten=m at*
   simp[iY,cK,hk,hw]
   omega
  ·simp[iY,cK]
theorem adR {op:Int}{l:List Cell}(h:(bl op l).known=false):bl op l=noC:=by
 have hy:∀b,(sV b).known=true:=fun b=>by cases b<;>simp[sV]
 unfold bl at h ⊢
 split<;>rename_i c1
 ·rw[if_pos c1] at h
  split<;>rename_i c2
  ·rw[if_pos c2,hy] at h;cases h
  ·rfl
 rw[if_neg c1] at h
 split<;>rename_i c2
 ·rw[if_pos c2,hy] at h;cases h
 rw[if_neg c2] at h
 split<;>rename_i c3
 ·rw[if_pos c3] at h
  split<;>rename_i c4
  ·rw[if_pos c4,c4.1] at h;cases h
  ·rfl
 rw[if_neg c3] at h
 split<;>rename_i c4
 ·rfl
 rw[if_neg c4] at h
 repeat' split at h
 all_goals first|(rw[hy] at h;cases h)|cases h
theorem CH:∀(L:Nat) (cs:List Cell) (t:Tm) (k:Int),t.OK→bB L t≤60→aL L t=(k,0)→Runs T kJ [afx cs,jd t] (.tup [aG (aQ L cs t),ints (bx L cs t)])
 |0,cs,t,k,ht,hm,hc=>by simp[bB] at hm
 |L+1,cs,t,k,ht,hm,hc=>by
  refine .of_tree rfl Bq wK ?_
  obtain⟨hl,hp⟩:=DG hm
  obtain⟨ha,_⟩:=D3 hc
  obtain⟨hn,hk01⟩:=D7 hc
  have hrec:∀a,a∈t.args→Runs T kJ [afx cs,jd a] (.tup [aG (aQ L cs a),ints (bx L cs a)]):=fun a hm'=>CH L cs a (aL L a).1 (ht.arg hm') (hp a hm') (by rw[←ha a hm'])
  have hrng:∀a,a∈t.args→Rng (aL L a).1 (aQ L cs a):=fun a hm'=>VQ cs (show aL L a=((aL L a).1,0) by rw[←ha a hm'])
  have hnl:∀a,a∈t.args→(bx L cs a).length≤60:=fun a hm'=>by have:=R4 L cs a (hp a hm');have:=hp a hm';omega
  by_cases h01:t.op=0∨t.op=1
  ·
   have e1:aQ (L+1) cs t=⟨true,t.n⟩:=by rw[xh,if_pos h01]
   have e2:bx (L+1) cs t=[]:=by rw[tA,if_pos h01]
   rw[e1,e2]
   rcases h01 with h|h<;>simp[cF,h]<;>exact⟨rfl,rfl⟩
  have o0:t.op≠0:=fun h=>h01 (.inl h)
  have o1:t.op≠1:=fun h=>h01 (.inr h)
  by_cases o2:t.op=2
  ·have hv:0≤t.n:=by
    cases hn with
    |var h0 ha hn=>exact hn.1
    |_=>omega
   have e1:aQ (L+1) cs t=kA cs t.n:=by rw[xh,if_neg h01,if_pos o2]
   have e2:bx (L+1) cs t=if(kA cs t.n).known=true then[] else[t.n]:=by rw[tA,if_neg h01,if_pos o2]
   rw[e1,e2]
   simp[cF,o2]
   refine⟨_,Ll cs t.n hv,?_⟩
   cases e:(kA cs t.n).known
   ·have:kA cs t.n=noC:=by
     unfold kA at e ⊢
     split
     ·rfl
     ·rename_i h
      rw[if_neg h] at e
      split at e
      ·cases hb:decide ((cellAt cs t.n).n≠0)<;>rw[hb] at e<;>cases e
      ·cases e
    rw[this]
    simp[ints]
   ·have h:kA cs t.n=⟨true,(kA cs t.n).n⟩:=by rw[←e]
    rw[h]
    simp[ints]
    try rfl
  have hlen:1≤t.args.length∧(t.op≠3→2≤t.args.length)∧(t.op=6→3≤t.args.length):=by
   cases hn with
   |int h0 ha hn=>omega
   |bool h0 ha hn=>omega
   |var h0 ha hn=>omega
   |not h0 hk=>obtain⟨a,hl,_⟩:=akn hk;rw[hl];simp;omega
   |log h0 hk=>obtain⟨a,b,hl,_⟩:=aaq hk;rw[hl];simp;omega
   |ite k h0 hk=>obtain⟨a,b,c,hl,_⟩:=afp hk;rw[hl];simp
   |less h0 hk=>obtain⟨a,b,hl,_⟩:=aaq hk;rw[hl];simp;omega
   |equal k h0 hk=>obtain⟨a,b,hl,_⟩:=aaq hk;rw[hl];simp;omega
   |num h0 hk=>obtain⟨a,b,hl,_⟩:=aaq hk;rw[hl];simp;omega
  have hb9:9≤t.op→(-1099511627776≤(aW (t.args.map (aQ L cs)) 0).n∧(aW (t.args.map (aQ L cs)) 0).n≤1099511627776)∧(-1099511627776≤(aW (t.args.map (aQ L cs)) 1).n∧(aW (t.args.map (aQ L cs)) 1).n≤1099511627776):=by
   intro h9
   have rb:∀c:Cell,Rng 0 c→-1099511627776≤c.n∧c.n≤1099511627776:=by
    intro c hr
    cases e:c.known with
    |false=>rw[hr.1 e];simp
    |true=>exact(hr.2 e).2 rfl
   cases hn with
   |num h0 hk=>
    obtain⟨a,b,hl,ea,eb⟩:=aaq hk
    rw[hl] at hrng ⊢
    have r1:=hrng a (by simp)
    have r2:=hrng b (by simp)
    rw[ea] at r1;rw[eb] at r2
    exact⟨rb _ r1,rb _ r2⟩
   |log h0 hk=>omega
   |_=>omega
  have h6:t.op=6→(aW (t.args.map (aQ L cs)) 0).known=true→(aW (t.args.map (aQ L cs)) 0).n=0∨(aW (t.args.map (aQ L cs)) 0).n=1:=by
   intro o6 hkn
   cases hn with
   |ite k h0 hk=>
    obtain⟨a,b,c,hl,ea,_⟩:=afp hk
    rw[hl] at hrng hkn ⊢
    have r1:=hrng a (by simp)
    rw[ea] at r1
    exact(r1.2 hkn).1 rfl
   |log h0 hk=>omega
   |num h0 hk=>omega
   |_=>omega
  have hop:t.op<3∨8<t.op→9≤t.op:=by
   cases hn with
   |log h0 hk=>omega
   |num h0 hk=>omega
   |_=>omega
  have e1:aQ (L+1) cs t=if t.op=6∧(aW (t.args.map (aQ L cs)) 0).known=true then aW (t.args.map (aQ L cs)) (2-(aW (t.args.map (aQ L cs)) 0).n).toNat else bl t.op (t.args.map (aQ L cs)):=by
   rw[xh,if_neg h01,if_neg o2]
  have e2:bx (L+1) cs t=if t.op=6∧(aW (t.args.map (aQ L cs)) 0).known=true then(t.args.map (bx L cs)).getD (2-(aW (t.args.map (aQ L cs)) 0).n).toNat [] else if(bl t.op (t.args.map (aQ L cs))).known=true then[] else(t.args.map (bx L cs)).flatten:=by
   rw[tA,if_neg h01,if_neg o2]
  rw[e1,e2]
  simp[cF,o0,o1,o2]
  refine⟨by omega,?_⟩
  refine EvP.forRounds t.args.length (fun k=>[.int k]) (fun k=>[cells ((t.args.map (aQ L cs)).take k++List.replicate (t.args.length-k) noC),lists ((t.args.map (bx L cs)).take k++List.replicate (t.args.length-k) [])]) ?_ (fun k hk=>?_) ?_
  ·simp[cells,lists,ints]
  ·have hw:=ar hk (by omega)
   have hmem:=List.getElem_mem hk
   have hr:=hrec _ hmem
   have s1:=El (t.args.map (aQ L cs)) noC (n:=t.args.length) (by simp) hk
   have s2:=El (t.args.map (bx L cs)) [] (n:=t.args.length) (by simp) hk
   rw[←s1,←s2]
   have l1:((t.args.map (aQ L cs)).take k++List.replicate (t.args.length-k) noC).length=t.args.length:=by simp;omega
   have l2:((t.args.map (bx L cs)).take k++List.replicate (t.args.length-k) []).length=t.args.length:=by simp;omega
   have g1:(t.args.map (aQ L cs))[k]'(by simpa using hk)=aQ L cs t.args[k]:=by simp
   have g2:(t.args.map (bx L cs))[k]'(by simpa using hk)=bx L cs t.args[k]:=by simp
   rw[g1,g2]
   generalize (t.args.map (aQ L cs)).take k++List.replicate (t.args.length-k) noC=A at*
   generalize (t.args.map (bx L cs)).take k++List.replicate (t.args.length-k) []=B at*
   generalize aQ L cs t.args[k]=c at*
   generalize bx L cs t.args[k]=d at*
   simp[eu,bN,hk]
   refine⟨_,hr,?_⟩
   simp[hw,hk,l1,l2,cells,lists]
  ·have hA:(t.args.map (aQ L cs)).take t.args.length++List.replicate (t.args.length-t.args.length) noC=t.args.map (aQ L cs):=by rw[Nat.sub_self,List.replicate_zero,List.append_nil,List.take_of_length_le (by simp)]
   have hB:(t.args.map (bx L cs)).take t.args.length++List.replicate (t.args.length-t.args.length) []=t.args.map (bx L cs):=by rw[Nat.sub_self,List.replicate_zero,List.append_nil,List.take_of_length_le (by simp)]
   have lA:(t.args.map (aQ L cs)).length=t.args.length:=by simp
   have lB:(t.args.map (bx L cs)).length=t.args.length:=by simp
   have hfl:∀l:List Tm,(∀a,a∈l→a∈t.args)→((l.map (bx L cs)).flatten.length≤l.length*60):=by
    intro l
    induction l with
    |nil=>intro _;simp
    |cons a l ih=>
     intro h
     have h1:=hnl a (h a (by simp))
     have h2:=ih (fun b hb=>h b (by simp[hb]))
     rw[List.map_cons,List.flatten_cons,List.length_append,List.length_cons]
     omega
   have hfl:=hfl t.args (fun a h=>h)
   have hBg:∀m:Nat,(Option.map (bx L cs) t.args[m]?).getD []=(t.args.map (bx L cs)).getD m []:=fun m=>by simp[List.getD_eq_getElem?_getD]
   rw[hA,hB]
   generalize t.args.map (aQ L cs)=A at*
   generalize t.args.map (bx L cs)=B at*
   have g0:0<A.length:=by omega
   have gg0:A[0]=aW A 0:=by simp[aW,g0]
   by_cases h6k:t.op=6∧(aW A 0).known=true
   ·obtain⟨o6,kn⟩:=h6k
    have hv:=h6 o6 kn
    have hw:IntKind.i64.wrap (2-(aW A 0).n)=2-(aW A 0).n:=ay (by omega)
    have h3:3≤t.args.length:=hlen.2.2 o6
    rw[if_pos ⟨o6,kn⟩,if_pos ⟨o6,kn⟩]
    obtain⟨m,hm'⟩:∃m:Nat,m=(2-(aW A 0).n).toNat:=⟨_,rfl⟩
    have hmA:m<A.length:=by omega
    have hmB:m<B.length:=by omega
    simp[eu,bN,o6,kn,g0,gg0,hw,←hm',hmA,hmB,cells,lists]
    refine⟨by omega,by omega,by simp[aW,hmA],?_⟩
    rw[hBg,List.getD_eq_getElem?_getD,List.getElem?_eq_getElem hmB]
    rfl
   ·rw[if_neg h6k,if_neg h6k]
    have hcomb:=Gm t.op A (by omega) (by omega) (by omega) hb9 hop
    have hconc:=Wp B (by omega) (by omega)
    simp[eu,bN,g0,gg0]
    rw[if_neg h6k]
    refine⟨_,hcomb,?_⟩
    cases e:(bl t.op A).known
    ·have hno:bl t.op A=noC:=adR e
     rw[hno]
     simp
     exact hconc
    ·have h:bl t.op A=⟨true,(bl t.op A).n⟩:=by rw[←e]
     rw[h]
     simp[ints]
     try rfl
end Rm
namespace Rm
open Go Go.Proofs Cx
def ixB (n:Nat)(g:Nat→Bool):Int:=if(List.range n).findIdx g<n then((List.range n).findIdx g:Nat) else-1
theorem vV (n:Nat)(g:Nat→Bool):(ixB n g=-1∧∀k,k<n→g k=false)∨∃k:Nat,k<n∧ixB n g=k∧g k=true∧∀i,i<k→g i=false:=by
 unfold ixB
 split
 ·rename_i h
  refine .inr ⟨_,h,rfl,?_,fun i hi=>?_⟩
  ·have:=List.findIdx_getElem (p:=g) (xs:=List.range n) (w:=by simpa using h)
   simpa using this
  ·have:=List.not_of_lt_findIdx (p:=g) (xs:=List.range n) hi
   simpa using this
 ·rename_i h
  refine .inl ⟨rfl,fun k hk=>?_⟩
  have:=List.not_of_lt_findIdx (p:=g) (xs:=List.range n) (i:=k) (by omega)
  simpa using this
theorem NN {n:Nat}{g:Nat→Bool}(h:∀k,k<n→g k=false):ixB n g=-1:=by
 rcases vV n g with⟨h1,_⟩|⟨k,hk,_,h2,_⟩
 ·exact h1
 ·rw[h k hk] at h2;cases h2
theorem OP {n k:Nat}{g:Nat→Bool}(hk:k<n)(h:g k=true)(hj:∀i,i<k→g i=false):ixB n g=k:=by
 rcases vV n g with⟨_,h1⟩|⟨m,hm,h1,h2,h3⟩
 ·rw[h1 k hk] at h;cases h
 ·rcases Nat.lt_trichotomy m k with h4|h4|h4
  ·rw[hj m h4] at h2;cases h2
  ·rw[h1,h4]
  ·rw[h3 k h4] at h;cases h
theorem ach (n:Nat)(g:Nat→Bool):decide (0≤ixB n g)=(List.range n).any g:=by
 rcases vV n g with⟨h1,h2⟩|⟨m,hm,h1,h2,h3⟩
 ·rw[h1]
  symm
  simp
  exact h2
 ·rw[h1]
  simp
  exact⟨m,hm,h2⟩
theorem Bk (l:List Rule)(f:Nat)(caps:List D)(g:Nat→Bool)(hg:∀k (hk:k<l.length),Runs T f (qY l[k]::caps) (.bool (g k)))(hl:l.length≤4294967296):
 Runs T kZ [rules l,.clo f caps] (.int (ixB l.length g)):=by
 refine .of_tree rfl vn qT ?_
 simp[ec]
 refine .scan l.length (fun k=>g k=false) (fun k=>[.int 0,.int k]) (fun _=>[]) ?_ (fun k hk hj ho=>?_) (fun k hk hj ho=>?_) (fun hj=>?_)
 ·simp
 ·have hw:=ar hk hl
  simp[cj,aV,hk,hw]
  refine⟨_,_,⟨rfl,rfl⟩,_,hg k hk,?_⟩
  simp[ho,hw]
 ·have he:=OP hk (by simpa using ho) hj
  simp[cj,aV,hk,he]
  refine⟨_,_,⟨rfl,rfl⟩,_,hg k hk,?_⟩
  simp[ho]
 ·have he:=NN hj
  simp[cj,aV,he]
theorem C0 (l:List Int)(f:Nat)(caps:List D)(g:Nat→Bool)(hg:∀k (hk:k<l.length),Runs T f (.int l[k]::caps) (.bool (g k)))(hl:l.length≤4294967296):
 Runs T mK [ints l,.clo f caps] (.int (ixB l.length g)):=by
 refine .of_tree rfl vu sI ?_
 simp[eK]
 refine .scan l.length (fun k=>g k=false) (fun k=>[.int 0,.int k]) (fun _=>[]) ?_ (fun k hk hj ho=>?_) (fun k hk hj ho=>?_) (fun hj=>?_)
 ·simp
 ·have hw:=ar hk hl
  simp[cB,ba,hk,hw,ints]
  refine⟨_,_,⟨rfl,rfl⟩,_,hg k hk,?_⟩
  simp[ho,hw]
 ·have he:=OP hk (by simpa using ho) hj
  simp[cB,ba,hk,he,ints]
  refine⟨_,_,⟨rfl,rfl⟩,_,hg k hk,?_⟩
  simp[ho]
 ·have he:=NN hj
  simp[cB,ba,he,ints]
theorem yU (l:List Alter)(f:Nat)(caps:List D)(g:Nat→Bool)(hg:∀k (hk:k<l.length),Runs T f (gR l[k]::caps) (.bool (g k)))(hl:l.length≤4294967296):
 Runs T jI [alters l,.clo f caps] (.int (ixB l.length g)):=by
 refine .of_tree rfl tj qj ?_
 simp[dB]
 refine .scan l.length (fun k=>g k=false) (fun k=>[.int 0,.int k]) (fun _=>[]) ?_ (fun k hk hj ho=>?_) (fun k hk hj ho=>?_) (fun hj=>?_)
 ·simp
 ·have hw:=ar hk hl
  simp[bV,aS,hk,hw]
  refine⟨_,_,⟨rfl,rfl⟩,_,hg k hk,?_⟩
  simp[ho,hw]
 ·have he:=OP hk (by simpa using ho) hj
  simp[bV,aS,hk,he]
  refine⟨_,_,⟨rfl,rfl⟩,_,hg k hk,?_⟩
  simp[ho]
 ·have he:=NN hj
  simp[bV,aS,he]
theorem yH (l:List Int)(f:Nat)(caps:List D)(g:Nat→Bool)(hg:∀k (hk:k<l.length),Runs T f (.int l[k]::caps) (.bool (g k)))(hl:l.length≤4294967296):
 Runs T iZ [ints l,.clo f caps] (.bool ((List.range l.length).any g)):=by
 refine .of_tree rfl rY oM ?_
 simp[dj]
 refine⟨_,C0 l f caps g hg hl,?_⟩
 have:=ach l.length g
 simp[←this]
theorem vy (l:List Alter)(f:Nat)(caps:List D)(g:Nat→Bool)(hg:∀k (hk:k<l.length),Runs T f (gR l[k]::caps) (.bool (g k)))(hl:l.length≤4294967296):
 Runs T gx [alters l,.clo f caps] (.bool ((List.range l.length).any g)):=by
 refine .of_tree rfl pk mM ?_
 simp[cC]
 refine⟨_,yU l f caps g hg hl,?_⟩
 have:=ach l.length g
 simp[←this]
def S7 (cs:List Cell)(t:Tm):Cell:=if(oT t).2=0 then aQ 8 cs t else noC
theorem aaa {t:Tm}(h:(oT t).2=0):bB 8 t≤60∧aL 8 t=((oT t).1,0):=by
 unfold oT at h ⊢
 split at h
 ·cases h
 ·rename_i hm
  rw[if_neg hm]
  exact⟨by omega,by rw[←h]⟩
theorem Nd (t:Tm)(cs:List Cell)(ht:t.OK):Runs T KW [jd t,cells cs] (aG (S7 cs t)):=by
 refine .of_tree rfl Uv Mz ?_
 simp[xE,S7]
 refine⟨_,xW t ht,?_⟩
 by_cases h:(oT t).2=0
 ·obtain⟨h1,h2⟩:=aaa h
  simp[h]
  refine⟨_,CH 8 cs t _ ht h1 h2,?_⟩
  simp
  try rfl
 ·simp[h]
  try rfl
def aff:List Int:=[6,7,10,12,13,14,15,16,20,21]
def yS (ask:Int):Int×Bool:=if ask<0∨22≤ask then(0,false) else if hasB aff ask then(0,true) else(1,true)
theorem qk (ask:Int):Runs T EO [.int ask] (.tup [.int (yS ask).1,.bool (yS ask).2]):=by
 refine .of_tree rfl QO Jb ?_
 simp[uO,yS]
 by_cases h0:ask<0
 ·simp[h0]
 by_cases h1:22≤ask
 ·simp[h0,h1]
 simp[h0,h1]
 refine⟨_,cu aff ask (by decide),?_⟩
 cases h:hasB aff ask<;>simp[h]
def noT:Tm:=⟨0,0,[]⟩
def JR (o:Order)(ask:Int)(k:Nat):Bool:=decide ((o.rules.getD k default).ask=ask)
def Qf (o:Order)(i:Int):Tm:=(o.rules.getD i.toNat default).term
def findF (o:Order)(ask:Int):Tm×Int:=
 if(yS ask).2=false then(noT,1) else if ixB o.rules.length (JR o ask)<0 then(noT,4) else
    if(oT (Qf o (ixB o.rules.length (JR o ask)))).2≠0∨(oT (Qf o (ixB o.rules.length (JR o ask)))).1≠(yS ask).1 then(noT,11) else(Qf o (ixB o.rules.length (JR o ask)),0)
theorem ZP {o:Order}(ho:o.OK){m:Nat}(hm:m<o.rules.length):o.rules[m].term.OK:=(ho.2.2 _ (List.getElem_mem hm)).2
theorem YT:noT.OK:=by
 exact .mk 0 0 [] (by unfold I64;omega) (by unfold I64;omega) (by decide) (fun _ h=>by cases h)
theorem adt {o:Order}(ho:o.OK)(ask:Int):(findF o ask).1.OK:=by
 unfold findF
 split
 ·exact YT
 split
 ·exact YT
 split
 ·exact YT
 ·rename_i h _
  rcases vV o.rules.length (JR o ask) with⟨h1,h2⟩|⟨m,hm,h1,h2,h3⟩
  ·exact absurd (by rw[h1];decide) h
  ·rw[h1]
   simp[Qf,hm]
   exact ZP ho hm
theorem YX (r:Rule)(ask:Int):Runs T sJ [qY r,.ref (.int ask)] (.bool (decide (r.ask=ask))):=by
 refine .of_tree rfl Lw Ew ?_
 simp[pw]
theorem LW (o:Order)(ask:Int)(ho:o.OK)(hl:o.rules.length≤4294967296):Runs T FI [bP o,.int ask] (.tup [jd (findF o ask).1,.int (findF o ask).2]):=by
 refine .of_tree rfl Ra Ji ?_
 simp[uv,findF]
 refine⟨_,qk ask,?_⟩
 cases h0:(yS ask).2
 ·simp[h0]
  try rfl
 simp[h0]
 refine⟨_,Bk o.rules sJ [.ref (.int ask)] (JR o ask) (fun k hk=>by simpa [JR,hk] using YX o.rules[k] ask) hl,?_⟩
 rcases vV o.rules.length (JR o ask) with⟨h1,h2⟩|⟨m,hm,h1,h2,h3⟩
 ·rw[h1]
  simp
  try rfl
 ·rw[h1]
  have hnn:¬((m:Int)<0):=by omega
  have htm:o.rules[m].term.OK:=ZP ho hm
  simp[hm,Qf,hnn]
  refine⟨_,xW _ htm,?_⟩
  by_cases h4:(oT o.rules[m].term).2=0<;>by_cases h5:(oT o.rules[m].term).1=(yS ask).1<;>simp[h4,h5]<;>try rfl
def A3 (o:Order)(ask:Int)(cs:List Cell):Cell×Int:=
 if(findF o ask).2≠0 then(noC,(findF o ask).2) else
    (if(yS ask).1=0∧(S7 cs (findF o ask).1).known=true then⟨true,min (max (S7 cs (findF o ask).1).n 0) 20000⟩ else S7 cs (findF o ask).1,0)
theorem GY (o:Order)(ask:Int)(cs:List Cell)(ho:o.OK)(hl:o.rules.length≤4294967296):Runs T y5 [bP o,.int ask,cells cs] (.tup [aG (A3 o ask cs).1,.int (A3 o ask cs).2]):=by
 refine .of_tree rfl LO DH ?_
 simp[pE]
 refine⟨_,LW o ask ho hl,?_⟩
 have hf:(findF o ask).1.OK:=adt ho ask
 by_cases h:(findF o ask).2=0
 ·simp[h,A3]
  refine⟨_,Nd _ cs hf,_,qk ask,?_⟩
  generalize S7 cs (findF o ask).1=c
  obtain⟨kn,n⟩:=c
  by_cases h1:(yS ask).1=0
  ·cases kn
   ·simp[h1,aG]
   ·by_cases h2:n<0
    ·have:min (max n 0) 20000=0:=by omega
     simp[h1,aG,h2,this]
     rfl
    ·by_cases h3:20000<n
     ·have:min (max n 0) 20000=20000:=by omega
      simp[h1,aG,h2,h3,this]
      rfl
     ·have:min (max n 0) 20000=n:=by omega
      simp[h1,aG,h2,h3,this]
      rfl
  ·simp[h1,aG]
 ·simp[h,A3]
  try rfl
end Rm
namespace Rm
open Go Go.Proofs Cx
theorem tB (b:Bool):Runs T zY [.bool b] (aG (sV b)):=by
 refine .of_tree rfl LV Da ?_
 cases b<;>simp[oZ,sV]<;>rfl
def Zz (kind sign:Int)(x:Fact):Bool:=decide (x.kind=kind)&&decide (x.at_=sign)
def kR (f:File)(kind sign:Int):Cell:=match f.facts.find? (Zz kind sign) with|none=>noC|some x=>sV (decide (x.n≠0))
theorem se {α:Type}{p:α→Bool}:∀{l:List α} {k:Nat} (hk:k<l.length),p l[k]=true→(∀j (hj:j<k),p (l[j]'(by omega))=false)→l.find? p=some l[k]
 |a::l,0,hk,h,hj=>by simp at h;simp[h]
 |a::l,k+1,hk,h,hj=>by
  have h0:=hj 0 (by omega)
  simp at h0
  simp only[List.find?_cons,h0,List.getElem_cons_succ]
  exact se (by simpa using hk) (by simpa using h) (fun j hj'=>by simpa using hj (j+1) (by omega))
theorem qV {α:Type}{p:α→Bool}{l:List α}(h:∀j (hj:j<l.length),p l[j]=false):l.find? p=none:=by
 rw[List.find?_eq_none]
 intro x hx
 obtain⟨j,hj,rfl⟩:=List.getElem_of_mem hx
 rw[h j hj];decide
theorem eP (f:File)(kind sign:Int)(hl:f.facts.length≤4294967296):Runs T B3 [aE f,.int kind,.int sign] (aG (kR f kind sign)):=by
 refine .of_tree rfl NW FP ?_
 simp[sB]
 refine .scan f.facts.length (fun k=>Zz kind sign (f.facts.getD k default)=false) (fun k=>[.int k]) (fun _=>[aG noC]) ?_ (fun k hk hj ho=>?_) (fun k hk hj ho=>?_) (fun hj=>?_)
 ·simp
 ·have hw:=ar hk hl
  simp[hk,Zz] at ho
  by_cases h1:f.facts[k].kind=kind<;>by_cases h2:f.facts[k].at_=sign
  ·exact absurd h2 (ho h1)
  all_goals simp[jq,eH,hk,hw,h1,h2]
 ·have hw:=ar hk hl
  have hf:kR f kind sign=sV (decide (f.facts[k].n≠0)):=by
   unfold kR
   rw[se hk (by simpa [hk] using ho) (fun j hj'=>by have:=hj j hj';simpa [show j<f.facts.length by omega] using this)]
  simp[hk,Zz] at ho
  simp[jq,eH,hk,hw,ho,hf]
  refine⟨_,tB _,?_⟩
  simp
  try rfl
 ·have hf:kR f kind sign=noC:=by
   unfold kR
   rw[qV (fun j hj'=>by have:=hj j hj';simpa [hj'] using this)]
  simp[jq,eH,hf]
  try rfl
def aU (r:Realm)(c:Int):Int:=if inB c r.cities.length=true then(r.cities.getD c.toNat default).order else-1
theorem aH (r:Realm)(c:Int):Runs T xG [au r,.int c] (.int (aU r c)):=by
 refine .of_tree rfl Jh BY ?_
 simp[m3,aU]
 refine⟨_,aB c r.cities.length,?_⟩
 cases h:inB c r.cities.length
 ·simp[h]
 ·simp[inB] at h
  have h1:c.toNat<r.cities.length:=by omega
  simp[h,h1]
def upS (day:Int)(l:List Sign):List Sign:=l.takeWhile fun s=>decide (s.day≤day)
def upA (day:Int)(l:List Act):List Act:=l.takeWhile fun s=>decide (s.day≤day)
def N8 (n:Nat)(a:Alter):Bool:=decide (a.at_≤(n:Int))
def QB (n:Nat)(x:Fact):Bool:=inB x.at_ n
def atF (f:File)(day:Int):File:=
 ⟨f.bill,upS day f.signs,f.alters.filter (N8 (upS day f.signs).length),upA day f.acts,f.facts.filter (QB (upS day f.signs).length)⟩
theorem MO {α:Type}(p:α→Bool):∀(l:List α),∃m,m≤l.length∧l.takeWhile p=l.take m∧(∀k (hk:k<l.length),k<m→p l[k]=true)∧(∀hk:m<l.length,p l[m]=false)
 |[]=>⟨0,by simp,by simp,fun k hk=>by simp at hk,fun hk=>by simp at hk⟩
 |a::l=>by
  by_cases h:p a=true
  ·obtain⟨m,h1,h2,h3,h4⟩:=MO p l
   refine⟨m+1,by simp;omega,by simp[h,h2],fun k hk hm=>?_,fun hk=>?_⟩
   ·cases k with
    |zero=>simpa using h
    |succ k=>simpa using h3 k (by simpa using hk) (by omega)
   ·simpa using h4 (by simpa using hk)
  ·refine⟨0,by simp,by simp[h],fun k hk hm=>by omega,fun hk=>by simpa using h⟩
theorem ui {α:Type}(p:α→Bool)(l:List α){k:Nat}(hk:k<l.length):(l.take (k+1)).filter p=(l.take k).filter p++if p l[k] then[l[k]] else[]:=by
 rw[List.take_succ_eq_append_getElem hk,List.filter_append]
 congr 1
 cases h:p l[k]<;>simp[h]
def abR (b:Bill)(w x y z:D):D:=.agg [.int b.drawer,.int b.drawee,.int b.payee,.int b.sum,.int b.currency,.int b.tenor.kind,.int b.tenor.n,.int b.tenor.unit,.int b.day,.int b.city,.int b.pay,.int b.need,.int b.rate,.int b.flags,.int b.parts,w,x,y,z]
def xX {α:Type}(l:List α):D:=match l with|[]=>.list []|_=>.none
@[simp] theorem afW {α:Type}:xX ([]:List α)=.list []:=rfl
@[simp] theorem agu {α:Type}(l:List α)(x:α):xX (l++[x])=.none:=by cases l<;>rfl
theorem mJ (f:File)(day:Int)(h1:f.signs.length≤4294967295)(h2:f.acts.length≤4294967295)(h3:f.alters.length≤4294967295)(h4:f.facts.length≤4294967295):Runs T Ka [aE f,.int day] (aE (atF f day)):=by
 refine .of_tree rfl T4 LK ?_
 simp[wP]
 obtain⟨m,hm,hS,hS1,hS2⟩:=MO (fun s:Sign=>decide (s.day≤day)) f.signs
 obtain⟨n,hn,hA,hA1,hA2⟩:=MO (fun s:Act=>decide (s.day≤day)) f.acts
 refine EvP.forRounds m (fun k=>[.int k]) (fun k=>[signs (f.signs.take k),abR f.bill (xX (f.signs.take k)) (.list []) (.list []) (.list [])]) ?_ (fun k hk=>?_) ?_
 ·simp[abR,signs]
  try rfl
 ·have hk':k<f.signs.length:=by omega
  have hw:=ar hk' (by omega)
  have hd:=hS1 k hk' hk
  simp at hd
  have hd':¬day<f.signs[k].day:=by omega
  have hle:(k:Int)+1≤4294967296:=by omega
  have ht:=List.take_succ_eq_append_getElem hk'
  rw[ht]
  have hlen:(f.signs.take k).length=k:=by simp;omega
  generalize f.signs.take k=A at*
  simp[l0,gL,hk',hw,hd',hlen]
  exact⟨hle,by simp[signs],rfl⟩
 have hSl:(f.signs.take m).length≤4294967295:=by rw[List.length_take];omega
 have hAt:atF f day=⟨f.bill,f.signs.take m,f.alters.filter (N8 (f.signs.take m).length),f.acts.take n,f.facts.filter (QB (f.signs.take m).length)⟩:=by
  unfold atF upS upA
  rw[hS,hA]
 rw[hAt]
 generalize f.signs.take m=S at*
 have hAl:(f.acts.take n).length≤4294967295:=by rw[List.length_take];omega
 by_cases hm':m<f.signs.length
 case' pos=>
  have hd:=hS2 hm'
  simp at hd
  simp[l0,gL,hm',hd]
  generalize D.bool true=bb
 case' neg=>
  have hm2:m=f.signs.length:=by omega
  simp[l0,gL,hm',hm2]
  generalize D.bool false=bb
 all_goals
  refine EvP.forRounds n (fun k=>[.int k]) (fun k=>[acts (f.acts.take k),abR f.bill (xX S) (.list []) (xX (f.acts.take k)) (.list [])]) ?_ (fun k hk=>?_) ?_
  ·simp[acts]
  ·have hk':k<f.acts.length:=by omega
   have hw:=ar hk' (by omega)
   have hd:=hA1 k hk' hk
   simp at hd
   have hd':¬day<f.acts[k].day:=by omega
   have hle:(k:Int)+1≤4294967296:=by omega
   have ht:=List.take_succ_eq_append_getElem hk'
   rw[ht]
   have hlen:(f.acts.take k).length=k:=by simp;omega
   generalize f.acts.take k=A at*
   simp[lV,gW,hk',hw,hd',hlen]
   exact⟨hle,by simp[acts],rfl⟩
  generalize f.acts.take n=A at*
  by_cases hn':n<f.acts.length
  case' pos=>
   have hd:=hA2 hn'
   simp at hd
   simp[lV,gW,hn',hd]
   generalize D.bool true=bc
  case' neg=>
   have hn2:n=f.acts.length:=by omega
   simp[lV,gW,hn',hn2]
   generalize D.bool false=bc
  all_goals
   refine EvP.forRounds f.alters.length (fun k=>[.int k]) (fun k=>[abR f.bill (xX S) (xX ((f.alters.take k).filter (N8 S.length))) (xX A) (.list []),alters ((f.alters.take k).filter (N8 S.length))]) ?_ (fun k hk=>?_) ?_
   ·simp[alters]
   ·have hw:=ar hk (by omega)
    have ht:=ui (N8 S.length) f.alters hk
    rw[ht]
    have hlen:((f.alters.take k).filter (N8 S.length)).length≤k:=Nat.le_trans (List.length_filter_le _ _) (by simp;omega)
    generalize (f.alters.take k).filter (N8 S.length)=B at*
    by_cases hd:f.alters[k].at_≤(S.length:Int)
    ·simp[mj,gQ,N8,hk,hw,hd]
     exact⟨by omega,rfl,by simp[alters]⟩
    ·simp[mj,gQ,N8,hk,hw,hd]
   simp[mj,gQ]
   generalize f.alters.filter (N8 S.length)=B at*
   refine EvP.forRounds f.facts.length (fun k=>[.int k]) (fun k=>[abR f.bill (xX S) (xX B) (xX A) (xX ((f.facts.take k).filter (QB S.length))),facts ((f.facts.take k).filter (QB S.length))]) ?_ (fun k hk=>?_) ?_
   ·simp[facts]
   ·have hw:=ar hk (by omega)
    have ht:=ui (QB S.length) f.facts hk
    rw[ht]
    have hlen:((f.facts.take k).filter (QB S.length)).length≤k:=Nat.le_trans (List.length_filter_le _ _) (by simp;omega)
    generalize (f.facts.take k).filter (QB S.length)=C at*
    cases hd:inB f.facts[k].at_ S.length
    ·simp[lH,gU,QB,hk,hw,hd]
     refine⟨_,aI _ _,?_⟩
     simp[hd,hw]
    ·simp[lH,gU,QB,hk,hw,hd]
     refine⟨_,aI _ _,?_⟩
     simp[hd,hw]
     exact⟨by omega,rfl,by simp[facts]⟩
   simp[lH,gU]
   rfl
end Rm
namespace Rm
open Go Go.Proofs Cx
def ZV:List Int→Int
 |[]=>-1
 |x::l=>l.foldl min x
theorem T3 (x:Int)(l:List Int)(hl:l.length<4294967296):Runs T wg [ints (x::l)] (.int (ZV (x::l))):=by
 refine .of_tree rfl Gd zH ?_
 have h0:¬((l.length:Int)+1<1):=by omega
 simp[ls,h0,ZV,ints]
 refine EvP.forRounds l.length (fun k=>[.int ((l.take k).foldl min x),.int ((k:Int)+1)]) (fun k=>[]) ?_ (fun k hk=>?_) ?_
 ·simp
 ·have hw:IntKind.i64.wrap ((k:Int)+1+1)=(k:Int)+1+1:=ay (by omega)
  rw[List.take_succ_eq_append_getElem hk,List.foldl_append]
  generalize (l.take k).foldl min x=y
  have ht:((k:Int)+1).toNat=k+1:=by omega
  have hlt:(k:Int)+1<(l.length:Int)+1:=by omega
  simp[l6,eE,hk,hw,ht,hlt]
  refine⟨by omega,?_⟩
  by_cases h:l[k]<y
  ·simp[h];omega
  ·simp[h];omega
 ·simp[l6,eE]
def vN (f:File)(n:Nat):List Int:=if f.bill.tenor.kind=1 then((f.signs.take n).filter (fun s=>decide (s.kind=1))).map (·.day) else[]
def mX (f:File)(n:Nat):List Int:=if f.bill.tenor.kind=1 then((f.acts.take n).filter (fun s=>decide (s.kind=1))).map (·.day) else[]
def zl (f:File)(a:Act):Bool:=decide (f.bill.tenor.kind=0)&&decide (a.kind=2)
def tp (f:File):Int:=match f.acts.find? (zl f) with|some a=>a.day|none=>ZV (vN f f.signs.length++mX f f.acts.length)
theorem Hx (f:File)(h1:f.signs.length≤100000)(h2:f.acts.length≤100000):Runs T B8 [aE f] (.int (tp f)):=by
 refine .of_tree rfl PY E8 ?_
 simp[rK]
 refine EvP.forRounds f.signs.length (fun k=>[.none,.int k]) (fun k=>[ints (vN f k)]) ?_ (fun k hk=>?_) ?_
 ·simp[vN,ints]
 ·have hw:=ar hk (by omega)
  have hs:vN f (k+1)=vN f k++if f.bill.tenor.kind=1∧f.signs[k].kind=1 then[f.signs[k].day] else[]:=by
   unfold vN
   by_cases h:f.bill.tenor.kind=1
   ·simp only[if_pos h,ui _ _ hk,List.map_append,h,true_and]
    congr 1
    by_cases h':f.signs[k].kind=1<;>simp[h']
   ·simp[h]
  have hlen:(vN f k).length≤k:=by
   unfold vN
   split
   ·rw[List.length_map]
    exact Nat.le_trans (List.length_filter_le _ _) (by simp;omega)
   ·simp
  rw[hs]
  generalize vN f k=A at*
  by_cases hc:f.bill.tenor.kind=1∧f.signs[k].kind=1
  ·simp[jh,eN,hk,hw,hc]
   exact⟨by omega,by simp[ints]⟩
  ·simp[jh,eN,hk,hw,hc]
 ·have hlS:(vN f f.signs.length).length≤100000:=by
   unfold vN
   split
   ·rw[List.length_map]
    exact Nat.le_trans (List.length_filter_le _ _) (by simp;omega)
   ·simp
  have hE:tp f=match f.acts.find? (zl f) with|some a=>a.day|none=>ZV (vN f f.signs.length++mX f f.acts.length):=rfl
  generalize vN f f.signs.length=A at*
  simp[jh,eN]
  refine EvP.scan f.acts.length (fun k=>zl f (f.acts.getD k default)=false) (fun k=>[.int 0,.none,.int k]) (fun k=>[ints (A++mX f k)]) ?_ (fun k hk hj ho=>?_) (fun k hk hj ho=>?_) (fun hj=>?_)
  ·simp[mX,ints]
  ·have hw:=ar hk (by omega)
   have hs:mX f (k+1)=mX f k++if f.bill.tenor.kind=1∧f.acts[k].kind=1 then[f.acts[k].day] else[]:=by
        unfold mX
        by_cases h:f.bill.tenor.kind=1
        ·simp only[if_pos h,ui _ _ hk,List.map_append,h,true_and]
         congr 1
         by_cases h':f.acts[k].kind=1<;>simp[h']
        ·simp[h]
   have hlen:(mX f k).length≤k:=by
        unfold mX
        split
        ·rw[List.length_map]
         exact Nat.le_trans (List.length_filter_le _ _) (by simp;omega)
        ·simp
   rw[hs]
   generalize mX f k=B at*
   simp[zl,hk] at ho
   by_cases hc:f.bill.tenor.kind=1∧f.acts[k].kind=1
   ·simp[cG,bQ,hk,hw,hc]
    exact⟨by omega,by simp[ints]⟩
   ·have hn:¬(f.bill.tenor.kind=0∧f.acts[k].kind=2):=fun h=>ho h.1 h.2
    simp[cG,bQ,hk,hw,hc,hn]
  ·have hf:tp f=f.acts[k].day:=by
        rw[hE,se hk (by simpa [hk] using ho) (fun j hj'=>by have:=hj j hj';simpa [show j<f.acts.length by omega] using this)]
   simp[zl,hk] at ho
   simp[cG,bQ,hk,ho,hf]
  ·have hf:tp f=ZV (A++mX f f.acts.length):=by
        rw[hE,qV (fun j hj'=>by have:=hj j hj';simpa [hj'] using this)]
   have hlA:(mX f f.acts.length).length≤100000:=by
        unfold mX
        split
        ·rw[List.length_map]
         exact Nat.le_trans (List.length_filter_le _ _) (by simp;omega)
        ·simp
   rw[hf]
   have hL:(A++mX f f.acts.length).length≤200000:=by rw[List.length_append];omega
   generalize A++mX f f.acts.length=L at*
   cases L with
   |nil=>simp[cG,bQ,ZV,ints]
   |cons x l=>
    have hne:¬((l.length:Int)+1=0):=by omega
    simp[cG,bQ,hne]
    exact T3 x l (by simp at hL;omega)
end Rm
namespace Rm
open Go Go.Proofs Cx
def ej (g:Nat→Cell):D:=.list ((List.range 20).map fun i=>aG (g i))
theorem Nl {g g':Nat→Cell}(h:∀i,i<20→g i=g' i):ej g=ej g':=by
 unfold ej
 congr 1
 exact List.map_congr_left fun i hi=>by rw[h i (by simpa using hi)]
theorem Nq (g:Nat→Cell)(k:Nat)(c:Cell):D.list ((ej g).l.set k (aG c))=ej (fun i=>if i=k then c else g i):=by
 unfold ej
 congr 1
 show((List.range 20).map fun i=>aG (g i)).set k (aG c)=_
 apply List.ext_getElem
 ·simp
 ·intro i h1 h2
  simp at h2
  rw[List.getElem_set]
  by_cases h:k=i
  ·simp[h]
  ·have h':¬i=k:=fun e=>h e.symm
   simp[h,h']
@[simp] theorem afL (g:Nat→Cell):(ej g).l.length=20:=by
  show((List.range 20).map fun i=>aG (g i)).length=20
  simp
theorem A9 (g:Nat→Cell){k:Nat}(hk:k<20):(ej g).l[k]?.getD D.none=aG (g k):=by
 show((List.range 20).map fun i=>aG (g i))[k]?.getD D.none=aG (g k)
 simp[hk]
theorem Xw (g:Nat→Cell){k:Nat}(hk:k<(ej g).l.length):(ej g).l[k]=aG (g k):=by
 have h:=A9 g (k:=k) (by simpa using hk)
 rw[List.getElem?_eq_getElem hk] at h
 exact h
theorem VG (g:Nat→Cell)(k:Nat)(c:Cell):(ej g).l.set k (aG c)=(ej (fun i=>if i=k then c else g i)).l:=congrArg D.l (Nq g k c)
theorem Vi (g:Nat→Cell):D.list (ej g).l=ej g:=rfl
@[simp] theorem adl (x:Cell)(b:Bool)(n:Int):tl (aG x) 0 (D.agg [D.bool b,D.int n])=aG ⟨b,n⟩:=_root_.id rfl
def aaM {α:Type}(l:List (Int×α))(val:α→Cell)(g0:Nat→Cell)(i:Nat):Cell:=match l.find? (fun p=>decide (p.1=(i:Int))) with|some p=>val p.2|none=>g0 i
def Cw {α:Type}(enc:α→D)(p:Int×α):D:=.tup [.int p.1,enc p.2]
theorem ZH {α:Type}{J o:Nat}{ps sel:List Nat}{a:PC}{ρ:Env}{Q:Out→Prop}(l:List (Int×α))(enc:α→D)(val:α→Cell)(g0:Nat→Cell)
 (nd:∀p q,p∈l→q∈l→p.1=q.1→p=q) (rng:∀p,p∈l→0≤p.1) (he:ρ.o J=.tup [.list [],.map (l.map fun p=>(.int p.1,enc p.2))]) (h0:ρ.o o=ej g0)
 (step:∀p,p∈l→∀g done,aD T (sN [o] a) ((ρ.put ps (sel.map (Cw enc p).tget) [o] [ej g]).setO J (.tup [.list (done++[Cw enc p]),.map (l.map fun p=>(.int p.1,enc p.2))])) (fun y=>∃ρ',y=.next ρ'∧ρ'.o o=.list ((ej g).l.set p.1.toNat (aG (val p.2)))))
 (last:Q (.next (ρ.put [] [] [o] [ej (aaM l val g0)]))):EvP T (.meach J ps sel [o] a) ρ Q:=by
 have hpo:bX (.map (l.map fun p=>((D.int p.1,enc p.2):D×D)))=l.map (Cw enc):=by
  simp[bX,Cw]
 refine .meachR _ he (fun done vo=>∃g:Nat→Cell,vo=[ej g]∧(∀p,p∈l→Cw enc p∈done→g p.1.toNat=val p.2)∧∀i:Nat,(∀p,p∈l→Cw enc p∈done→p.1≠i)→g i=g0 i) ⟨g0,by simp[h0],(fun p _ h=>by cases h),fun i _=>rfl⟩ (fun done x rest vo hp ⟨g,hv,hg1,hg2⟩=>?_) ⟨_,fun done hp vo ⟨g,hv,hg1,hg2⟩=>?_,last⟩
 ·subst hv
  rw[hpo] at hp
  have hx:x∈l.map (Cw enc):=hp.subset (by simp)
  obtain⟨p,hpl,rfl⟩:=List.mem_map.mp hx
  refine rv _ (fun y ⟨ρ',e,ho⟩=>⟨ρ',e,fun i=>if i=p.1.toNat then val p.2 else g i,by simp[ho,Nq],fun q hq hqd=>?_,fun i hi=>?_⟩) (step p hpl g done)
  ·have hqr:=rng q hq
   have hpr:=rng p hpl
   by_cases h:q.1=p.1
   ·rw[nd q p hq hpl h];simp
   ·show(if q.1.toNat=p.1.toNat then val p.2 else g q.1.toNat)=val q.2
    rw[if_neg (by omega)]
    rcases List.mem_append.mp hqd with h1|h1
    ·exact hg1 q hq h1
    ·simp[Cw] at h1
     exact absurd h1.1 h
  ·have hpr:=rng p hpl
   have hi':=hi p hpl (by simp)
   show(if i=p.1.toNat then val p.2 else g i)=g0 i
   rw[if_neg (by omega)]
   exact hg2 i fun q hq hqd=>hi q hq (by simp[hqd])
 ·rw[hv,hpo] at*
  congr 1
  refine Nl fun i hi=>?_
  unfold aaM
  cases hf:l.find? (fun p=>decide (p.1=(i:Int))) with
  |some p=>
   have hpl:=List.mem_of_find?_eq_some hf
   have hpi:p.1=(i:Int):=by simpa using List.find?_some hf
   have:=hg1 p hpl (hp.symm.subset (List.mem_map_of_mem hpl))
   simp only
   rw[←this,hpi]
   rfl
  |none=>
   refine hg2 i fun p hpl _=>?_
   have:=List.find?_eq_none.mp hf p hpl
   simpa using this
@[simp] theorem af1 (a b:Int):dO (D.int a) (D.int b)=decide (a=b):=by
  show((a==b)&&true)=decide (a=b)
  rw[Bool.and_true]
  by_cases h:a=b<;>simp[h]
def Va (n k:Int):Bool:=decide (arI .and .i64 n k≠0)
def SG (s:Sign)(due:Int):Int:=if due=-1 then 0 else s.day-due
def E7 (f:File)(sign:Int):Bool:=(List.range f.alters.length).any fun k=>decide ((f.alters.getD k default).at_≤sign)
def tK (c:Case):Int:=if c.holder<0 then 0 else c.holder
def zX (c:Case)(s:Sign):List (Int×Int):=[(0,c.file.bill.sum),(1,c.file.bill.parts),(2,c.file.bill.tenor.kind),(3,c.file.bill.rate),(4,s.kind),(5,c.defence),(6,SG s c.due)]
def zI (r:Realm)(c:Case)(s:Sign):List (Int×Bool):=[(7,Va c.file.bill.flags 1),(8,decide (c.file.bill.payee=-1)),(9,Va c.file.bill.flags 4),(10,Va c.file.bill.flags 2),(11,decide (aU r c.file.bill.city≠aU r c.file.bill.pay)),(12,E7 c.file c.sign),(13,Va s.flags 1),(14,decide (0<SG s c.due))]
def ZT (r:Realm)(c:Case)(s:Sign):List Cell:=
 (zX c s).map (fun p=>⟨true,p.2⟩)++(zI r c s).map (fun p=>sV p.2)++
    [kR c.file 0 c.sign,kR c.file 1 c.sign,kR c.file 2 c.sign,kR c.file 3 (tK c),kR c.file 4 (tK c)]
@[simp] theorem ad1 (x:Case):vL 19 (bp x)=aE x.file:=_root_.id rfl
@[simp] theorem aeE (x:Case):vL 15 (bp x)=aR x.file.bill:=_root_.id rfl
@[simp] theorem aeb (x:File):vL 15 (aE x)=aR x.bill:=_root_.id rfl
def yY (c:Case):Bool:=inB c.sign c.file.signs.length&&decide (-1≤c.holder)&&decide (tK c<c.file.signs.length)&&(decide (c.due=-1)||inB c.due 100001)
def kP (r:Realm)(c:Case):List Cell:=if yY c=true∧inB (c.file.signs.getD c.sign.toNat default).day 100001=true then ZT r c (c.file.signs.getD c.sign.toNat default) else[]
theorem ID (r:Realm)(c:Case)(h2:c.file.facts.length≤100000)(h3:c.file.alters.length≤100000):Runs T CQ [au r,bp c] (cells (kP r c)):=by
 refine .of_tree rfl Ou FV ?_
 cases hs:inB c.sign c.file.signs.length
 ·have hv:kP r c=[]:=by unfold kP yY;rw[hs];simp
  rw[hv]
  simp[ct]
  refine⟨_,aI _ _,?_⟩
  simp[hs]
  rfl
 by_cases hh:c.holder< -1
 ·have hv:kP r c=[]:=by unfold kP yY;rw[hs];simp;intros;omega
  rw[hv]
  simp[ct,hh]
  exact⟨⟨_,aI _ _⟩,rfl⟩
 by_cases hm:(c.file.signs.length:Int)≤tK c
 ·have hv:kP r c=[]:=by unfold kP yY;rw[hs];simp;intros;omega
  rw[hv]
  unfold tK at hm
  simp[ct,hm]
  exact⟨⟨_,aI _ _⟩,rfl⟩
 by_cases hd:c.due≠-1∧inB c.due 100001=false
 ·have hv:kP r c=[]:=by unfold kP yY;rw[hs];simp[hd]
  rw[hv]
  unfold tK at hm
  obtain⟨hd1,hd2⟩:=hd
  simp[ct,hh,hm,hd1]
  refine⟨_,aI _ _,?_⟩
  simp[hs,hh,hm,hd1]
  refine⟨_,aI _ _,?_⟩
  simp[hs,hh,hm,hd1,hd2]
  rfl
 have hcb:yY c=true:=by
  unfold yY
  rw[hs]
  simp
  refine⟨⟨by omega,by omega⟩,?_⟩
  by_cases h:c.due=-1
  ·exact .inl h
  ·right
   cases hb:inB c.due 100001
   ·exact absurd ⟨h,hb⟩ hd
   ·rfl
 have hlen:c.sign.toNat<c.file.signs.length:=by simp[inB] at hs;omega
 have hs2:0≤c.sign∧c.sign<(c.file.signs.length:Int):=by simpa [inB] using hs
 obtain⟨s,hse⟩:∃s:Sign,s=c.file.signs[c.sign.toNat]:=⟨_,rfl⟩
 have hsg:c.file.signs.getD c.sign.toNat default=s:=by rw[hse];simp[hlen]
 have hv:kP r c=if inB s.day 100001=true then ZT r c s else[]:=by
  unfold kP;rw[hsg,hcb];simp
 rw[hv]
 unfold tK at hm
 by_cases hdue:c.due=-1
 case' pos=>
  have hdue':(c.due=-1)=True:=eq_true hdue
  simp[ct,hh,hm,hdue']
  refine⟨_,aI _ _,?_⟩
  simp[hs,hh,hm,hdue',hlen,←hse,hs2]
 case' neg=>
  have hdb:inB c.due 100001=true:=by
   cases hb:inB c.due 100001
   ·exact absurd ⟨hdue,hb⟩ hd
   ·rfl
  simp[ct,hh,hm,hdue]
  refine⟨_,aI _ _,?_⟩
  simp[hs,hh,hm,hdue]
  refine⟨_,aI _ _,?_⟩
  simp[hs,hh,hm,hdue,hdb,hlen,←hse,hs2]
 all_goals
  refine⟨_,aI _ _,?_⟩
  cases hday:inB s.day 100001
  ·simp[hday]
   rfl
  simp[hday,fI]
  refine ZH (zX c s) D.int (fun n=>⟨true,n⟩) (fun _=>noC) ?_ ?_ ?_ ?_ (fun p hp g done=>?_) ?_
  ·intro p q hp hq h
   simp[zX] at hp hq
   rcases hp with rfl|rfl|rfl|rfl|rfl|rfl|rfl<;>rcases hq with rfl|rfl|rfl|rfl|rfl|rfl|rfl<;>first|rfl|(simp at h)
  ·intro p hp
   simp[zX] at hp
   rcases hp with rfl|rfl|rfl|rfl|rfl|rfl|rfl<;>simp
  ·have hgap:(if c.due=-1 then(0:Int) else IntKind.i64.wrap (s.day-c.due))=SG s c.due:=by
        unfold SG
        by_cases h:c.due=-1
        ·simp[h]
        ·have hdb:inB c.due 100001=true:=by
          cases hb:inB c.due 100001
          ·exact absurd ⟨h,hb⟩ hd
          ·rfl
         simp[inB] at hdb hday
         rw[if_neg h,if_neg h]
         exact ay (by omega)
   simp[zX,fI,hlen,←hse]
   rw[←hgap]
   by_cases h:c.due=-1<;>simp[h]
  ·simp[ej]
   rfl
  ·have hr:0≤p.1∧p.1<20:=by
        simp[zX] at hp
        rcases hp with rfl|rfl|rfl|rfl|rfl|rfl|rfl<;>simp
   have hk:p.1.toNat<20:=by omega
   simp[Bh,na,Cw,A9 g hk]
   exact hr
  have hlt1:∀k (hk:k<c.file.alters.length),Runs T xR (gR c.file.alters[k]::[.ref (bp c)]) (.bool (decide ((c.file.alters.getD k default).at_≤c.sign))):=fun k hk=>by
   refine .of_tree rfl JH BF ?_
   simp[nm,hk]
  simp
  refine⟨_,vy c.file.alters _ _ _ hlt1 (by omega),_,aH r _,_,aH r _,?_⟩
  have hgap:(if c.due=-1 then(0:Int) else IntKind.i64.wrap (s.day-c.due))=SG s c.due:=by
   unfold SG
   by_cases h:c.due=-1
   ·simp[h]
   ·have hdb:inB c.due 100001=true:=by
     cases hb:inB c.due 100001
     ·exact absurd ⟨h,hb⟩ hd
     ·rfl
    simp[inB] at hdb hday
    rw[if_neg h,if_neg h]
    exact ay (by omega)
  have hfull:cells (ZT r c s)=ej (fun i=>if i=15 then kR c.file 0 c.sign else if i=16 then kR c.file 1 c.sign else if i=17 then kR c.file 2 c.sign else if i=18 then kR c.file 3 (tK c) else if i=19 then kR c.file 4 (tK c) else aaM (zI r c s) sV (aaM (zX c s) (fun n=>⟨true,n⟩) (fun _=>noC)) i):=by
   rfl
  generalize aaM (zX c s) (fun n=>(⟨true,n⟩:Cell)) (fun _=>noC)=g1 at*
  refine ZH (zI r c s) D.bool sV g1 ?_ ?_ ?_ ?_ (fun p hp g done=>?_) ?_
  ·intro p q hp hq h
   simp[zI] at hp hq
   rcases hp with rfl|rfl|rfl|rfl|rfl|rfl|rfl|rfl<;>rcases hq with rfl|rfl|rfl|rfl|rfl|rfl|rfl|rfl<;>first|rfl|(simp at h)
  ·intro p hp
   simp[zI] at hp
   rcases hp with rfl|rfl|rfl|rfl|rfl|rfl|rfl|rfl<;>simp
  ·simp[zI,fI,hlen,←hse,Va]
   rw[←hgap]
   by_cases h:c.due=-1<;>simp[h,E7]
  ·simp
  ·have hr:0≤p.1∧p.1<20:=by
        simp[zI] at hp
        rcases hp with rfl|rfl|rfl|rfl|rfl|rfl|rfl|rfl<;>simp
   have hk:p.1.toNat<20:=by omega
   simp[Bu,m6,Cw,A9 g hk]
   refine⟨_,tB _,?_⟩
   simp[A9 g hk]
   exact hr
  simp
  generalize aaM (zI r c s) sV g1=g2 at*
  have hho:(if c.holder<0 then D.int 0 else D.int c.holder)=D.int (tK c):=by
   unfold tK
   split<;>rfl
  rw[hho]
  refine⟨_,eP _ _ _ (by omega),_,eP _ _ _ (by omega),_,eP _ _ _ (by omega),_,eP _ _ _ (by omega),_,eP _ _ _ (by omega),?_⟩
  rw[hfull]
  simp only[Xw,Ul,VG,Vi]
  refine Nl fun i hi=>?_
  by_cases h15:i=15
  ·subst h15;simp
  by_cases h16:i=16
  ·subst h16;simp
  by_cases h17:i=17
  ·subst h17;simp
  by_cases h18:i=18
  ·subst h18;simp
  by_cases h19:i=19
  ·subst h19;simp
  simp[h15,h16,h17,h18,h19]
end Rm
namespace Rm
open Go Go.Proofs Cx
def adQ (n:Nat)(x:Int):Bool:=decide (x<0)||decide ((n:Int)≤x)
def tW (r:Realm)(a q:Int)(l:List Int):Bool:=
 !(decide (a<0)||decide ((r.orders.length:Int)≤a)||decide (q<0)||decide (22≤q)||decide (l.length≠5))&& !((List.range l.length).any fun k=>adQ r.orders.length (l.getD k 0))
theorem XV (x n:Int):Runs T l7 [.int x,.ref (.int n)] (.bool (decide (x<0)||decide (n≤x))):=by
 refine .of_tree rfl Du yG ?_
 by_cases h:x<0<;>simp[kI,h]
theorem SH (r:Realm)(a q:Int)(l:List Int)(hl:l.length≤100000):Runs T xT [au r,.int a,.int q,ints l] (.bool (tW r a q l)):=by
 refine .of_tree rfl Hi Bl ?_
 by_cases h1:a<0
 ·simp[bu,tW,h1]
 by_cases h2:(r.orders.length:Int)≤a
 ·simp[bu,tW,h1,h2]
 by_cases h3:q<0
 ·simp[bu,tW,h1,h2,h3]
 by_cases h4:22≤q
 ·simp[bu,tW,h1,h2,h3,h4]
 by_cases h5:(l.length:Int)=5
 ·have h5':l.length=5:=by omega
  simp[bu,h1,h2,h3,h4,h5']
  refine⟨_,yH l l7 [.ref (.int r.orders.length)] (fun k=>adQ r.orders.length (l.getD k 0)) (fun k hk=>by simpa [adQ,hk] using XV l[k] r.orders.length) (by omega),?_⟩
  simp only[tW,h5']
  simp[h1,h2,h3,h4]
 ·have h5':¬l.length=5:=by omega
  simp[bu,tW,h1,h2,h3,h4,h5']
  intro h;omega
theorem Ii {r:Realm}{a q:Int}{l:List Int}(h:tW r a q l=true):(0≤a∧a<r.orders.length)∧l.length=5∧(∀x,x∈l→0≤x∧x<r.orders.length)∧∀b:Int,0≤b→b<r.orders.length→tW r b q l=true:=by
 unfold tW at h ⊢
 rw[Bool.and_eq_true] at h
 obtain⟨h1,h2⟩:=h
 simp at h1
 refine⟨by omega,h1.2,fun x hx=>?_,fun b hb1 hb2=>?_⟩
 ·obtain⟨k,hk,rfl⟩:=List.getElem_of_mem hx
  simp[adQ] at h2
  have:=h2 k hk
  simp[hk] at this
  omega
 ·rw[h2]
  simp
  omega
def acz (r:Realm):Prop:=∀o,o∈r.orders→o.choices.length≤100000∧∀ch,ch∈o.choices→0≤ch.by_∧ch.by_<5
def Og (q:Int)(ch:Choice):Bool:=decide (ch.ask=q)&&decide (ch.by_≠0)
def j0 (r:Realm)(a:Int):Order:=r.orders.getD a.toNat default
def cN (r:Realm)(a q:Int)(l:List Int):Int×Bool:=
 (match(j0 r a).choices.find? (Og q) with|some ch=>l.getD ch.by_.toNat 0|none=>a,match(j0 r a).choices.find? (Og q) with|some ch=>ch.whole|none=>false)
theorem OG (r:Realm)(hby:acz r)(a q:Int)(l:List Int)(hl:l.length≤100000)(hf:tW r a q l=true):
 Runs T vI [au r,.int a,.int q,ints l] (.tup [.int (cN r a q l).1,.bool (cN r a q l).2])∧0≤(cN r a q l).1∧(cN r a q l).1<r.orders.length:=by
 obtain⟨ha,hl5,hx,_⟩:=Ii hf
 have hat:a.toNat<r.orders.length:=by omega
 obtain⟨hcl,hch⟩:=hby _ (List.getElem_mem hat)
 obtain⟨o,ho⟩:∃o,o=r.orders[a.toNat]:=⟨_,rfl⟩
 rw[←ho] at hcl hch
 have hoa:j0 r a=o:=by rw[ho];simp[j0,hat]
 unfold cN
 rw[hoa]
 refine⟨?_,?_⟩
 ·refine .of_tree rfl GG Ad ?_
  simp[lM]
  refine⟨_,SH r a q l hl,?_⟩
  simp[hf,hat,←ho,ha]
  refine EvP.scan o.choices.length (fun k=>Og q (o.choices.getD k default)=false) (fun k=>[.int 0,.bool false,.int k]) (fun _=>[]) ?_ (fun k hk hj hok=>?_) (fun k hk hj hok=>?_) (fun hj=>?_)
  ·simp
  ·have hw:=ar hk (by omega)
   have hn:¬(o.choices[k].ask=q∧¬o.choices[k].by_=0):=by simpa [Og,hk] using hok
   simp[eX,cH,hat,←ho,hk,hw,hn]
  ·have hfi:=se hk (by simpa [hk] using hok) (fun j hj'=>by have:=hj j hj';simpa [show j<o.choices.length by omega] using this)
   rw[hfi]
   have hc:o.choices[k].ask=q∧¬o.choices[k].by_=0:=by simpa [Og,hk] using hok
   have hb:=hch _ (List.getElem_mem hk)
   have hbl:o.choices[k].by_.toNat<l.length:=by omega
   simp[eX,cH,hat,←ho,hk,hc,ints,hbl]
   omega
  ·have hfi:=qV (l:=o.choices) (p:=Og q) (fun j hj'=>by have:=hj j hj';simpa [hj'] using this)
   rw[hfi]
   simp[eX,cH,hat,←ho]
 ·cases hfi:o.choices.find? (Og q) with
  |none=>exact ha
  |some ch=>
   have hb:=hch _ (List.mem_of_find?_eq_some hfi)
   have hbl:ch.by_.toNat<l.length:=by omega
   simp[hbl]
   exact hx _ (List.getElem_mem hbl)
theorem YS:∀(N:Nat) (l:List Int),l.Nodup→(∀x,x∈l→0≤x∧x<(N:Int))→l.length≤N
 |0,l,hn,h=>by
  cases l with
  |nil=>simp
  |cons a l=>have:=h a (by simp);omega
 |N+1,l,hn,h=>by
  by_cases hm:(N:Int)∈l
  ·have h1:=YS N (l.erase (N:Int)) (hn.erase _) (fun x hx=>by
    have hx':=(hn.mem_erase_iff).mp hx
    have:=h x hx'.2
    have hne:=hx'.1
    omega)
   rw[List.length_erase_of_mem hm] at h1
   omega
  ·have h1:=YS N l hn (fun x hx=>by
    have:=h x hx
    have hne:x≠(N:Int):=fun e=>hm (e▸hx)
    omega)
   omega
def cg (l:List Int):Int:=l.getD (l.length-1) 0
def Bv (r:Realm)(q:Int)(l:List Int):Nat→List Int→List Int×Int
 |0,p=>(p,0)
 |n+1,p=>
  if(cN r (cg p) q l).1=cg p then(p,0)
  else if(cN r (cg p) q l).2=false∨(hasB p (cN r (cg p) q l).1=true∧(j0 r (cN r (cg p) q l).1).accepts=true) then(p++[(cN r (cg p) q l).1],0)
  else if hasB p (cN r (cg p) q l).1=true then(p++[(cN r (cg p) q l).1],12)
  else Bv r q l n (p++[(cN r (cg p) q l).1])
theorem Jq (r:Realm)(q:Int)(l:List Int)(n:Nat)(p:List Int):Bv r q l (n+1) p=
 if(cN r (cg p) q l).1=cg p then(p,0)
 else if(cN r (cg p) q l).2=false∨(hasB p (cN r (cg p) q l).1=true∧(j0 r (cN r (cg p) q l).1).accepts=true) then(p++[(cN r (cg p) q l).1],0)
 else if hasB p (cN r (cg p) q l).1=true then(p++[(cN r (cg p) q l).1],12)
 else Bv r q l n (p++[(cN r (cg p) q l).1]):=rfl
def xw (r:Realm)(a q:Int)(l:List Int):List Int×Int:=if tW r a q l=true∧l.getD 0 0=a then Bv r q l r.orders.length [a] else([],1)
theorem abU (r:Realm)(hby:acz r)(hn:r.orders.length≤100000)(a q:Int)(l:List Int)(hl:l.length≤100000):Runs T zO [au r,.int a,.int q,ints l] (.tup [ints (xw r a q l).1,.int (xw r a q l).2]):=by
 refine .of_tree rfl LZ Dz ?_
 simp[pq]
 refine⟨_,SH r a q l hl,?_⟩
 cases hf:tW r a q l
 ·simp[xw,hf]
  rfl
 obtain⟨ha,hl5,hx,hal⟩:=Ii hf
 have h0:0<l.length:=by omega
 by_cases hla:l[0]=a
 ·have hE:xw r a q l=Bv r q l r.orders.length [a]:=by unfold xw;rw[if_pos ⟨hf,by simp[h0,hla]⟩]
  rw[hE]
  simp[h0,hla,ints]
  refine EvP.forLoop (α:=Nat×List Int) (fun s vr vo=>vr=[.list [],.int 0,.none]∧vo=[ints s.2]∧s.2.Nodup∧(∀x,x∈s.2→0≤x∧x<(r.orders.length:Int))∧s.2≠[]∧s.1+s.2.length=r.orders.length+1∧Bv r q l s.1 s.2=Bv r q l r.orders.length [a]) (fun s=>s.1) (r.orders.length,[a]) ?_ ?_
  ·simp[ints]
   exact ha
  ·rintro⟨n,p⟩ vr vo ⟨rfl,rfl,hnd,hin,hne,hlen,hlaw⟩
   simp only at*
   have hpl:p.length≤r.orders.length:=YS _ p hnd hin
   have hpos:0<p.length:=List.length_pos_iff.mpr hne
   obtain⟨m,rfl⟩:∃m,n=m+1:=⟨n-1,by omega⟩
   have hlt:p.length-1<p.length:=by omega
   have hlast:cg p=p[p.length-1]:=by simp[cg,hlt]
   have hli:=hin _ (List.getElem_mem hlt)
   rw[←hlast] at hli
   obtain⟨hLr,ht1,ht2⟩:=OG r hby (cg p) q l hl (hal _ hli.1 hli.2)
   have hlw:((p.length:Int)-1).toNat=p.length-1:=by omega
   have hww:IntKind.i64.wrap ((p.length:Int)-1)=(p.length:Int)-1:=ay (by omega)
   rw[←hlaw,Jq]
   obtain⟨L,hL⟩:∃L,L=cN r (cg p) q l:=⟨_,rfl⟩
   rw[←hL] at hLr ht1 ht2 ⊢
   obtain⟨to,whole⟩:=L
   simp only at hLr ht1 ht2
   have hto:to.toNat<r.orders.length:=by omega
   have hoa:j0 r to=r.orders[to.toNat]:=by simp[j0,hto]
   simp only[hoa]
   simp[Aj,lG,hww,hlw,hlt,←hlast,ints]
   refine⟨by omega,_,hLr,?_⟩
   by_cases h1:to=cg p
   ·simp[h1]
   simp[h1]
   refine⟨_,cu p to (by omega),by omega,?_⟩
   cases whole
   ·simp
   cases h2:hasB p to
   ·have hnm:to∉p:=fun hm=>by
     have:hasB p to=true:=by simp[hasB,hm]
     rw[h2] at this;cases this
    simp[h2]
    refine⟨m,by omega,p++[to],by simp,?_,?_,by simp,by simp;omega,rfl⟩
    ·exact List.nodup_append.mpr ⟨hnd,by simp,fun x hx y hy=>by simp at hy;subst hy;exact fun e=>hnm (e▸hx)⟩
    ·intro x hx
     rcases List.mem_append.mp hx with h|h
     ·exact hin x h
     ·simp at h;subst h;exact⟨ht1,ht2⟩
   ·cases h3:r.orders[to.toNat].accepts<;>simp[h2,h3,hto]<;>omega
 ·have hE:xw r a q l=([],1):=by unfold xw;rw[if_neg (by simp[h0,hla])]
  rw[hE]
  simp[h0,hla]
  rfl
end Rm
namespace Rm
open Go Go.Proofs Cx
def gI (f:File)(i:Int):Sign:=f.signs.getD i.toNat default
def AK (r:Realm)(forum:Int)(c:Case):List Int:=[forum,aU r (gI c.file c.sign).city,aU r c.file.bill.pay,aU r c.file.bill.city,aU r (r.firms.getD (gI c.file c.sign).who.toNat default).city]
def Hz (r:Realm)(forum:Int)(c:Case):Prop:=(gI c.file c.sign).who<0∨(r.firms.length:Int)≤(gI c.file c.sign).who∨forum<0∨(r.orders.length:Int)≤forum
instance (r:Realm) (forum:Int) (c:Case):Decidable (Hz r forum c):=by unfold Hz;infer_instance
def cv (r:Realm)(forum:Int)(c:Case):List Int:=if Hz r forum c then[] else if hasB (AK r forum c) (-1)=true then[] else AK r forum c
@[simp] theorem ajb (r:Realm)(x:Int):atS (au r) x=aU r x:=by
  unfold atS aU inB
  by_cases h:0≤x∧x<(r.cities.length:Int)
  ·have hx:x.toNat<r.cities.length:=by omega
   rw[if_pos (by simpa using h),if_pos (by simpa using h)]
   simp[hx]
  ·rw[if_neg (by simpa using h),if_neg (by simpa using h)]
theorem PZ (r:Realm)(forum:Int)(c:Case)(h1:c.sign.toNat<c.file.signs.length):T7 [au r,.int forum,bp c]=ints (cv r forum c):=by
 have hs:gI c.file c.sign=c.file.signs[c.sign.toNat]:=by simp[gI,h1]
 unfold T7 cv
 simp[h1]
 by_cases hb:Hz r forum c
 ·rw[if_pos (by simpa [Hz,hs] using hb),if_pos hb]
  rfl
 ·rw[if_neg (by simpa [Hz,hs] using hb),if_neg hb]
  have hwho:(gI c.file c.sign).who.toNat<r.firms.length:=by unfold Hz at hb;omega
  have hwho':c.file.signs[c.sign.toNat].who.toNat<r.firms.length:=by rw[←hs];exact hwho
  have hout:AK r forum c=[forum,aU r c.file.signs[c.sign.toNat].city,aU r c.file.bill.pay,aU r c.file.bill.city,aU r r.firms[c.file.signs[c.sign.toNat].who.toNat].city]:=by
   simp[AK,hs,hwho']
  have hmem:∀l:List Int,hasB l (-1)=true↔-1∈l:=fun l=>by simp[hasB]
  rw[hout]
  simp[hwho']
  split
  ·rename_i h
   rw[if_pos ((hmem _).mpr (by simpa using h))]
   rfl
  ·rename_i h
   rw[if_neg (fun h'=>h (by simpa using(hmem _).mp h'))]
theorem Wq (r:Realm)(forum:Int)(c:Case)(h1:0≤c.sign∧c.sign<c.file.signs.length):Runs T Tl [au r,.int forum,bp c] (ints (cv r forum c)):=by
 have h1':c.sign.toNat<c.file.signs.length:=by omega
 rw[←PZ r forum c h1']
 have hs:gI c.file c.sign=c.file.signs[c.sign.toNat]:=by simp[gI,h1']
 refine Runs.of_nsl rfl Dv DC ?_
 rw[PZ r forum c h1']
 by_cases hb:Hz r forum c
 ·refine .inr ⟨by simp[cv,hb];rfl,?_⟩
  have hb':=hb
  simp[Hz,hs] at hb'
  simp[jS,h1,h1']
  intros;omega
 have hbn:cv r forum c=if hasB (AK r forum c) (-1)=true then[] else AK r forum c:=by unfold cv;rw[if_neg hb]
 have hb':=hb
 simp[Hz,hs] at hb'
 have hw:c.file.signs[c.sign.toNat].who.toNat<r.firms.length:=by omega
 have hC:=cu (AK r forum c) (-1) (by simp[AK])
 cases hh:hasB (AK r forum c) (-1)<;>rw[hh] at hC<;>simp[AK,ints,hs,hw] at hC
 ·refine .inl ⟨(AK r forum c).map .int,by simp[AK],by rw[hbn,hh];rfl,?_⟩
  simp[p5,h1,h1',hw]
  rw[if_neg (by omega)]
  refine⟨_,aH r _,_,aH r _,_,aH r _,by omega,_,aH r _,_,by simpa using hC,?_⟩
  simp[AK,hs,hw]
 ·refine .inr ⟨by rw[hbn,hh];rfl,?_⟩
  simp[jS,h1,h1',hw]
  intros
  refine⟨_,aH r _,_,aH r _,_,aH r _,by omega,_,aH r _,_,by simpa using hC,?_⟩
  simp
end Rm
namespace Rm
open Go Go.Proofs Cx
structure Right (r:Realm):Prop where
 by_:acz r
 len:r.orders.length≤100000
 ok:∀o,o∈r.orders→o.OK∧o.rules.length≤100000
structure FewS (f:File):Prop where
 signs:f.signs.length≤1000
 alters:f.alters.length≤1000
 acts:f.acts.length≤1000
 facts:f.facts.length≤1000
theorem XS {α:Type}(p:α→Bool)(l:List α):(l.takeWhile p).length≤l.length:=by
 obtain⟨m,h1,h2,_⟩:=MO p l
 rw[h2,List.length_take];omega
theorem FewS.at_ {f:File}(h:FewS f)(day:Int):FewS (atF f day):=
 ⟨Nat.le_trans (XS _ _) h.1,Nat.le_trans (List.length_filter_le _ _) h.2,Nat.le_trans (XS _ _) h.3,Nat.le_trans (List.length_filter_le _ _) h.4⟩
def ofF (c:Case):Case:={c with file:=atF c.file c.day}
@[simp] theorem agV (x:File)(a0 a1 a2 a3 a4 a5 a6 a7 a8 a9 a10 a11 a12 a13 a14 a15 a16 a17 a18:D)(s h d u y:Int):vL 24 (D.agg (aT [a0,a1,a2,a3,a4,a5,a6,a7,a8,a9,a10,a11,a12,a13,a14,a15,a16,a17,a18,.int s,.int h,.int d,.int u,.int y] 0 [.int x.bill.drawer,.int x.bill.drawee,.int x.bill.payee,.int x.bill.sum,.int x.bill.currency,.int x.bill.tenor.kind,.int x.bill.tenor.n,.int x.bill.tenor.unit,.int x.bill.day,.int x.bill.city,.int x.bill.pay,.int x.bill.need,.int x.bill.rate,.int x.bill.flags,.int x.bill.parts,signs x.signs,alters x.alters,acts x.acts,facts x.facts]))=bp ⟨x,s,h,d,u,y⟩:=_root_.id rfl
theorem Xl (r:Realm)(c:Case)(hf:FewS c.file):Runs T VX [au r,bp c] (.tup [bp (ofF c),cells (kP r (ofF c))]):=by
 refine .of_tree rfl Z4 Tu ?_
 simp[Hh]
 have h1:=hf.1;have h2:=hf.2;have h3:=hf.3;have h4:=hf.4
 refine⟨_,mJ c.file c.day (by omega) (by omega) (by omega) (by omega),?_⟩
 have hfa:=hf.at_ c.day
 have h5:=hfa.4;have h6:=hfa.2
 simp
 exact⟨ID r (ofF c) (by show(atF c.file c.day).facts.length≤_;omega) (by show(atF c.file c.day).alters.length≤_;omega),(congrArg (vL 24) (aak (ofF c) _ _ _ _ _ _ _ _ _ _ _ _ _ _ _ _ _ _ _ _ _ _ _ _)).trans (aaw (ofF c))⟩
theorem ZY {r:Realm}{c:Case}(h:kP r c≠[]):0≤c.sign∧c.sign<c.file.signs.length:=by
 unfold kP at h
 split at h
 ·rename_i hh
  have h1:=hh.1
  unfold yY at h1
  simp[inB] at h1
  omega
 ·exact absurd rfl h
theorem Zf (r:Realm)(hby:acz r)(q:Int)(l:List Int)(hl:l.length≤100000)(hal:∀b:Int,0≤b→b<r.orders.length→tW r b q l=true):∀(n:Nat) (p:List Int),p≠[]→(∀x,x∈p→0≤x∧x<(r.orders.length:Int))→
 (Bv r q l n p).1≠[]∧∀x,x∈(Bv r q l n p).1→0≤x∧x<(r.orders.length:Int)
 |0,p,hne,hp=>⟨hne,hp⟩
 |n+1,p,hne,hp=>by
  have hlt:p.length-1<p.length:=by have:=List.length_pos_iff.mpr hne;omega
  have hlast:cg p=p[p.length-1]:=by simp[cg,hlt]
  have hli:=hp _ (List.getElem_mem hlt)
  rw[←hlast] at hli
  obtain⟨_,ht⟩:=OG r hby (cg p) q l hl (hal _ hli.1 hli.2)
  have hp':∀x,x∈p++[(cN r (cg p) q l).1]→0≤x∧x<(r.orders.length:Int):=fun x hx=>by
   rcases List.mem_append.mp hx with h|h
   ·exact hp x h
   ·simp at h;subst h;exact ht
  rw[Jq]
  split
  ·exact⟨hne,hp⟩
  split
  ·exact⟨by simp,hp'⟩
  split
  ·exact⟨by simp,hp'⟩
  ·exact Zf r hby q l hl hal n _ (by simp) hp'
theorem Zq {r:Realm}(hr:Right r){a q:Int}{l:List Int}(hl:l.length≤100000)(h:(xw r a q l).2=0):(xw r a q l).1≠[]∧0≤cg (xw r a q l).1∧cg (xw r a q l).1<r.orders.length:=by
 unfold xw at h ⊢
 split at h
 ·rename_i hh
  rw[if_pos hh]
  obtain⟨ha,hl5,hx,hal⟩:=Ii hh.1
  obtain⟨h1,h2⟩:=Zf r hr.by_ q l hl hal r.orders.length [a] (by simp) (fun x hx=>by simp at hx;subst hx;exact ha)
  refine⟨h1,?_⟩
  have hlt:(Bv r q l r.orders.length [a]).1.length-1<(Bv r q l r.orders.length [a]).1.length:=by have:=List.length_pos_iff.mpr h1;omega
  have hlast:cg (Bv r q l r.orders.length [a]).1=(Bv r q l r.orders.length [a]).1[(Bv r q l r.orders.length [a]).1.length-1]:=by simp[cg,hlt]
  rw[hlast]
  exact h2 _ (List.getElem_mem hlt)
 ·cases h
theorem WC (r:Realm)(q:Int)(l:List Int):∀(n:Nat) (p:List Int),(Bv r q l n p).1.length≤p.length+n
 |0,p=>by simp[Bv]
 |n+1,p=>by
  rw[Jq]
  split
  ·simp
  split
  ·simp
  split
  ·simp
  ·have:=WC r q l n (p++[(cN r (cg p) q l).1])
   simp at this
   omega
theorem adg (r:Realm)(a q:Int)(l:List Int):(xw r a q l).1.length≤1+r.orders.length:=by
 unfold xw
 split
 ·exact WC r q l _ [a]
 ·simp
@[simp] theorem afQ (a b c d e x:D):aT [a,b,c,d,e] 2 [x]=[a,b,x,d,e]:=_root_.id rfl
@[simp] theorem afZ (a b c d e x:D):aT [a,b,c,d,e] 3 [x]=[a,b,c,x,e]:=_root_.id rfl
@[simp] theorem afX (a b c d e x:D):aT [a,b,c,d,e] 4 [x]=[a,b,c,d,x]:=_root_.id rfl
def Yz:Said:=⟨noC,-1,[],1⟩
def du (r:Realm)(forum q:Int)(c:Case):Said×List Cell:=
 if kP r (ofF c)=[] then(Yz,[]) else if(yS q).2=false then(Yz,[]) else if cv r forum (ofF c)=[] then(Yz,[]) else
    (⟨noC,if(xw r forum q (cv r forum (ofF c))).2=0 then cg (xw r forum q (cv r forum (ofF c))).1 else-1,(xw r forum q (cv r forum (ofF c))).1,(xw r forum q (cv r forum (ofF c))).2⟩,kP r (ofF c))
theorem O0 (r:Realm)(forum:Int)(c:Case):(cv r forum c).length≤5:=by
 unfold cv
 split
 ·simp
 split<;>simp[AK]
theorem QQ (r:Realm)(hr:Right r)(forum q:Int)(c:Case)(hf:FewS c.file):Runs T N5 [au r,.int forum,.int q,bp c] (.tup [me (du r forum q c).1,cells (du r forum q c).2]):=by
 refine .of_tree rfl Wi P1 ?_
 simp[zp]
 refine⟨_,Xl r c hf,?_⟩
 by_cases hv:kP r (ofF c)=[]
 ·simp[hv,du]
  exact⟨rfl,rfl⟩
 simp[hv,du]
 refine⟨_,qk q,?_⟩
 cases hq:(yS q).2
 ·simp[hq]
  exact⟨rfl,rfl⟩
 simp[hq]
 refine⟨_,Wq r forum (ofF c) (ZY hv),?_⟩
 by_cases hp:cv r forum (ofF c)=[]
 ·simp[hp]
  exact⟨rfl,rfl⟩
 have hpl:=O0 r forum (ofF c)
 have hne:ints (cv r forum (ofF c))≠.list []:=fun e=>hp (by simpa [ints] using e)
 simp[hp]
 generalize cv r forum (ofF c)=l at*
 refine⟨_,abU r hr.by_ hr.len forum q l (by omega),?_⟩
 have hlen:=adg r forum q l
 have hlaw:=Zq hr (a:=forum) (q:=q) (l:=l) (by omega)
 have hol:=hr.len
 generalize xw r forum q l=L at*
 obtain⟨path,err⟩:=L
 simp only at*
 by_cases he:err=0
 ·obtain⟨h1,h2⟩:=hlaw he
  have hpos:=List.length_pos_iff.mpr h1
  have hww:IntKind.i64.wrap ((path.length:Int)-1)=(path.length:Int)-1:=ay (by omega)
  have hlw:((path.length:Int)-1).toNat=path.length-1:=by omega
  have hlt:path.length-1<path.length:=by omega
  have hlast:cg path=path[path.length-1]:=by simp[cg,hlt]
  simp[he,hww,hlw,hlt,←hlast]
  exact⟨by omega,rfl⟩
 ·simp[he]
  rfl
def Vs (r:Realm)(forum q:Int)(c:Case):Said:=
 if(du r forum q c).1.order=-1 then(du r forum q c).1
 else⟨(A3 (j0 r (du r forum q c).1.order) q (du r forum q c).2).1,(du r forum q c).1.order,(du r forum q c).1.path,(A3 (j0 r (du r forum q c).1.order) q (du r forum q c).2).2⟩
theorem RE {r:Realm}(hr:Right r)(forum q:Int)(c:Case):(du r forum q c).1.order=-1∨(0≤(du r forum q c).1.order∧(du r forum q c).1.order<r.orders.length):=by
 unfold du
 split
 ·exact .inl rfl
 split
 ·exact .inl rfl
 split
 ·exact .inl rfl
 ·have hpl:=O0 r forum (ofF c)
  have hlaw:=Zq hr (a:=forum) (q:=q) (l:=cv r forum (ofF c)) (by omega)
  show(if _ then _ else _)=_∨_
  split
  ·rename_i h
   exact .inr (hlaw h).2
  ·exact .inl rfl
theorem GB (r:Realm)(hr:Right r)(forum q:Int)(c:Case)(hf:FewS c.file):Runs T Tg [au r,.int forum,.int q,bp c] (me (Vs r forum q c)):=by
 refine .of_tree rfl Yt RY ?_
 simp[Di]
 refine⟨_,QQ r hr forum q c hf,?_⟩
 have ho:=RE hr forum q c
 unfold Vs
 generalize du r forum q c=S at*
 obtain⟨s,cs⟩:=S
 simp only at*
 by_cases h:s.order=-1
 ·obtain⟨⟨kn,n⟩,o,pth,e⟩:=s
  simp only at h
  subst h
  simp
  rfl
 ·have h1:0≤s.order∧s.order<r.orders.length:=by omega
  have h2:s.order.toNat<r.orders.length:=by omega
  have h3:j0 r s.order=r.orders[s.order.toNat]:=by simp[j0,h2]
  obtain⟨hok,hlen⟩:=hr.ok _ (List.getElem_mem h2)
  simp[h,h1,h2,h3]
  refine⟨_,GY _ q cs hok (by omega),?_⟩
  simp
  rfl
def mZ (r:Realm)(forum q:Int)(f:File)(day:Int):Said:=Vs r forum q ⟨{f with facts:=[]},0,-1,-1,-1,day⟩
theorem Cq (r:Realm)(hr:Right r)(forum q:Int)(f:File)(day:Int)(hf:FewS f):Runs T PB [au r,.int forum,.int q,aE f,.int day] (me (mZ r forum q f day)):=by
 refine .of_tree rfl W8 NL ?_
 simp[AE]
 refine⟨me (mZ r forum q f day),GB r hr forum q ⟨{f with facts:=[]},0,-1,-1,-1,day⟩ ⟨hf.1,hf.2,hf.3,by simp⟩,?_⟩
 simp
 try rfl
def TB (s:Said):Int:=if s.err≠0 then 0 else if s.cell.known=false then 2 else if s.cell.n≠0 then 1 else 0
theorem Fm (s:Said):Runs T SL [me s] (.int (TB s)):=by
 refine .of_tree rfl Yd QP ?_
 unfold TB
 by_cases h1:s.err=0<;>cases h2:s.cell.known<;>by_cases h3:s.cell.n=0<;>simp[Dg,h1,h2,h3]
def nT (s:Said):Int:=if s.err≠0∨s.cell.known=false then-1 else s.cell.n
theorem Ly (s:Said):Runs T GN [me s] (.int (nT s)):=by
 refine .of_tree rfl QX I6 ?_
 unfold nT
 by_cases h1:s.err=0<;>cases h2:s.cell.known<;>simp[uI,h1,h2]
end Rm
namespace Rm
open Go Go.Proofs Cx
def q9 (day:Int)(l:List Act)(es:List (D×D)):List (D×D):=l.foldl (fun es a=>if a.kind=7∧a.day≤day then fI (.int a.at_) (.bool true) es else es) es
theorem aas (day:Int)(l:List Act){k:Nat}(hk:k<l.length):q9 day (l.take (k+1)) []=if l[k].kind=7∧l[k].day≤day then fI (.int l[k].at_) (.bool true) (q9 day (l.take k) []) else q9 day (l.take k) []:=by
 unfold q9
 rw[List.take_succ_eq_append_getElem hk,List.foldl_append]
 rfl
theorem W5 (k v:D):∀es:List (D×D),(fI k v es).length≤es.length+1
 |[]=>by simp[fI]
 |e::es=>by
  unfold fI
  split
  ·simp
  ·have:=W5 k v es
   simp;omega
theorem Wv (day:Int):∀(l:List Act) (es:List (D×D)),(q9 day l es).length≤es.length+l.length
 |[],es=>by simp[q9]
 |a::l,es=>by
  have h:=Wv day l (if a.kind=7∧a.day≤day then fI (.int a.at_) (.bool true) es else es)
  have hp:=W5 (.int a.at_) (.bool true) es
  show(q9 day l (if a.kind=7∧a.day≤day then fI (.int a.at_) (.bool true) es else es)).length≤_
  split at h
  ·rename_i hc
   rw[if_pos hc]
   simp;omega
  ·rename_i hc
   rw[if_neg hc]
   simp;omega
theorem F2 (f:File)(day:Int)(hl:f.acts.length≤100000):Runs T Al [aE f,.int day] (.map (q9 day f.acts [])):=by
 refine .of_tree rfl K6 Dm ?_
 simp[pK]
 refine EvP.forRounds f.acts.length (fun k=>[.int k]) (fun k=>[.map (q9 day (f.acts.take k) [])]) ?_ (fun k hk=>?_) ?_
 ·simp[q9]
 ·have hw:=ar hk (by omega)
  have hs:=aas day f.acts hk
  have hlen:=Wv day (f.acts.take k) []
  rw[hs]
  simp at hlen
  generalize q9 day (f.acts.take k) []=es at*
  by_cases hc:f.acts[k].kind=7∧f.acts[k].day≤day
  ·simp[gF,dK,hk,hw,hc]
   omega
  ·simp[gF,dK,hk,hw,hc]
 ·simp[gF,dK]
theorem Vl {k v:D}:∀{es:List (D×D)} {e:D×D},e∈fI k v es→e.2=v∨e∈es
 |[],e,h=>by simp[fI] at h;exact .inl (by rw[h])
 |x::es,e,h=>by
  unfold fI at h
  split at h
  ·rcases List.mem_cons.mp h with rfl|h
   ·exact .inl rfl
   ·exact .inr (by simp[h])
  ·rcases List.mem_cons.mp h with rfl|h
   ·exact .inr (by simp)
   ·rcases Vl h with h|h
    ·exact .inl h
    ·exact .inr (by simp[h])
theorem Xi (day:Int):∀(l:List Act) (es:List (D×D)),(∀e,e∈es→e.2=.bool true)→∀e,e∈q9 day l es→e.2=.bool true
 |[],es,h,e,he=>h e he
 |a::l,es,h,e,he=>by
  refine Xi day l (if a.kind=7∧a.day≤day then fI (.int a.at_) (.bool true) es else es) (fun x hx=>?_) e he
  split at hx
  ·rcases Vl hx with h'|h'
   ·exact h'
   ·exact h x h'
  ·exact h x hx
theorem SV {k d:D}:∀{es:List (D×D)},ew k es=some d→∃e,e∈es∧e.2=d
 |x::es,h=>by
  unfold ew at h
  split at h
  ·exact⟨x,by simp,by simpa using h⟩
  ·obtain⟨e,h1,h2⟩:=SV h
   exact⟨e,by simp[h1],h2⟩
theorem abb (day:Int)(l:List Act)(k:D):(ew k (q9 day l [])).getD (.bool false)=.bool ((ew k (q9 day l [])).getD (.bool false)).b:=by
 cases h:ew k (q9 day l []) with
 |none=>rfl
 |some d=>
  obtain⟨e,h1,h2⟩:=SV h
  have:=Xi day l [] (fun e h=>by cases h) e h1
  rw[h2] at this
  rw[this];rfl
def eA (f:File)(sign day:Int):Bool:=inB sign f.signs.length&&((ew (.int sign) (q9 day f.acts [])).getD (.bool false)).b
theorem GX (f:File)(sign day:Int)(hl:f.acts.length≤100000):Runs T zP [aE f,.int sign,.int day] (.bool (eA f sign day)):=by
 refine .of_tree rfl Mp Ds ?_
 by_cases h1:0≤sign<;>by_cases h2:sign<f.signs.length<;>simp[pf,h1,h2,eA,inB]
 refine⟨_,F2 f day hl,?_⟩
 exact abb day f.acts (.int sign)
def OC (f:File)(sign:Int)(n:Nat):Int:=(f.alters.take n).foldl (fun s a=>if a.at_≤sign then a.sum else s) f.bill.sum
theorem Ic (f:File)(sign:Int)(hl:f.alters.length≤100000):Runs T B4 [aE f,.int sign] (.int (OC f sign f.alters.length)):=by
 refine .of_tree rfl Pn F5 ?_
 simp[rJ]
 refine EvP.forRounds f.alters.length (fun k=>[.int (OC f sign k),.int k]) (fun k=>[]) ?_ (fun k hk=>?_) ?_
 ·simp[OC]
 ·have hw:=ar hk (by omega)
  have hs:OC f sign (k+1)=if f.alters[k].at_≤sign then f.alters[k].sum else OC f sign k:=by
   unfold OC
   rw[List.take_succ_eq_append_getElem hk,List.foldl_append]
   rfl
  rw[hs]
  generalize OC f sign k=s at*
  by_cases hc:f.alters[k].at_≤sign<;>simp[qq,iQ,hk,hw,hc]
 ·simp[qq,iQ]
end Rm
namespace Rm
open Go Go.Proofs Cx
theorem y2 (r:Realm)(c:Int):Runs T sH [au r,.int c] (.bool (inB c r.cities.length)):=by
 refine .of_tree rfl Mb CS ?_
 by_cases h1:0≤c<;>by_cases h2:c<r.cities.length<;>simp[pW,h1,h2,inB]
def va (n:Int):Bool:=decide (0≤n)&&decide (n≤100000)
theorem sq (n:Int):Runs T jD [.int n] (.bool (va n)):=by
 refine .of_tree rfl PK F3 ?_
 by_cases h1:0≤n<;>by_cases h2:n≤100000<;>simp[rA,h1,h2,va]
theorem sf (n:Int):Runs T vK [.int n] (.bool (va n)):=by
 refine .of_tree rfl F9 zn ?_
 by_cases h1:0≤n<;>by_cases h2:n≤100000<;>simp[lW,h1,h2,va]
def adh (t:Tenor):Bool:=decide (t.kind=0)||decide (t.kind=1)
theorem zT (t:Tenor):Runs T sK [jC t] (.bool (adh t)):=by
 refine .of_tree rfl Lp Ed ?_
 by_cases h1:t.kind=0<;>simp[qe,h1,adh]
theorem Ke (y m d:Int):∃n:Int,Runs T ll [.int y,.int m,.int d] (.int n):=by
 by_cases h:m<3
 ·refine⟨?w,?h⟩
  case h=>
   refine Runs.of_tree (d:=.int ?w) rfl rE mO ?_
   simp[fj,h]
   exact rfl
 ·refine⟨?v,?g⟩
  case g=>
   refine Runs.of_tree (d:=.int ?v) rfl rE mO ?_
   simp[fj,h]
   exact rfl
noncomputable def abZ (y m d:Int):Int:=(Ke y m d).choose
theorem rq (y m d:Int):Runs T ll [.int y,.int m,.int d] (.int (abZ y m d)):=(Ke y m d).choose_spec
noncomputable def AS (y m:Int):Int:=if m=12 then 31 else IntKind.i64.wrap (abZ y (IntKind.i64.wrap (m+1)) 1-abZ y m 1)
theorem tV (y m:Int):Runs T tn [.int y,.int m] (.int (AS y m)):=by
 refine .of_tree rfl DA yq ?_
 unfold AS
 by_cases h:m=12
 ·simp[fg,h]
 ·simp[fg,h]
  refine⟨_,rq _ _ _,_,rq _ _ _,?_⟩
  simp
theorem adb (y m d:Int):∃n e:Int,Runs T zq [.int y,.int m,.int d] (.tup [.int n,.int e])∧(e=0→0≤n∧n≤100000):=by
 by_cases h0:(((2000≤y∧y≤2300)∧1≤m)∧m≤12)∧1≤d
 ·by_cases h2:d≤AS y m
  ·cases h1:va (abZ y m d)
   ·refine⟨0,3,.of_tree rfl jP fe ?_,by simp⟩
    simp[dI]
    rw[if_pos h0]
    refine⟨_,tV y m,?_⟩
    simp[h0,h2]
    refine⟨_,rq _ _ _,_,sf _,?_⟩
    simp[h1]
   ·refine⟨abZ y m d,0,.of_tree rfl jP fe ?_,fun _=>by simpa [va] using h1⟩
    simp[dI]
    rw[if_pos h0]
    exact⟨_,tV y m,⟨h0,h2⟩,_,rq _ _ _,_,sf _,h1,rfl⟩
  ·refine⟨0,3,.of_tree rfl jP fe ?_,by simp⟩
   simp[dI]
   rw[if_pos h0]
   refine⟨_,tV y m,?_⟩
   simp[h0,h2]
 ·refine⟨0,3,.of_tree rfl jP fe ?_,by simp⟩
  simp[dI]
  rw[if_neg h0]
  intro a1 a2 a3 a4 a5
  exact absurd ⟨⟨⟨⟨a1,a2⟩,a3⟩,a4⟩,a5⟩ h0
theorem Vm (r:Realm)(fr to:Int)(hl:r.usances.length≤100000):∃n e:Int,Runs T zm [au r,.int fr,.int to] (.tup [.int n,.int e])∧(e=0→∃u,u∈r.usances∧n=u.days):=by
 let p:Usance→Bool:=fun u=>decide (u.fr=fr)&&decide (u.to=to)
 refine⟨match r.usances.find? p with|some u=>u.days|none=>0,match r.usances.find? p with|some u=>0|none=>4,?_,?_⟩
 ·refine .of_tree rfl MF Dt ?_
  simp[pY]
  refine EvP.scan r.usances.length (fun k=>p (r.usances.getD k default)=false) (fun k=>[.int 0,.int 0,.int k]) (fun _=>[]) ?_ (fun k hk hj hok=>?_) (fun k hk hj hok=>?_) (fun hj=>?_)
  ·simp
  ·have hw:=ar hk (by omega)
   have hn:¬(r.usances[k].fr=fr∧r.usances[k].to=to):=by simpa [p,hk] using hok
   simp[gM,dM,hk,hw,hn]
  ·have hfi:=se hk (by simpa [hk] using hok) (fun j hj'=>by have:=hj j hj';simpa [show j<r.usances.length by omega] using this)
   have hc:r.usances[k].fr=fr∧r.usances[k].to=to:=by simpa [p,hk] using hok
   rw[hfi]
   simp[gM,dM,hk,hc]
  ·have hfi:=qV (l:=r.usances) (p:=p) (fun j hj'=>by have:=hj j hj';simpa [hj'] using this)
   rw[hfi]
   simp[gM,dM]
 ·cases h:r.usances.find? p with
  |none=>intro h;cases h
  |some u=>exact fun _=>⟨u,List.mem_of_find?_eq_some h,rfl⟩
end Rm
namespace Rm
open Go Go.Proofs Cx
theorem ZK (R Y:Int)(hR:0≤R∧R<146097)(h1:365*Y≤R-R/1460+R/36524-R/146096)(h2:R-R/1460+R/36524-R/146096<365*Y+365):0≤R-(365*Y+Y/4-Y/100)∧R-(365*Y+Y/4-Y/100)≤500:=by
 have k0:R/36524≤R/1460:=by omega
 have k1:Y/4≤R/1460:=by omega
 have hY:0≤Y:=by omega
 have hc:R/36524=0∨R/36524=1∨R/36524=2∨R/36524=3∨R/36524=4:=by omega
 have k2:25*(R/36524)≤R/1460:=by omega
 refine⟨?_,?_⟩
 ·rcases Int.lt_or_le Y (100*(R/36524)) with hy|hy
  ·have k3:Y/4≤25*(R/36524)-1:=by omega
   have k4:R/36524-1≤Y/100:=by omega
   omega
  ·have k3:R/36524≤Y/100:=by omega
   omega
 ·omega
theorem Nx (n:Int)(h:0≤n∧n≤100400):Runs T vW [.int n] (.tup [.int (oA n).1,.int (oA n).2.1,.int (oA n).2.2]):=by
 refine .of_tree rfl EM Af ?_
 have w:∀x:Int,-1000000000≤x→x≤1000000000→IntKind.i64.wrap x=x:=fun x a b=>ay (by omega)
 have t:∀x y:Int,0≤x→x.tdiv y=x/y:=fun x y hx=>Int.tdiv_eq_ediv_of_nonneg hx
 have u:∀x y:Int,0≤x→x.tmod y=x%y:=fun x y hx=>Int.tmod_eq_emod_of_nonneg hx
 simp[l5]
 unfold oA
 simp only[]
 rw[w (n+730425) (by omega) (by omega),u (n+730425) 146097 (by omega),t (n+730425) 146097 (by omega)]
 have hR:0≤(n+730425)%146097∧(n+730425)%146097<146097:=by omega
 have hE:0≤(n+730425)/146097∧(n+730425)/146097<100:=by omega
 generalize (n+730425)%146097=R at*
 generalize (n+730425)/146097=e at*
 rw[t R 1460 (by omega),t R 36524 (by omega),t R 146096 (by omega),w (R/1460) (by omega) (by omega),w (R-R/1460) (by omega) (by omega),w (R/36524) (by omega) (by omega),w (R-R/1460+R/36524) (by omega) (by omega),w (R/146096) (by omega) (by omega),w (R-R/1460+R/36524-R/146096) (by omega) (by omega),t (R-R/1460+R/36524-R/146096) 365 (by omega)]
 have hY:0≤(R-R/1460+R/36524-R/146096)/365∧(R-R/1460+R/36524-R/146096)/365<400:=by omega
 have hD:0≤R-(365*((R-R/1460+R/36524-R/146096)/365)+(R-R/1460+R/36524-R/146096)/365/4-(R-R/1460+R/36524-R/146096)/365/100)∧R-(365*((R-R/1460+R/36524-R/146096)/365)+(R-R/1460+R/36524-R/146096)/365/4-(R-R/1460+R/36524-R/146096)/365/100)≤500:=by
  exact ZK R _ hR (by omega) (by omega)
 generalize (R-R/1460+R/36524-R/146096)/365=Y at*
 rw[w Y (by omega) (by omega),w (365*Y) (by omega) (by omega),t Y 4 (by omega),t Y 100 (by omega),w (Y/4) (by omega) (by omega),w (Y/100) (by omega) (by omega),w (365*Y+Y/4) (by omega) (by omega),w (365*Y+Y/4-Y/100) (by omega) (by omega),w (R-(365*Y+Y/4-Y/100)) (by omega) (by omega)]
 generalize R-(365*Y+Y/4-Y/100)=D at*
 rw[w (5*D) (by omega) (by omega),w (5*D+2) (by omega) (by omega),t (5*D+2) 153 (by omega)]
 have hM:0≤(5*D+2)/153∧(5*D+2)/153≤20:=by omega
 generalize (5*D+2)/153=M at*
 rw[w M (by omega) (by omega),w (M+3) (by omega) (by omega),w (M+3-12) (by omega) (by omega),w e (by omega) (by omega),w (400*e) (by omega) (by omega),w (Y+400*e) (by omega) (by omega),w (Y+400*e+1) (by omega) (by omega)]
 rw[w (153*M) (by omega) (by omega),w (153*M+2) (by omega) (by omega),t (153*M+2) 5 (by omega),w ((153*M+2)/5) (by omega) (by omega),w (D-(153*M+2)/5) (by omega) (by omega),w (D-(153*M+2)/5+1) (by omega) (by omega)]
 refine⟨?_,?_,rfl⟩
 ·generalize (if 12<M+3 then M+3-12 else M+3)=m
  split<;>rfl
 ·split<;>rfl
theorem Qq (d n:Int):∃x e:Int,Runs T oK [.int d,.int n] (.tup [.int x,.int e])∧(e=0→0≤x∧x≤100000):=by
 by_cases h0:va d=true∧-5000≤n∧n≤5000
 ·have hd:0≤d∧d≤100400:=by have:=h0.1;simp[va] at this;omega
  obtain⟨A,hA⟩:∃A,A=IntKind.i64.wrap (IntKind.i64.wrap (IntKind.i64.wrap (IntKind.i64.wrap (12*(oA d).1)+(oA d).2.1)-1)+n):=⟨_,rfl⟩
  obtain⟨Y,hY⟩:∃Y,Y=IntKind.i64.wrap (A.tdiv 12):=⟨_,rfl⟩
  obtain⟨M,hM⟩:∃M,M=IntKind.i64.wrap (A.tmod 12+1):=⟨_,rfl⟩
  obtain⟨x,e,hD,hb⟩:=adb Y M (if AS Y M<(oA d).2.2 then AS Y M else(oA d).2.2)
  refine⟨x,e,.of_tree rfl mU jG ?_,hb⟩
  have n1:¬n< -5000:=by omega
  have n2:¬5000<n:=by omega
  simp[dt,n1,n2]
  refine⟨_,sf d,?_⟩
  simp[h0.1]
  refine⟨_,Nx d hd,?_⟩
  simp[←hA,←hY,←hM]
  refine⟨_,tV Y M,?_⟩
  by_cases hl:AS Y M<(oA d).2.2
  ·simp only[if_pos hl] at hD
   simp[hl]
   refine⟨_,hD,?_⟩
   simp
  ·simp only[if_neg hl] at hD
   simp[hl]
   refine⟨_,hD,?_⟩
   simp
 ·refine⟨0,3,.of_tree rfl mU jG ?_,by simp⟩
  simp[dt]
  refine⟨_,sf d,?_⟩
  simp
  intro a b c
  exact absurd ⟨a,b,c⟩ h0
end Rm
