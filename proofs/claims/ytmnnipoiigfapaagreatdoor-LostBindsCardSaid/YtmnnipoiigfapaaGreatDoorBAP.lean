/-
  Shared texts of this claim.
-/
import Derived.Test.YtmnnipoiigfapaaGreatDoorBAO
import Derived.Lib.Mul64
set_option linter.unusedSimpArgs false
set_option linter.unusedVariables false
noncomputable section
namespace Rm
open Go Go.Proofs Cx
def fS (f:Tm→Int):List Tm→Int→Int
 |[],n=>n
 |a::l,n=>if 60<n+f a then n+f a else fS f l (n+f a)
def cQ:Nat→Tm→Int
 |0,_=>61
 |L+1,t=>fS (cQ L) t.args 1
def dR (f:Tm→Int)(l:List Tm):Int:=(l.map f).sum
theorem Kj {f:Tm→Int}{l:List Tm}{k:Nat}(h:k<l.length):dR f (l.take (k+1))=dR f (l.take k)+f l[k]:=by
 unfold dR;rw[Cb f h,List.sum_append];simp
theorem abp {f:Tm→Int}:∀{l:List Tm} {n:Int} {k:Nat},(hk:k<l.length)→(∀j,j<k→n+dR f (l.take (j+1))≤60)→60<n+dR f (l.take (k+1))→fS f l n=n+dR f (l.take (k+1))
 |a::l,n,0,hk,_,h=>by
  simp[dR] at h ⊢;unfold fS;rw[if_pos (by omega)]
 |a::l,n,k+1,hk,hj,h=>by
  have h0:=hj 0 (by omega);simp[dR] at h0;unfold fS;rw[if_neg (by omega)];have e:∀j,n+dR f ((a::l).take (j+1+1))=n+f a+dR f (l.take (j+1)):=by intro j;simp[dR];omega
  rw[abp (l:=l) (k:=k) (by simpa using hk) (fun j w7=>by have:=hj (j+1) (by omega);rw[e] at this;exact this) (by rw[←e];exact h),e]
theorem abr {f:Tm→Int}:∀{l:List Tm} {n:Int},(∀j,j<l.length→n+dR f (l.take (j+1))≤60)→fS f l n=n+dR f l
 |[],n,_=>by simp[fS,dR]
 |a::l,n,hj=>by
  have h0:=hj 0 (by simp);simp[dR] at h0;unfold fS;rw[if_neg (by omega)];have e:∀j,n+dR f ((a::l).take (j+1+1))=n+f a+dR f (l.take (j+1)):=by intro j;simp[dR];omega
  rw[abr (l:=l) (fun j eR=>by have:=hj (j+1) (by simpa using eR);rw[e] at this;exact this)];simp[dR];omega
theorem abq {f:Tm→Int}(hf:∀a,1≤f a):∀{l:List Tm} {n:Int},n≤fS f l n
 |[],n=>by simp[fS]
 |a::l,n=>by
  unfold fS;have:=hf a;split
  ·omega
  ·have:=abq hf (l:=l) (n:=n+f a);omega
theorem xJ:∀(L:Nat) (t:Tm),1≤cQ L t
 |0,t=>by simp[cQ]
 |L+1,t=>abq (xJ L)
theorem abt {f:Tm→Int}{B:Int}(hf:∀a,f a≤B)(hB:0≤B):∀{l:List Tm} {n:Int},n≤60→fS f l n≤60+B
 |[],n,h=>by simp[fS];omega
 |a::l,n,h=>by
  unfold fS;have:=hf a;split
  ·omega
  ·exact abt hf hB (by omega)
theorem abv:∀(L:Nat) (t:Tm),cQ L t≤61+60*L
 |0,t=>by simp[cQ]
 |L+1,t=>by
  have:=abt (f:=cQ L) (fun a=>abv L a) (by omega) (l:=t.args) (n:=1) (by omega);show fS _ _ _≤_;omega
theorem abu {f:Tm→Int}(hf:∀a,1≤f a):∀{l:List Tm} {n:Int},fS f l n≤60→(n:Int)+l.length≤60∧∀a,a∈l→f a≤60-n
 |[],n,h=>by simp[fS] at h ⊢;exact h
 |a::l,n,h=>by
  unfold fS at h;have:=hf a;split at h
  ·omega
  ·obtain⟨h1,h2⟩:=abu hf h;refine⟨by simp;omega,fun b hb=>?_⟩;rcases cC.1 hb with rfl|hb
   ·omega
   ·have:=h2 b hb;omega
theorem Qy {L:Nat}{t:Tm}(h:cQ (L+1) t≤60):t.args.length≤59∧∀a,a∈t.args→cQ L a≤60:=by
 obtain⟨h1,h2⟩:=abu (xJ L) h;exact⟨by omega,fun a ha=>by have:=h2 a ha;omega⟩
theorem TM:∀(L:Nat) (t:Tm) (lv:Int),t.OK→L≤8→lv=9-(L:Int)→ao T 146 [dL t,.int lv] (.int (cQ L t))
 |0,t,lv,ht,hL,O7=>by
  refine .of_tree rfl Xo afO ?_;subst O7;simp[Mi,cQ]
 |L+1,t,lv,ht,hL,O7=>by
  refine .of_tree rfl Xo afO ?_;have hl:=ht.len;have h8:¬(8<lv):=by omega
  have J1:IntKind.i64.wrap (lv+1)=lv+1:=bU (by omega);simp[Mi,h8];refine .scan t.args.length (fun k=>1+dR (cQ L) (t.args.take (k+1))≤60) (fun k=>[.int (1+dR (cQ L) (t.args.take k)),.int k]) (fun _=>[]) ?_ (fun k hk hj ho=>?_) (fun k hk hj ho=>?_) (fun hj=>?_)
  ·simp[dR]
  all_goals try rw[Kj hk] at ho
  ·have hw:IntKind.i64.wrap ((k:Int)+1)=(k:Int)+1:=bU (by omega);have iT:=TM L t.args[k] (lv+1) (ht.arg (dq hk)) (by omega) (by omega);rw[Kj hk];have hs:0≤dR (cQ L) (t.args.take k):=by
    unfold dR;have:∀(l:List Tm),0≤(l.map (cQ L)).sum:=by
     intro l
     induction l with
     |nil=>simp
     |cons a l ih=>have:=xJ L a;simp;omega
    exact this _
   have gL:=xJ L t.args[k];generalize dR (cQ L) (t.args.take k)=m at*;generalize cQ L t.args[k]=v at*;have tG:IntKind.i64.wrap (1+m+v)=1+m+v:=bU (by omega);have ed:¬60<1+m+v:=by omega
   simp[Ti,Gj,hk,J1];refine⟨_,iT,?_⟩;simp[tG,ed,hw];omega
  ·have iT:=TM L t.args[k] (lv+1) (ht.arg (dq hk)) (by omega) (by omega);have hf:cQ (L+1) t=1+dR (cQ L) (t.args.take (k+1)):=abp hk hj (by rw[Kj hk];omega);rw[hf,Kj hk];have hs:0≤dR (cQ L) (t.args.take k)∧1+dR (cQ L) (t.args.take k)≤60:=by
    constructor
    ·unfold dR;have:∀(l:List Tm),0≤(l.map (cQ L)).sum:=by
       intro l
       induction l with
       |nil=>simp
       |cons a l ih=>have:=xJ L a;simp;omega
     exact this _
    ·cases k with
     |zero=>simp[dR]
     |succ k=>exact hj k (by omega)
   have gL:=xJ L t.args[k];have de:=abv L t.args[k];generalize dR (cQ L) (t.args.take k)=m at*;generalize cQ L t.args[k]=v at*;have tG:IntKind.i64.wrap (1+m+v)=1+m+v:=bU (by omega);have ed:60<1+m+v:=by omega
   simp[Ti,Gj,hk,J1];refine⟨_,iT,?_⟩;simp[tG,ed];omega
  ·have hf:cQ (L+1) t=1+dR (cQ L) t.args:=abr hj;rw[hf];simp[Ti,Gj]
def nC (ws ts:List Int):Nat→Int
 |0=>-1
 |k+1=>if ws.getD k 0=-1∧nC ws ts k=-1 then ts.getD k 0 else nC ws ts k
def oJ (ws ts:List Int)(k:Nat):Bool:=if ws.getD k 0=-1 then decide (nC ws ts k=-1)||decide (ts.getD k 0=nC ws ts k) else decide (ts.getD k 0=ws.getD k 0)
def xL (t:Tm)(ks:List Int):Int×Int:=
 if t.op<0∨13<t.op then(0,1) else if t.op=0∨t.op=1∨t.op=2 then ER t else
 if ks.length≠(eY t.op).1.length∨t.n≠0 then(0,2) else
 if eE (eY t.op).1.length (oJ (eY t.op).1 ks)=false then(0,11) else if(eY t.op).2=-1 then(nC (eY t.op).1 ks (eY t.op).1.length,0) else((eY t.op).2,0)
def cA:Nat→Tm→Int×Int
 |0,_=>(0,0)
 |L+1,t=>if fJ t.args.length (fun k=>(cA L (t.args.getD k default)).2)≠0 then(0,fJ t.args.length (fun k=>(cA L (t.args.getD k default)).2)) else xL t (t.args.map fun a=>(cA L a).1)
theorem NS (L:Nat)(t:Tm):cA (L+1) t=if fJ t.args.length (fun k=>(cA L (t.args.getD k default)).2)≠0 then(0,fJ t.args.length (fun k=>(cA L (t.args.getD k default)).2)) else xL t (t.args.map fun a=>(cA L a).1):=rfl
theorem TB {α:Type}(A:List α)(z:α){k n:Nat}(hA:A.length=n)(hk:k<n):(A.take k++List.replicate (n-k) z).set k A[k]=A.take (k+1)++List.replicate (n-(k+1)) z:=by
 have h1:(A.take k).length=k:=by rw[dU];omega
 rw[List.set_append_right _ _ (by omega),h1,MB];have:n-k=(n-(k+1))+1:=by omega
 rw[this,List.replicate_succ,List.set_cons_zero,ki (by omega),px];rfl
theorem atp (op:Int):(eY op).1.length≤3:=by
 unfold eY;repeat' split
 all_goals simp
theorem TL:∀(L:Nat) (t:Tm),t.OK→cQ L t≤60→ao T 147 [dL t] (.tup [.int (cA L t).1,.int (cA L t).2])
 |0,t,ht,hm=>by simp[cQ] at hm
 |L+1,t,ht,hm=>by
  refine .of_tree rfl (lA 76 (by kernel_rfl)) av9 ?_;obtain⟨hl,hp⟩:=Qy hm;simp[VP];refine⟨by omega,?_⟩;refine oZ t.args.length (fun k=>(cA L (t.args.getD k default)).2) (fun k=>[.int 0,.int 0,.int k]) (fun k=>[ints ((t.args.map fun a=>(cA L a).1).take k++List.replicate (t.args.length-k) 0)]) ?_ (fun k hk ho=>?_) (fun k hk ho hb=>?_) (fun hj=>?_)
  ·simp[ints]
  ·have hw:=bk hk (by omega);have cP:=dq hk;have iT:=TL L t.args[k] (ht.arg cP) (hp _ cP);have hs:=TB (t.args.map fun a=>(cA L a).1) 0 (n:=t.args.length) (by simp) hk;rw[←hs];have hlen:((t.args.map fun a=>(cA L a).1).take k++List.replicate (t.args.length-k) (0:Int)).length=t.args.length:=by simp;omega
   have uW:(t.args.map fun a=>(cA L a).1)[k]'(by simpa using hk)=(cA L t.args[k]).1:=by simp
   rw[uW];generalize (t.args.map fun a=>(cA L a).1).take k++List.replicate (t.args.length-k) (0:Int)=A at*;simp[hk] at ho;rw[ho] at iT;generalize (cA L t.args[k]).1=kd at*;simp[Tg,Gg,hk];refine⟨_,iT,?_⟩;simp[hlen,hk,hw,ints]
  ·have cP:=dq hk;have iT:=TL L t.args[k] (ht.arg cP) (hp _ cP);have hf:cA (L+1) t=(0,(cA L (t.args.getD k default)).2):=by
    rw[NS,hb,if_pos ho]
   rw[hf];simp[hk] at ho ⊢;simp[Tg,Gg,hk];refine⟨_,iT,?_⟩;simp[ho]
  ·have hf:cA (L+1) t=xL t (t.args.map fun a=>(cA L a).1):=by
    rw[NS,hj];simp
   rw[hf]
   have e0:(t.args.map fun a=>(cA L a).1).take t.args.length++List.replicate (t.args.length-t.args.length) 0=t.args.map fun a=>(cA L a).1:=by
    rw[MB,wg (by simp)];simp
   rw[e0];have ZE:(t.args.map fun a=>(cA L a).1).length=t.args.length:=by simp
   generalize (t.args.map fun a=>(cA L a).1)=ks at*;simp[Tg,Gg];unfold xL;by_cases h1:t.op<0
   ·simp[h1]
   by_cases h2:13<t.op
   ·simp[h1,h2]
   simp[h1,h2];by_cases h3:t.op=0∨t.op=1∨t.op=2
   ·have fh:(t.op=0∨t.op=1)∨t.op=2:=by omega
    simp[h3,fh];refine⟨_,atV t,?_⟩;simp
   have fh:¬((t.op=0∨t.op=1)∨t.op=2):=by omega
   simp[h3,fh];refine⟨_,atX _,?_⟩;have hsl:=atp t.op;generalize eY t.op=sh at*;simp;by_cases h4:ks.length=sh.1.length
   case neg=>
    have qe:¬((ks.length:Int)=sh.1.length):=by omega
    have Jb:¬t.args.length=sh.1.length:=by omega
    simp[h4,qe,Jb]
   have qe:(ks.length:Int)=sh.1.length:=by omega
   have Jb:t.args.length=sh.1.length:=by omega
   by_cases h5:t.n=0
   case neg=>simp[h4,qe,Jb,h5]
   simp[h4,qe,Jb,h5];refine gm sh.1.length (oJ sh.1 ks) (fun k=>[.int 0,.int 0,.int (nC sh.1 ks k),.int k]) (fun _=>[]) ?_ (fun k hk ho=>?_) (fun k hk ho hb=>?_) (fun hj=>?_)
   ·simp[nC]
   ·have hw:=bk hk (by omega);have ct:k<ks.length:=by omega
    simp only[nC];unfold oJ at ho;simp only[aJ,bF hk,bF ct,jK] at ho ⊢;generalize nC sh.1 ks k=c at*;by_cases a1:sh.1[k]=-1
    ·by_cases a2:c=-1
     ·simp[BZ,vG,hk,ct,hw,ints,a1,a2]
     ·simp[a1,a2] at ho;simp[BZ,vG,hk,ct,hw,ints,a1,a2,ho]
    ·simp[a1] at ho;simp[BZ,vG,hk,ct,hw,ints,a1,ho]
   ·rw[hb];have ct:k<ks.length:=by omega
    unfold oJ at ho;simp only[aJ,bF hk,bF ct,jK] at ho;generalize nC sh.1 ks k=c at*;by_cases a1:sh.1[k]=-1
    ·by_cases a2:c=-1
     ·simp[a1,a2] at ho
     ·simp[a1,a2] at ho;simp[BZ,vG,hk,ct,ints,a1,a2,ho]
    ·simp[a1] at ho;simp[BZ,vG,hk,ct,ints,a1,ho]
   ·rw[hj];simp[BZ,vG];by_cases a1:sh.2=-1<;>simp[a1]
def od (t:Tm):Int×Int:=if 60<cQ 8 t then(0,6) else cA 8 t
theorem afD (t:Tm)(ht:t.OK):ao T 133 [dL t] (.tup [.int (od t).1,.int (od t).2]):=by
 refine .of_tree rfl (lA 74 (by kernel_rfl)) av5 ?_;simp[VL,od];refine⟨_,TM 8 t 1 ht (by omega) (by omega),?_⟩;by_cases h:60<cQ 8 t
 ·simp[h]
 simp[h];refine⟨_,TL 8 t ht (by omega),?_⟩;simp
end Rm
namespace Rm
open Go Go.Proofs Cx
abbrev u (n:Nat):D:=.v (.int .u64 n)
theorem afZ (n:Int):IntKind.u64.wrap n=n%18446744073709551616:=rfl
theorem GQ {n:Int}(h:0≤n∧n<18446744073709551616):IntKind.u64.wrap n=n:=by
 rw[afZ];omega
theorem yE {n:Nat}(h:n<18446744073709551616):IntKind.u64.wrap (n:Int)=n:=GQ (by omega)
theorem atq (a s:Nat)(h:s≤64):cV .shr .u64 a s=((a/2^s:Nat):Int):=by
 show Int.fdiv (a:Int) (2^(min (s:Int).toNat 64))=_;have:min (s:Int).toNat 64=s:=by simp;omega
 rw[this,agh _ (Int.le_of_lt (Int.pow_pos (by decide)))];rw[Int.natCast_ediv,Int.natCast_pow];rfl
theorem MS (a:Nat)(h:a<18446744073709551616):cV .and .u64 a 4294967295=((a%4294967296:Nat):Int):=by
 show IntKind.u64.wrap ((BitVec.ofInt 64 (a:Int)&&& BitVec.ofInt 64 4294967295).toNat:Nat)=_;have e:(BitVec.ofInt 64 (a:Int)&&& BitVec.ofInt 64 4294967295).toNat=a%4294967296:=by
  rw[BitVec.toNat_and];have e1:(BitVec.ofInt 64 (a:Int)).toNat=a:=by simp[BitVec.ofInt,BitVec.toNat_ofNat];omega
  have e2:(BitVec.ofInt 64 4294967295).toNat=2^32-1:=by decide
  rw[e1,e2,Nat.and_two_pow_sub_one_eq_mod]
 rw[e,yE (by omega)]
@[simp] theorem B7 (a:Nat):cV .shr .u64 a 32=((a/4294967296:Nat):Int):=atq a 32 (by decide)
set_option maxHeartbeats 2000000 in
theorem aqt (a b:Nat)(ha:a<18446744073709551616)(hb:b<18446744073709551616):ao T 173 [u a,u b] (.tup [u (a*b/18446744073709551616),u (a*b%18446744073709551616)]):=by
 refine .of_tree rfl (lA 88 (by kernel_rfl)) aul ?_;obtain⟨h1,h2,h3,h4⟩:=Go.Lib.mul64_hi a b ha hb;have elo:IntKind.u64.wrap ((a:Int)*(b:Int))=((a*b%18446744073709551616:Nat):Int):=by rw[afZ,Int.natCast_emod,Int.natCast_mul];rfl
 have N5:cV .shr .u64 (a:Int) 32=((a/4294967296:Nat):Int):=B7 a;have ea0:cV .and .u64 (a:Int) 4294967295=((a%4294967296:Nat):Int):=MS a ha;have N6:cV .shr .u64 (b:Int) 32=((b/4294967296:Nat):Int):=B7 b;have eb0:cV .and .u64 (b:Int) 4294967295=((b%4294967296:Nat):Int):=MS b hb;have aCj:=Go.Lib.half_mul_le (a:=a/4294967296) (b:=b/4294967296) (by omega) (by omega);have aCi:=Go.Lib.half_mul_le (a:=a/4294967296) (b:=b%4294967296) (by omega) (by omega);have aCh:=Go.Lib.half_mul_le (a:=a%4294967296) (b:=b/4294967296) (by omega) (by omega);have aCg:=Go.Lib.half_mul_le (a:=a%4294967296) (b:=b%4294967296) (by omega) (by omega);have O1:a*b/18446744073709551616<18446744073709551616:=by
  have:a*b<18446744073709551616*18446744073709551616:=Nat.mul_lt_mul'' ha hb;exact Nat.div_lt_of_lt_mul this
 simp only[T6];generalize a/4294967296=a1 at*;generalize a%4294967296=a0 at*;generalize b/4294967296=b1 at*;generalize b%4294967296=b0 at*;have p11:IntKind.u64.wrap ((a1:Int)*(b1:Int))=((a1*b1:Nat):Int):=by rw[←Int.natCast_mul];exact yE (by omega)
 have p10:IntKind.u64.wrap ((a1:Int)*(b0:Int))=((a1*b0:Nat):Int):=by rw[←Int.natCast_mul];exact yE (by omega)
 have p01:IntKind.u64.wrap ((a0:Int)*(b1:Int))=((a0*b1:Nat):Int):=by rw[←Int.natCast_mul];exact yE (by omega)
 have p00:IntKind.u64.wrap ((a0:Int)*(b0:Int))=((a0*b0:Nat):Int):=by rw[←Int.natCast_mul];exact yE (by omega)
 rw[←h4] at O1 ⊢;generalize a1*b1=P at*;generalize a1*b0=Q at*;generalize a0*b1=R at*;generalize a0*b0=S at*;have s1:cV .shr .u64 (S:Int) 32=((S/4294967296:Nat):Int):=B7 S;have s2:IntKind.u64.wrap ((Q:Int)+((S/4294967296:Nat):Int))=((Q+S/4294967296:Nat):Int):=by rw[GQ (by omega)];omega
 generalize S/4294967296=S1 at*;generalize hT:Q+S1=TT at*;have s3:cV .shr .u64 (TT:Int) 32=((TT/4294967296:Nat):Int):=B7 TT;have s4:cV .and .u64 (TT:Int) 4294967295=((TT%4294967296:Nat):Int):=MS TT (by omega);have s5:IntKind.u64.wrap (((TT%4294967296:Nat):Int)+(R:Int))=((TT%4294967296+R:Nat):Int):=by rw[GQ (by omega)];omega
 generalize hU:TT%4294967296+R=U at*;have s6:cV .shr .u64 (U:Int) 32=((U/4294967296:Nat):Int):=B7 U;have s7:IntKind.u64.wrap ((P:Int)+((TT/4294967296:Nat):Int))=((P+TT/4294967296:Nat):Int):=by rw[GQ (by omega)];omega
 have s8:IntKind.u64.wrap (((P+TT/4294967296:Nat):Int)+((U/4294967296:Nat):Int))=((P+TT/4294967296+U/4294967296:Nat):Int):=by rw[GQ (by omega)];omega
 simp[-B7,-Int.natCast_add,-Int.natCast_mul,-Int.natCast_ediv,-Int.natCast_emod,elo,N5,ea0,N6,eb0,p11,p10,p01,p00,s1,s2,s3,s4,s5,s6,s7,s8]
def tS (m:Nat):Int:=if m<1099511627776 then m else 1099511627776
def Bx (a b:Int):Int:=if(decide (a<0)!=decide (b<0))=true then-tS (a.natAbs*b.natAbs) else tS (a.natAbs*b.natAbs)
theorem adF (m:Nat):0≤tS m∧tS m≤1099511627776:=by unfold tS;split<;>omega
set_option maxHeartbeats 1000000 in
theorem atW (a b:Int)(ha:-1099511627776≤a∧a≤1099511627776)(hb:-1099511627776≤b∧b≤1099511627776):ao T 171 [.int a,.int b] (.int (Bx a b)):=by
 refine .of_tree rfl (lA 87 (by kernel_rfl)) awf ?_;have wa:IntKind.u64.wrap (a.natAbs:Int)=a.natAbs:=yE (by omega);have wb:IntKind.u64.wrap (b.natAbs:Int)=b.natAbs:=yE (by omega);have w0a:IntKind.i64.wrap (0-a)=-a:=by rw[bU (by omega)];omega
 have w0b:IntKind.i64.wrap (0-b)=-b:=by rw[bU (by omega)];omega
 have awM:IntKind.i64.wrap (-a)=-a:=bU (by omega);have awN:IntKind.i64.wrap (-b)=-b:=bU (by omega);have ea:(if a< -a then D.int (-a) else D.int a)=D.int a.natAbs:=by split<;>congr 1<;>omega
 have eb:(if b< -b then D.int (-b) else D.int b)=D.int b.natAbs:=by split<;>congr 1<;>omega
 have ea':(if a< -a then-a else a)=(a.natAbs:Int):=by split<;>omega
 have eb':(if b< -b then-b else b)=(b.natAbs:Int):=by split<;>omega
 simp[VU,awM,awN,ea,eb,ea',eb'];rw[wa,wb];refine⟨_,aqt a.natAbs b.natAbs (by omega) (by omega),?_⟩;unfold Bx;generalize a.natAbs*b.natAbs=m;have hs:(decide (a<0)!=decide (b<0))=false↔(a<0↔b<0):=by
  by_cases h1:a<0<;>by_cases h2:b<0<;>simp[h1,h2]
 have key:((if((m/18446744073709551616:Nat):Int)=0∧((m%18446744073709551616:Nat):Int)<1099511627776 then IntKind.i64.wrap ((m%18446744073709551616:Nat):Int) else 1099511627776):Int)=tS m:=by
  unfold tS;by_cases hm:m<1099511627776
  ·have h1:m/18446744073709551616=0:=by omega
   have h2:m%18446744073709551616=m:=by omega
   rw[h1,h2,if_pos ⟨rfl,by omega⟩,if_pos hm,bU (by omega)]
  ·rw[if_neg hm,if_neg];rintro⟨h1,h2⟩;omega
 have gx:=adF m;have aop:(if((m/18446744073709551616:Nat):Int)=0∧((m%18446744073709551616:Nat):Int)<1099511627776 then D.int (IntKind.i64.wrap ((m%18446744073709551616:Nat):Int)) else D.int 1099511627776)=D.int (tS m):=by
  rw[←key];split<;>rfl
 show(if a<0↔b<0 then(if((m/18446744073709551616:Nat):Int)=0∧((m%18446744073709551616:Nat):Int)<1099511627776 then D.int (IntKind.i64.wrap ((m%18446744073709551616:Nat):Int)) else D.int 1099511627776)=_ else
  IntKind.i64.wrap (-(if((m/18446744073709551616:Nat):Int)=0∧((m%18446744073709551616:Nat):Int)<1099511627776 then IntKind.i64.wrap ((m%18446744073709551616:Nat):Int) else 1099511627776))=_)
 rw[aop,key];generalize tS m=n at*;split
 ·rename_i h;rw[hs.2 h];simp
 ·rename_i h;have:(decide (a<0)!=decide (b<0))=true:=by
   cases e:(decide (a<0)!=decide (b<0)) with
   |true=>rfl
   |false=>exact absurd (hs.1 e) h
  rw[this,bU (by omega)];simp
def yV (op a b:Int):Int:=if op=9 then pW (a+b) else if op=10 then pW (a-b) else if op=11 then Bx a b else if op=12 then min a b else max a b
theorem atT (op a b:Int)(ha:-1099511627776≤a∧a≤1099511627776)(hb:-1099511627776≤b∧b≤1099511627776):ao T 163 [.int op,.int a,.int b] (.int (yV op a b)):=by
 refine .of_tree rfl (lA 86 (by kernel_rfl)) av8 ?_;have w1:IntKind.i64.wrap (a+b)=a+b:=bU (by omega);have w2:IntKind.i64.wrap (a-b)=a-b:=bU (by omega);simp[VO,yV,w1,w2];by_cases h1:op=9
 ·simp[h1];exact L6 _
 by_cases h2:op=10
 ·simp[h1,h2];exact L6 _
 by_cases h3:op=11
 ·simp[h1,h2,h3];exact atW a b ha hb
 by_cases h4:op=12
 ·simp[h1,h2,h3,h4];by_cases h5:b<a<;>simp[h5]<;>omega
 simp[h1,h2,h3,h4];by_cases h5:b>a<;>simp[h5]<;>omega
def gS (b:Bool):Cell:=if b then⟨true,1⟩ else⟨true,0⟩
theorem vR (b:Bool):ao T 161 [.bool b] (cZ (gS b)):=by
 refine .of_tree rfl (lA 84 (by kernel_rfl)) awh ?_;cases b<;>simp[VW,gS]<;>rfl
def eA:Cell:=⟨false,0⟩
@[simp] theorem aDe:D.agg [.bool false,.int 0]=cZ eA:=_root_.id rfl
@[simp] theorem aDf:eA.known=false:=rfl
@[simp] theorem aDg:eA.n=0:=rfl
def cellAt (cs:List Cell)(v:Int):Cell:=cs.getD v.toNat default
def l8 (cs:List Cell)(v:Int):Cell:=if cs.length≤v.toNat∨(cellAt cs v).known=false then eA else if(mW v).1=1 then gS (decide ((cellAt cs v).n≠0)) else⟨true,pW (cellAt cs v).n⟩
abbrev N8 (cs:List Cell):D:=.agg [cells cs]
theorem atY (cs:List Cell)(v:Int)(hv:0≤v):ao T 148 [N8 cs,.int v] (cZ (l8 cs v)):=by
 refine .of_tree rfl (lA 83 (by kernel_rfl)) awe ?_;obtain⟨k,rfl⟩:=uw hv;simp[VT,l8,cellAt];by_cases h1:cs.length≤k
 ·simp[h1]
 have cH:k<cs.length:=by omega
 simp[h1,cH];cases h2:cs[k].known
 ·simp[h2]
 simp[h2];refine⟨_,afE _,?_⟩;by_cases h3:(mW k).1=1
 ·simp[h3,cH];refine⟨_,vR _,?_⟩;simp;rfl
 ·simp[h3,cH];refine⟨_,L6 _,?_⟩;simp;rfl
@[simp] theorem aCy (a b:Int):(a==b)=decide (a=b):=_root_.id rfl
@[simp] theorem aCz (a b:Int):(a !=b)= !decide (a=b):=_root_.id rfl
def bt (l:List Cell)(k:Nat):Cell:=l.getD k default
def gX (op:Int)(l:List Cell):Cell:=
 if op=3 then(if(bt l 0).known=true then gS (decide ((bt l 0).n=0)) else eA)
 else if(op=4∨op=5)∧(bt l 0=gS (decide (op=5))∨bt l 1=gS (decide (op=5))) then gS (decide (op=5))
 else if op=6 then(if(bt l 1).known=true∧bt l 1=bt l 2 then bt l 1 else eA)
 else if(bt l 0).known=false∨(bt l 1).known=false then eA
 else if op=4∨op=5 then gS (decide (op=4))
 else if op=7 then gS (decide ((bt l 0).n<(bt l 1).n)) else if op=8 then gS (decide ((bt l 0).n=(bt l 1).n)) else⟨true,yV op (bt l 0).n (bt l 1).n⟩
theorem ahw (a b:Cell):a=b↔a.known=b.known∧a.n=b.n:=by cases a;cases b;simp
theorem atU (op:Int)(l:List Cell)(h1:1≤l.length)(h2:op≠3→2≤l.length)(h3:op=6→3≤l.length)
 (hb:9≤op→(-1099511627776≤(bt l 0).n∧(bt l 0).n≤1099511627776)∧(-1099511627776≤(bt l 1).n∧(bt l 1).n≤1099511627776)) (h9:op<3∨8<op→9≤op):
 ao T 149 [.int op,cells l] (cZ (gX op l)):=by
 refine .of_tree rfl (lA 85 (by kernel_rfl)) awa ?_;have g0:0<l.length:=by omega
 have wM:l[0]=bt l 0:=by simp[bt,g0]
 simp[VQ];unfold gX;by_cases o3:op=3
 ·simp[o3,g0,wM];cases e:(bt l 0).known
  ·simp
  ·simp[g0];refine⟨_,vR _,?_⟩;simp
 have g1:1<l.length:=by have:=h2 o3;omega
 have DK:l[1]=bt l 1:=by simp[bt,g1]
 have fg:(1:Int)<l.length:=by omega
 simp[o3];have fin:∀a b:Cell,(a=b)=(a.known=b.known∧a.n=b.n):=fun a b=>propext (ahw a b);rcases GV (op=4) with o4|o4
 ·subst o4;simp;refine⟨_,vR _,?_⟩;simp[g0,g1,fg,wM,DK,fin];split
  ·rfl
  ·split
   ·rfl
   ·refine⟨_,vR _,?_⟩;simp
 rcases GV (op=5) with o5|o5
 ·subst o5;simp;refine⟨_,vR _,?_⟩;simp[g0,g1,fg,wM,DK,fin];split
  ·rfl
  ·split
   ·rfl
   ·refine⟨_,vR _,?_⟩;simp
 rcases GV (op=6) with o6|o6
 ·subst o6;have g2:2<l.length:=by have:=h3 rfl;omega
  have gg2:l[2]=bt l 2:=by simp[bt,g2]
  have ot:(2:Int)<l.length:=by omega
  simp[g1,g2,fg,ot,DK,gg2,fin];cases e1:(bt l 1).known
  ·simp
  by_cases e2:(bt l 1).known=(bt l 2).known∧(bt l 1).n=(bt l 2).n
  ·rw[e1] at e2;simp[e1,e2]
  ·rw[e1] at e2;have uH:¬((bt l 2).known=true∧(bt l 1).n=(bt l 2).n):=fun h=>e2 ⟨h.1.symm,h.2⟩;simp only[e1,true_and,if_true]
   first|(rw[if_neg uH,if_neg uH])|(simp[uH])
 simp[o4,o5,o6,g0,g1,fg,wM,DK];cases e1:(bt l 0).known
 ·simp
 cases e2:(bt l 1).known
 ·simp
 simp[g1,fg,DK];rcases GV (op=7) with o7|o7
 ·subst o7;simp;refine⟨_,vR _,?_⟩;simp
 rcases GV (op=8) with o8|o8
 ·subst o8;simp;refine⟨_,vR _,?_⟩;simp
 simp[o7,o8];obtain⟨b1,b2⟩:=hb (h9 (by omega));refine⟨_,atT op _ _ b1 b2,?_⟩;simp;rfl
end Rm
namespace Rm
open Go Go.Proofs Cx
def bQ:Nat→List Cell→Tm→Cell
 |0,_,_=>eA
 |L+1,cs,t=>if t.op=0∨t.op=1 then⟨true,t.n⟩ else if t.op=2 then l8 cs t.n else
   if t.op=6∧(bt (t.args.map (bQ L cs)) 0).known=true then bt (t.args.map (bQ L cs)) (2-(bt (t.args.map (bQ L cs)) 0).n).toNat else gX t.op (t.args.map (bQ L cs))
def eh:Nat→List Cell→Tm→List Int
 |0,_,_=>[]
 |L+1,cs,t=>if t.op=0∨t.op=1 then[] else if t.op=2 then(if(l8 cs t.n).known=true then[] else[t.n]) else
   if t.op=6∧(bt (t.args.map (bQ L cs)) 0).known=true then(t.args.map (eh L cs)).getD (2-(bt (t.args.map (bQ L cs)) 0).n).toNat [] else
   if(gX t.op (t.args.map (bQ L cs))).known=true then[] else(t.args.map (eh L cs)).flatten
theorem IU (L:Nat)(cs:List Cell)(t:Tm):bQ (L+1) cs t=if t.op=0∨t.op=1 then⟨true,t.n⟩ else if t.op=2 then l8 cs t.n else
 if t.op=6∧(bt (t.args.map (bQ L cs)) 0).known=true then bt (t.args.map (bQ L cs)) (2-(bt (t.args.map (bQ L cs)) 0).n).toNat else gX t.op (t.args.map (bQ L cs)):=rfl
theorem Km (L:Nat)(cs:List Cell)(t:Tm):eh (L+1) cs t=if t.op=0∨t.op=1 then[] else if t.op=2 then(if(l8 cs t.n).known=true then[] else[t.n]) else
 if t.op=6∧(bt (t.args.map (bQ L cs)) 0).known=true then(t.args.map (eh L cs)).getD (2-(bt (t.args.map (bQ L cs)) 0).n).toNat [] else
 if(gX t.op (t.args.map (bQ L cs))).known=true then[] else(t.args.map (eh L cs)).flatten:=rfl
theorem NT {L:Nat}{t:Tm}{k:Int}(h:cA (L+1) t=(k,0)):(∀a,a∈t.args→(cA L a).2=0)∧xL t (t.args.map fun a=>(cA L a).1)=(k,0):=by
 rw[NS] at h;by_cases e:fJ t.args.length (fun k=>(cA L (t.args.getD k default)).2)=0
 ·rw[if_neg (by simpa using e)] at h;refine⟨fun a ha=>?_,h⟩;obtain⟨j,hj,rfl⟩:=kf ha;have:=Yq.1 e j hj;simpa [hj] using this
 ·rw[if_pos e] at h;injection h with _ h
  exact absurd h e
inductive Node (ks:List Int) (t:Tm):Int→Prop where
 |int (h:t.op=0) (ha:t.args=[]) (hn:-1099511627776≤t.n∧t.n≤1099511627776):Node ks t 0
 |bool (h:t.op=1) (ha:t.args=[]) (hn:t.n=0∨t.n=1):Node ks t 1
 |var (h:t.op=2) (ha:t.args=[]) (hn:0≤t.n∧t.n≤19):Node ks t (mW t.n).1
 |not (h:t.op=3) (hk:ks=[1]):Node ks t 1
 |log (h:t.op=4∨t.op=5) (hk:ks=[1,1]):Node ks t 1
 |ite (k:Int) (h:t.op=6) (hk:ks=[1,k,k]):Node ks t k
 |less (h:t.op=7) (hk:ks=[0,0]):Node ks t 1
 |equal (k:Int) (h:t.op=8) (hk:ks=[k,k]):Node ks t 1
 |num (h:9≤t.op∧t.op≤13) (hk:ks=[0,0]):Node ks t 0
theorem awJ (v:Int):(mW v).1=0∨(mW v).1=1:=by
 unfold mW;repeat' split
 all_goals simp
theorem aqF {t:Tm}{ks:List Int}{k:Int}(hl:ks.length=t.args.length)(jm:∀x,x∈ks→x=0∨x=1)(h:xL t ks=(k,0)):Node ks t k:=by
 unfold xL at h;split at h
 ·injection h with _ h;cases h
 rename_i bR;split at h
 ·rename_i h3;unfold ER at h;split at h
  ·injection h with _ h;cases h
  rename_i YY;have ha:t.args=[]:=Mp (by omega);split at h
  ·rename_i h0;split at h
   ·injection h with _ h;cases h
   ·rename_i hc;injection h with h _
    subst h;refine .int h0 ha ?_;unfold pW at hc;omega
  split at h
  ·rename_i h0;split at h
   ·injection h with _ h;cases h
   ·rename_i hc;injection h with h _
    subst h;exact .bool h0 ha (by omega)
  split at h
  ·injection h with _ h;cases h
  ·rename_i g0 g1 hc;injection h with h _
   subst h;refine .var (by omega) ha ?_;unfold mW at hc;split at hc
   ·simp at hc
   ·omega
 rename_i h3;split at h
 ·injection h with _ h;cases h
 rename_i hlen;have oB:ks.length=(eY t.op).1.length:=by
  refine v7 fun hh=>hlen (.inl hh)
 split at h
 ·injection h with _ h;cases h
 rename_i aD;have jX:∀j,j<(eY t.op).1.length→oJ (eY t.op).1 ks j=true:=yT.1 (by simpa using aD)
 have two:∀{n:Nat},ks.length=2→∃a b,ks=[a,b]:=fun h=>by
  match ks,h with
  |[a,b],_=>exact⟨a,b,rfl⟩
 by_cases o3:t.op=3
 ·have e:eY t.op=([1],1):=by simp[eY,o3]
  rw[e] at oB jX h
  match ks,oB with
  |[a],_=>
   have:=jX 0 (by simp);simp[oJ] at this;simp at h;subst h this;exact .not o3 rfl
 by_cases Kr:t.op=4∨t.op=5
 ·have e:eY t.op=([1,1],1):=by simp[eY,o3,Kr]
  rw[e] at oB jX h
  match ks,oB with
  |[a,b],_=>
   have t1:=jX 0 (by simp);have t2:=jX 1 (by simp);simp[oJ] at t1 t2;simp at h;subst h t1 t2;exact .log Kr rfl
 by_cases o6:t.op=6
 ·have e:eY t.op=([1,-1,-1],-1):=by simp[eY,o6]
  rw[e] at oB jX h
  match ks,oB,jm with
  |[a,b,c],_,jm=>
   have t1:=jX 0 (by simp);have t3:=jX 2 (by simp);have hb:=jm b (by simp);have ru:¬b=-1:=by omega
   simp[oJ] at t1;simp[oJ,nC,ru] at t3;simp[nC,ru] at h;subst h t1 t3;exact .ite _ o6 rfl
 by_cases o7:t.op=7
 ·have e:eY t.op=([0,0],1):=by simp[eY,o7]
  rw[e] at oB jX h
  match ks,oB with
  |[a,b],_=>
   have t1:=jX 0 (by simp);have t2:=jX 1 (by simp);simp[oJ] at t1 t2;simp at h;subst h t1 t2;exact .less o7 rfl
 by_cases o8:t.op=8
 ·have e:eY t.op=([-1,-1],1):=by simp[eY,o8]
  rw[e] at oB jX h
  match ks,oB,jm with
  |[a,b],_,jm=>
   have t2:=jX 1 (by simp);have ha:=jm a (by simp);have han:¬a=-1:=by omega
   simp[oJ,nC,han] at t2;simp at h;subst h t2;exact .equal _ o8 rfl
 have e:eY t.op=([0,0],0):=by simp[eY,o3,Kr,o6,o7,o8]
 rw[e] at oB jX h
 match ks,oB with
 |[a,b],_=>
  have t1:=jX 0 (by simp);have t2:=jX 1 (by simp);simp[oJ] at t1 t2;simp at h;subst h t1 t2;exact .num (by omega) rfl
theorem NU:∀{L:Nat} {t:Tm} {k:Int},cA (L+1) t=(k,0)→Node (t.args.map fun a=>(cA L a).1) t k∧(k=0∨k=1)
 |L,t,k,h=>by
  obtain⟨h1,h2⟩:=NT h
  have jm:∀x,x∈(t.args.map fun a=>(cA L a).1)→x=0∨x=1:=by
   intro x hx;obtain⟨a,ha,rfl⟩:=dJ.1 hx;cases L with
   |zero=>exact .inl rfl
   |succ L=>exact(NU (L:=L) (t:=a) (k:=(cA (L+1) a).1) (by rw[←h1 a ha])).2
  have hn:=aqF (by simp) jm h2;refine⟨hn,?_⟩;cases hn with
  |int=>simp
  |bool=>simp
  |var=>exact awJ _
  |not=>simp
  |log=>simp
  |ite k _ hk=>exact jm k (by rw[hk];simp)
  |less=>simp
  |equal=>simp
  |num=>simp
end Rm
namespace Rm
open Go Go.Proofs Cx
def wk (k:Int)(c:Cell):Prop:=(c.known=false→c=eA)∧(c.known=true→(k=1→c.n=0∨c.n=1)∧(k=0→-1099511627776≤c.n∧c.n≤1099511627776))
theorem vH (k:Int):wk k eA:=⟨fun _=>rfl,fun h=>by cases h⟩
theorem B2 (b:Bool):wk 1 (gS b):=⟨fun h=>(by cases b<;>cases h),fun _=>⟨fun _=>(by cases b<;>simp[gS]),fun h=>by cases h⟩⟩
theorem NZ (n:Int):-1099511627776≤pW n∧pW n≤1099511627776:=by unfold pW;omega
theorem as4 (cs:List Cell)(v:Int)(hv:0≤v∧v≤19):wk (mW v).1 (l8 cs v):=by
 unfold l8;split
 ·exact vH _
 ·split
  ·rename_i h;rw[h];exact B2 _
  ·rename_i h;refine⟨fun h=>(by cases h),fun _=>⟨fun h'=>absurd h' h,fun _=>NZ _⟩⟩
theorem ar0 (a b:Int):-1099511627776≤Bx a b∧Bx a b≤1099511627776:=by
 unfold Bx;have:=adF (a.natAbs*b.natAbs);split<;>omega
theorem agW (op a b:Int)(ha:-1099511627776≤a∧a≤1099511627776)(hb:-1099511627776≤b∧b≤1099511627776):-1099511627776≤yV op a b∧yV op a b≤1099511627776:=by
 unfold yV;split
 ·exact NZ _
 split
 ·exact NZ _
 split
 ·exact ar0 _ _
 split<;>omega
theorem aqf {α β:Type}{f:α→β}{l:List α}{x:β}(h:l.map f=[x]):∃a,l=[a]∧f a=x:=by
 match l,h with
 |[a],h=>exact⟨a,rfl,by simpa using h⟩
theorem A6 {α β:Type}{f:α→β}{l:List α}{x y:β}(h:l.map f=[x,y]):∃a b,l=[a,b]∧f a=x∧f b=y:=by
 match l,h with
 |[a,b],h=>exact⟨a,b,rfl,by simpa using h⟩
theorem Qw {α β:Type}{f:α→β}{l:List α}{x y z:β}(h:l.map f=[x,y,z]):∃a b c,l=[a,b,c]∧f a=x∧f b=y∧f c=z:=by
 match l,h with
 |[a,b,c],h=>exact⟨a,b,c,rfl,by simpa using h⟩
theorem Yh:∀{L:Nat} {t:Tm} {k:Int} (cs:List Cell),cA L t=(k,0)→wk k (bQ L cs t)
 |0,t,k,cs,h=>vH _
 |L+1,t,k,cs,h=>by
  obtain⟨hn,hk⟩:=NU h;obtain⟨ha,_⟩:=NT h;have ih:∀a,a∈t.args→wk (cA L a).1 (bQ L cs a):=fun a hm=>Yh cs (show cA L a=((cA L a).1,0) by rw[←ha a hm]);rw[IU];cases hn with
  |int h0 ha hn=>rw[if_pos (.inl h0)];exact⟨fun h=>(by cases h),fun _=>⟨fun h=>(by cases h),fun _=>hn⟩⟩
  |bool h0 ha hn=>rw[if_pos (.inr h0)];exact⟨fun h=>(by cases h),fun _=>⟨fun _=>hn,fun h=>by cases h⟩⟩
  |var h0 ha hn=>rw[if_neg (by omega),if_pos h0];exact as4 cs _ hn
  |not h0 hk=>
   rw[if_neg (by omega),if_neg (by omega),if_neg (by omega)];unfold gX;rw[if_pos h0];split
   ·exact B2 _
   ·exact vH _
  |log h0 hk=>
   rw[if_neg (by omega),if_neg (by omega),if_neg (by omega)];unfold gX;rw[if_neg (by omega)];split
   ·exact B2 _
   rw[if_neg (by omega)];split
   ·exact vH _
   exact B2 _
  |ite k h0 ct=>
   obtain⟨a,b,c,hl,e1,e2,e3⟩:=Qw ct;rw[hl] at ih ⊢;have r1:=ih a (by simp);have r2:=ih b (by simp);have r3:=ih c (by simp);rw[e1] at r1;rw[e2] at r2;rw[e3] at r3;rw[if_neg (by omega),if_neg (by omega)];simp only[gU,G3,bt,ux];split
   ·rename_i hh;rcases(r1.2 hh.2).1 rfl with h1|h1<;>rw[h1]
    ·exact r3
    ·exact r2
   ·unfold gX;rw[if_neg (by omega),if_neg (by omega),if_pos h0];simp only[bt,ux,Cs];split
    ·exact r2
    ·exact vH _
  |less h0 hk=>
   rw[if_neg (by omega),if_neg (by omega),if_neg (by omega)];unfold gX;rw[if_neg (by omega),if_neg (by omega),if_neg (by omega)];split
   ·exact vH _
   repeat' split
   all_goals exact B2 _
  |equal k h0 hk=>
   rw[if_neg (by omega),if_neg (by omega),if_neg (by omega)];unfold gX;rw[if_neg (by omega),if_neg (by omega),if_neg (by omega)];split
   ·exact vH _
   repeat' split
   all_goals exact B2 _
  |num h0 ct=>
   obtain⟨a,b,hl,e1,e2⟩:=A6 ct;rw[hl] at ih ⊢;have r1:=ih a (by simp);have r2:=ih b (by simp);rw[e1] at r1;rw[e2] at r2;rw[if_neg (by omega),if_neg (by omega),if_neg (by omega)];unfold gX;rw[if_neg (by omega),if_neg (by omega),if_neg (by omega)];simp only[gU,G3,bt,ux,Cs];split
   ·exact vH _
   rename_i Ef;rw[if_neg (by omega),if_neg (by omega),if_neg (by omega)];have k1:(bQ L cs a).known=true:=by
    cases e:(bQ L cs a).known with
    |true=>rfl
    |false=>exact absurd (.inl e) Ef
   have k2:(bQ L cs b).known=true:=by
    cases e:(bQ L cs b).known with
    |true=>rfl
    |false=>exact absurd (.inr e) Ef
   exact⟨fun h=>(by cases h),fun _=>⟨fun h=>(by cases h),fun _=>agW _ _ _ ((r1.2 k1).2 rfl) ((r2.2 k2).2 rfl)⟩⟩
theorem abE:∀(L:Nat) (cs:List Cell) (t:Tm),cQ L t≤60→((eh L cs t).length:Int)≤cQ L t
 |0,cs,t,h=>by simp[cQ] at h
 |L+1,cs,t,h=>by
  have h1:=xJ (L+1) t;obtain⟨hl,hp⟩:=Qy h;have hs:∀(l:List Tm) (n:Int),(∀a,a∈l→cQ L a≤60)→fS (cQ L) l n≤60→((l.map (eh L cs)).flatten.length:Int)+n≤fS (cQ L) l n∧∀j,(((l.map (eh L cs)).getD j []).length:Int)+n≤fS (cQ L) l n:=by
   intro l
   induction l with
   |nil=>intro n _ _;simp[fS]
   |cons a l ih=>
    intro n hp hm;have ha:=abE L cs a (hp a (by simp));unfold fS at hm ⊢;split at hm
    ·omega
    ·rename_i h60;rw[if_neg h60];obtain⟨i1,i2⟩:=ih (n+cQ L a) (fun b hb=>hp b (by simp[hb])) hm;refine⟨by rw[gU,WT,kg];omega,fun j=>?_⟩;cases j with
     |zero=>simp;omega
     |succ j=>have:=i2 j;simp at this ⊢;omega
  obtain⟨nw,eI⟩:=hs t.args 1 hp h;rw[Km];split
  ·simp;omega
  split
  ·split<;>simp<;>omega
  split
  ·have:=eI (2-(bt (t.args.map (bQ L cs)) 0).n).toNat;show _≤fS _ _ _;omega
  split
  ·simp;omega
  ·show _≤fS _ _ _;omega
@[simp] theorem aEb (x y:List Int):vP (ints x) 0 (ints y)=ints y:=_root_.id rfl
@[simp] theorem atv (x y:Cell):vP (cZ x) 0 (cZ y)=cZ y:=_root_.id rfl
@[simp] theorem aCA (a b:List Int):D.list (a.map D.int++b.map D.int)=ints (a++b):=by simp[ints]
def lists (l:List (List Int)):D:=.list (l.map ints)
@[simp] theorem aCM (l:List (List Int)):(lists l).l=l.map ints:=_root_.id rfl
theorem af3 (l:List (List Int))(hl:l.length≤1000)(hs:l.flatten.length≤1000000):ao T 150 [lists l] (ints l.flatten):=by
 refine .of_tree rfl (lA 89 (by kernel_rfl)) avM ?_;simp[Vs];have hb:∀k,(l.take k).flatten.length≤l.flatten.length:=by
  intro k
  conv=>rhs;rw[←My k l]
  rw[List.flatten_append,kg];omega
 have bx:∀k (hk:k<l.length),(l.take (k+1)).flatten=(l.take k).flatten++l[k]:=fun k hk=>by
  rw[ki hk,List.flatten_append];simp
 refine aN.forRounds l.length (fun k=>[.int ((l.take k).flatten.length:Nat),.int k]) (fun k=>[]) ?_ (fun k hk=>?_) ?_
 ·simp
 ·have hw:=bk hk (by omega);have h1:=bx k hk;have h2:=hb (k+1);rw[h1] at h2 ⊢;rw[kg] at h2 ⊢;generalize (l.take k).flatten.length=m at*;have tG:IntKind.i64.wrap ((m:Int)+(l[k].length:Int))=(m:Int)+l[k].length:=bU (by omega);have xh:¬((m:Int)+l[k].length<0):=by omega
  simp[aeI,Lx,hk,hw,tG,xh]
 ·simp[aeI,Lx];have Zy:ao T 164 [.list [],.int (l.flatten.length:Nat)] (.list []):=by
   refine .of_ext (g:=fun _ ds=>I5 ds) rfl ⟨0,fun _ _=>?_⟩;show(if(0:Int)≤(l.flatten.length:Nat)∧((l.flatten.length:Nat):Int)≤4294967296 then some (D.list []) else none)=some (D.list []);rw[if_pos (by omega)]
  rw[List.length_flatten] at Zy;refine⟨_,Zy,?_⟩;refine aN.forRounds l.length (fun k=>[.none,.int k]) (fun k=>[ints (l.take k).flatten]) ?_ (fun k hk=>?_) ?_
  ·simp[ints]
  ·have hw:=bk hk (by omega);have h1:=bx k hk;have h2:=hb (k+1);rw[h1] at h2 ⊢;rw[kg] at h2;generalize (l.take k).flatten=m at*;simp[aeJ,Ly,hk,hw];omega
  ·simp[aeJ,Ly]
theorem ahS {op:Int}{l:List Cell}(h:(gX op l).known=false):gX op l=eA:=by
 have hy:∀b,(gS b).known=true:=fun b=>by cases b<;>simp[gS]
 unfold gX at h ⊢;split<;>rename_i c1
 ·rw[if_pos c1] at h;split<;>rename_i c2
  ·rw[if_pos c2,hy] at h;cases h
  ·rfl
 rw[if_neg c1] at h;split<;>rename_i c2
 ·rw[if_pos c2,hy] at h;cases h
 rw[if_neg c2] at h;split<;>rename_i c3
 ·rw[if_pos c3] at h;split<;>rename_i c4
  ·rw[if_pos c4,c4.1] at h;cases h
  ·rfl
 rw[if_neg c3] at h;split<;>rename_i c4
 ·rfl
 rw[if_neg c4] at h
 repeat' split at h
 all_goals first|(rw[hy] at h;cases h)|cases h
theorem afF:∀(L:Nat) (cs:List Cell) (t:Tm) (k:Int),t.OK→cQ L t≤60→cA L t=(k,0)→ao T 134 [N8 cs,dL t] (.tup [cZ (bQ L cs t),ints (eh L cs t)])
 |0,cs,t,k,ht,hm,hc=>by simp[cQ] at hm
 |L+1,cs,t,k,ht,hm,hc=>by
  refine .of_tree rfl (lA 82 (by kernel_rfl)) awd ?_;obtain⟨hl,hp⟩:=Qy hm;obtain⟨ha,_⟩:=NT hc;obtain⟨hn,aCa⟩:=NU hc;have iT:∀a,a∈t.args→ao T 134 [N8 cs,dL a] (.tup [cZ (bQ L cs a),ints (eh L cs a)]):=fun a fm=>afF L cs a (cA L a).1 (ht.arg fm) (hp a fm) (by rw[←ha a fm]);have EA:∀a,a∈t.args→wk (cA L a).1 (bQ L cs a):=fun a fm=>Yh cs (show cA L a=((cA L a).1,0) by rw[←ha a fm]);have ZT:∀a,a∈t.args→(eh L cs a).length≤60:=fun a fm=>by have:=abE L cs a (hp a fm);have:=hp a fm;omega
  by_cases jm:t.op=0∨t.op=1
  ·
   have e1:bQ (L+1) cs t=⟨true,t.n⟩:=by rw[IU,if_pos jm]
   have e2:eh (L+1) cs t=[]:=by rw[Km,if_pos jm]
   rw[e1,e2];rcases jm with h|h<;>simp[GJ,h]<;>exact⟨rfl,rfl⟩
  have o0:t.op≠0:=fun h=>jm (.inl h);have o1:t.op≠1:=fun h=>jm (.inr h);by_cases o2:t.op=2
  ·have hv:0≤t.n:=by
    cases hn with
    |var h0 ha hn=>exact hn.1
    |_=>omega
   have e1:bQ (L+1) cs t=l8 cs t.n:=by rw[IU,if_neg jm,if_pos o2]
   have e2:eh (L+1) cs t=if(l8 cs t.n).known=true then[] else[t.n]:=by rw[Km,if_neg jm,if_pos o2]
   rw[e1,e2];simp[GJ,o2];refine⟨_,atY cs t.n hv,?_⟩;cases e:(l8 cs t.n).known
   ·have:l8 cs t.n=eA:=by
     unfold l8 at e ⊢;split
     ·rfl
     ·rename_i h;rw[if_neg h] at e;split at e
      ·cases hb:decide ((cellAt cs t.n).n≠0)<;>rw[hb] at e<;>cases e
      ·cases e
    rw[this];simp[ints]
   ·have h:l8 cs t.n=⟨true,(l8 cs t.n).n⟩:=by rw[←e]
    rw[h];simp[ints]
    try rfl
  have hlen:1≤t.args.length∧(t.op≠3→2≤t.args.length)∧(t.op=6→3≤t.args.length):=by
   cases hn with
   |int h0 ha hn=>omega
   |bool h0 ha hn=>omega
   |var h0 ha hn=>omega
   |not h0 hk=>obtain⟨a,hl,_⟩:=aqf hk;rw[hl];simp;omega
   |log h0 hk=>obtain⟨a,b,hl,_⟩:=A6 hk;rw[hl];simp;omega
   |ite k h0 hk=>obtain⟨a,b,c,hl,_⟩:=Qw hk;rw[hl];simp
   |less h0 hk=>obtain⟨a,b,hl,_⟩:=A6 hk;rw[hl];simp;omega
   |equal k h0 hk=>obtain⟨a,b,hl,_⟩:=A6 hk;rw[hl];simp;omega
   |num h0 hk=>obtain⟨a,b,hl,_⟩:=A6 hk;rw[hl];simp;omega
  have hb9:9≤t.op→(-1099511627776≤(bt (t.args.map (bQ L cs)) 0).n∧(bt (t.args.map (bQ L cs)) 0).n≤1099511627776)∧(-1099511627776≤(bt (t.args.map (bQ L cs)) 1).n∧(bt (t.args.map (bQ L cs)) 1).n≤1099511627776):=by
   intro h9;have rb:∀c:Cell,wk 0 c→-1099511627776≤c.n∧c.n≤1099511627776:=by
    intro c hr;cases e:c.known with
    |false=>rw[hr.1 e];simp
    |true=>exact(hr.2 e).2 rfl
   cases hn with
   |num h0 hk=>
    obtain⟨a,b,hl,ea,eb⟩:=A6 hk;rw[hl] at EA ⊢;have r1:=EA a (by simp);have r2:=EA b (by simp);rw[ea] at r1;rw[eb] at r2;exact⟨rb _ r1,rb _ r2⟩
   |log h0 hk=>omega
   |_=>omega
  have h6:t.op=6→(bt (t.args.map (bQ L cs)) 0).known=true→(bt (t.args.map (bQ L cs)) 0).n=0∨(bt (t.args.map (bQ L cs)) 0).n=1:=by
   intro o6 Ef;cases hn with
   |ite k h0 hk=>
    obtain⟨a,b,c,hl,ea,_⟩:=Qw hk;rw[hl] at EA Ef ⊢;have r1:=EA a (by simp);rw[ea] at r1;exact(r1.2 Ef).1 rfl
   |log h0 hk=>omega
   |num h0 hk=>omega
   |_=>omega
  have bR:t.op<3∨8<t.op→9≤t.op:=by
   cases hn with
   |log h0 hk=>omega
   |num h0 hk=>omega
   |_=>omega
  have e1:bQ (L+1) cs t=if t.op=6∧(bt (t.args.map (bQ L cs)) 0).known=true then bt (t.args.map (bQ L cs)) (2-(bt (t.args.map (bQ L cs)) 0).n).toNat else gX t.op (t.args.map (bQ L cs)):=by
   rw[IU,if_neg jm,if_neg o2]
  have e2:eh (L+1) cs t=if t.op=6∧(bt (t.args.map (bQ L cs)) 0).known=true then(t.args.map (eh L cs)).getD (2-(bt (t.args.map (bQ L cs)) 0).n).toNat [] else if(gX t.op (t.args.map (bQ L cs))).known=true then[] else(t.args.map (eh L cs)).flatten:=by
   rw[Km,if_neg jm,if_neg o2]
  rw[e1,e2];simp[GJ,o0,o1,o2];refine⟨by omega,?_⟩;refine aN.forRounds t.args.length (fun k=>[.int k]) (fun k=>[cells ((t.args.map (bQ L cs)).take k++List.replicate (t.args.length-k) eA),lists ((t.args.map (eh L cs)).take k++List.replicate (t.args.length-k) [])]) ?_ (fun k hk=>?_) ?_
  ·simp[cells,lists,ints]
  ·have hw:=bk hk (by omega);have cP:=dq hk;have hr:=iT _ cP;have s1:=TB (t.args.map (bQ L cs)) eA (n:=t.args.length) (by simp) hk;have s2:=TB (t.args.map (eh L cs)) [] (n:=t.args.length) (by simp) hk;rw[←s1,←s2];have l1:((t.args.map (bQ L cs)).take k++List.replicate (t.args.length-k) eA).length=t.args.length:=by simp;omega
   have l2:((t.args.map (eh L cs)).take k++List.replicate (t.args.length-k) []).length=t.args.length:=by simp;omega
   have g1:(t.args.map (bQ L cs))[k]'(by simpa using hk)=bQ L cs t.args[k]:=by simp
   have g2:(t.args.map (eh L cs))[k]'(by simpa using hk)=eh L cs t.args[k]:=by simp
   rw[g1,g2];generalize (t.args.map (bQ L cs)).take k++List.replicate (t.args.length-k) eA=A at*;generalize (t.args.map (eh L cs)).take k++List.replicate (t.args.length-k) []=B at*;generalize bQ L cs t.args[k]=c at*;generalize eh L cs t.args[k]=d at*;simp[Th,Gi,hk];refine⟨_,hr,?_⟩;simp[hw,hk,l1,l2,cells,lists]
  ·have hA:(t.args.map (bQ L cs)).take t.args.length++List.replicate (t.args.length-t.args.length) eA=t.args.map (bQ L cs):=by rw[MB,List.replicate_zero,lx,wg (by simp)]
   have hB:(t.args.map (eh L cs)).take t.args.length++List.replicate (t.args.length-t.args.length) []=t.args.map (eh L cs):=by rw[MB,List.replicate_zero,lx,wg (by simp)]
   have lA:(t.args.map (bQ L cs)).length=t.args.length:=by simp
   have lB:(t.args.map (eh L cs)).length=t.args.length:=by simp
   have jS:∀l:List Tm,(∀a,a∈l→a∈t.args)→((l.map (eh L cs)).flatten.length≤l.length*60):=by
    intro l
    induction l with
    |nil=>intro _;simp
    |cons a l ih=>
     intro h;have h1:=ZT a (h a (by simp));have h2:=ih (fun b hb=>h b (by simp[hb]));rw[gU,WT,kg,nZ];omega
   have jS:=jS t.args (fun a h=>h);have hBg:∀m:Nat,(Option.map (eh L cs) t.args[m]?).getD []=(t.args.map (eh L cs)).getD m []:=fun m=>by simp[aJ]
   rw[hA,hB];generalize t.args.map (bQ L cs)=A at*;generalize t.args.map (eh L cs)=B at*;have g0:0<A.length:=by omega
   have wM:A[0]=bt A 0:=by simp[bt,g0]
   by_cases Jd:t.op=6∧(bt A 0).known=true
   ·obtain⟨o6,kn⟩:=Jd;have hv:=h6 o6 kn;have hw:IntKind.i64.wrap (2-(bt A 0).n)=2-(bt A 0).n:=bU (by omega);have h3:3≤t.args.length:=hlen.2.2 o6;rw[if_pos ⟨o6,kn⟩,if_pos ⟨o6,kn⟩];obtain⟨m,fm⟩:∃m:Nat,m=(2-(bt A 0).n).toNat:=⟨_,rfl⟩
    have Ek:m<A.length:=by omega
    have O9:m<B.length:=by omega
    simp[Th,Gi,o6,kn,g0,wM,hw,←fm,Ek,O9,cells,lists];refine⟨by omega,by omega,by simp[bt,Ek],?_⟩;rw[hBg,aJ,bF O9];rfl
   ·rw[if_neg Jd,if_neg Jd];have alQ:=atU t.op A (by omega) (by omega) (by omega) hb9 bR;have alS:=af3 B (by omega) (by omega);simp[Th,Gi,g0,wM];rw[if_neg Jd];refine⟨_,alQ,?_⟩;cases e:(gX t.op A).known
    ·have dD:gX t.op A=eA:=ahS e;rw[dD];simp;exact alS
    ·have h:gX t.op A=⟨true,(gX t.op A).n⟩:=by rw[←e]
     rw[h];simp[ints]
     try rfl
end Rm
namespace Rm
open Go Go.Proofs Cx
def mE (n:Nat)(g:Nat→Bool):Int:=if(List.range n).findIdx g<n then((List.range n).findIdx g:Nat) else-1
theorem EN (n:Nat)(g:Nat→Bool):(mE n g=-1∧∀k,k<n→g k=false)∨∃k:Nat,k<n∧mE n g=k∧g k=true∧∀i,i<k→g i=false:=by
 unfold mE;split
 ·rename_i h;refine .inr ⟨_,h,rfl,?_,fun i hi=>?_⟩
  ·have:=List.findIdx_getElem (p:=g) (xs:=List.range n) (w:=by simpa using h);simpa using this
  ·have:=List.not_of_lt_findIdx (p:=g) (xs:=List.range n) hi;simpa using this
 ·rename_i h;refine .inl ⟨rfl,fun k hk=>?_⟩;have:=List.not_of_lt_findIdx (p:=g) (xs:=List.range n) (i:=k) (by omega);simpa using this
theorem J4 {n:Nat}{g:Nat→Bool}(h:∀k,k<n→g k=false):mE n g=-1:=by
 rcases EN n g with⟨h1,_⟩|⟨k,hk,_,h2,_⟩
 ·exact h1
 ·rw[h k hk] at h2;cases h2
theorem J5 {n k:Nat}{g:Nat→Bool}(hk:k<n)(h:g k=true)(hj:∀i,i<k→g i=false):mE n g=k:=by
 rcases EN n g with⟨_,h1⟩|⟨m,hm,h1,h2,h3⟩
 ·rw[h1 k hk] at h;cases h
 ·rcases Nat.lt_trichotomy m k with h4|h4|h4
  ·rw[hj m h4] at h2;cases h2
  ·rw[h1,h4]
  ·rw[h3 k h4] at h;cases h
theorem Qg (n:Nat)(g:Nat→Bool):decide (0≤mE n g)=(List.range n).any g:=by
 rcases EN n g with⟨h1,h2⟩|⟨m,hm,h1,h2,h3⟩
 ·rw[h1]
  symm
  simp;exact h2
 ·rw[h1];simp;exact⟨m,hm,h2⟩
theorem agc (l:List Rule)(f:Nat)(caps:List D)(g:Nat→Bool)(hg:∀k (hk:k<l.length),ao T f (td l[k]::caps) (.bool (g k)))(hl:l.length≤4294967296):
 ao T 131 [rules l,.clo f caps] (.int (mE l.length g)):=by
 refine .of_tree rfl (lA 73 (by kernel_rfl)) avU ?_;simp[VA];refine .scan l.length (fun k=>g k=false) (fun k=>[.int 0,.int k]) (fun _=>[]) ?_ (fun k hk hj ho=>?_) (fun k hk hj ho=>?_) (fun hj=>?_)
 ·simp
 ·have hw:=bk hk hl;simp[Tb,Gc,hk,hw];refine⟨_,_,⟨rfl,rfl⟩,_,hg k hk,?_⟩;simp[ho,hw]
 ·have he:=J5 hk (by simpa using ho) hj;simp[Tb,Gc,hk,he];refine⟨_,_,⟨rfl,rfl⟩,_,hg k hk,?_⟩;simp[ho]
 ·have he:=J4 hj;simp[Tb,Gc,he]
theorem agd (l:List Int)(f:Nat)(caps:List D)(g:Nat→Bool)(hg:∀k (hk:k<l.length),ao T f (.int l[k]::caps) (.bool (g k)))(hl:l.length≤4294967296):
 ao T 157 [ints l,.clo f caps] (.int (mE l.length g)):=by
 refine .of_tree rfl (lA 68 (by kernel_rfl)) avV ?_;simp[VB];refine .scan l.length (fun k=>g k=false) (fun k=>[.int 0,.int k]) (fun _=>[]) ?_ (fun k hk hj ho=>?_) (fun k hk hj ho=>?_) (fun hj=>?_)
 ·simp
 ·have hw:=bk hk hl;simp[Tc,Gd,hk,hw,ints];refine⟨_,_,⟨rfl,rfl⟩,_,hg k hk,?_⟩;simp[ho,hw]
 ·have he:=J5 hk (by simpa using ho) hj;simp[Tc,Gd,hk,he,ints];refine⟨_,_,⟨rfl,rfl⟩,_,hg k hk,?_⟩;simp[ho]
 ·have he:=J4 hj;simp[Tc,Gd,he,ints]
theorem aga (l:List Alter)(f:Nat)(caps:List D)(g:Nat→Bool)(hg:∀k (hk:k<l.length),ao T f (p5 l[k]::caps) (.bool (g k)))(hl:l.length≤4294967296):
 ao T 156 [alters l,.clo f caps] (.int (mE l.length g)):=by
 refine .of_tree rfl (lA 59 (by kernel_rfl)) avS ?_;simp[Vy];refine .scan l.length (fun k=>g k=false) (fun k=>[.int 0,.int k]) (fun _=>[]) ?_ (fun k hk hj ho=>?_) (fun k hk hj ho=>?_) (fun hj=>?_)
 ·simp
 ·have hw:=bk hk hl;simp[S9,Ga,hk,hw];refine⟨_,_,⟨rfl,rfl⟩,_,hg k hk,?_⟩;simp[ho,hw]
 ·have he:=J5 hk (by simpa using ho) hj;simp[S9,Ga,hk,he];refine⟨_,_,⟨rfl,rfl⟩,_,hg k hk,?_⟩;simp[ho]
 ·have he:=J4 hj;simp[S9,Ga,he]
theorem af6 (l:List Int)(f:Nat)(caps:List D)(g:Nat→Bool)(hg:∀k (hk:k<l.length),ao T f (.int l[k]::caps) (.bool (g k)))(hl:l.length≤4294967296):
 ao T 144 [ints l,.clo f caps] (.bool ((List.range l.length).any g)):=by
 refine .of_tree rfl (lA 67 (by kernel_rfl)) avP ?_;simp[Vv];refine⟨_,agd l f caps g hg hl,?_⟩;have:=Qg l.length g;simp[←this]
theorem af4 (l:List Alter)(f:Nat)(caps:List D)(g:Nat→Bool)(hg:∀k (hk:k<l.length),ao T f (p5 l[k]::caps) (.bool (g k)))(hl:l.length≤4294967296):
 ao T 140 [alters l,.clo f caps] (.bool ((List.range l.length).any g)):=by
 refine .of_tree rfl (lA 58 (by kernel_rfl)) avN ?_;simp[Vt];refine⟨_,aga l f caps g hg hl,?_⟩;have:=Qg l.length g;simp[←this]
def Ak (cs:List Cell)(t:Tm):Cell:=if(od t).2=0 then bQ 8 cs t else eA
theorem ahI {t:Tm}(h:(od t).2=0):cQ 8 t≤60∧cA 8 t=((od t).1,0):=by
 unfold od at h ⊢;split at h
 ·cases h
 ·rename_i hm;rw[if_neg hm];exact⟨by omega,by rw[←h]⟩
theorem atQ (t:Tm)(cs:List Cell)(ht:t.OK):ao T 105 [dL t,cells cs] (cZ (Ak cs t)):=by
 refine .of_tree rfl (lA 81 (by kernel_rfl)) av6 ?_;simp[VM,Ak];refine⟨_,afD t ht,?_⟩;by_cases h:(od t).2=0
 ·obtain⟨h1,h2⟩:=ahI h;simp[h];refine⟨_,afF 8 cs t _ ht h1 h2,?_⟩;simp
  try rfl
 ·simp[h]
  try rfl
def QG:List Int:=[6,7,10,12,13,14,15,16,20,21]
def l6 (ask:Int):Int×Bool:=if ask<0∨22≤ask then(0,false) else if hasB QG ask then(0,true) else(1,true)
theorem Rv (ask:Int):ao T 101 [.int ask] (.tup [.int (l6 ask).1,.bool (l6 ask).2]):=by
 refine .of_tree rfl (lA 63 (by kernel_rfl)) auR ?_;simp[Uy,l6];by_cases h0:ask<0
 ·simp[h0]
 by_cases h1:22≤ask
 ·simp[h0,h1]
 simp[h0,h1];refine⟨_,uu QG ask (by decide),?_⟩;cases h:hasB QG ask<;>simp[h]
def Ko:Tm:=⟨0,0,[]⟩
def vI (o:Order)(ask:Int)(k:Nat):Bool:=decide ((o.rules.getD k default).ask=ask)
def Gt (o:Order)(i:Int):Tm:=(o.rules.getD i.toNat default).term
def findF (o:Order)(ask:Int):Tm×Int:=
 if(l6 ask).2=false then(Ko,1) else if mE o.rules.length (vI o ask)<0 then(Ko,4) else
    if(od (Gt o (mE o.rules.length (vI o ask)))).2≠0∨(od (Gt o (mE o.rules.length (vI o ask)))).1≠(l6 ask).1 then(Ko,11) else(Gt o (mE o.rules.length (vI o ask)),0)
theorem afa {o:Order}(ho:o.OK){m:Nat}(hm:m<o.rules.length):o.rules[m].term.OK:=(ho.2.2 _ (dq hm)).2
theorem QF:Ko.OK:=by
 exact .mk 0 0 [] (by unfold aQ;omega) (by unfold aQ;omega) (by decide) (fun _ h=>by cases h)
theorem ajv {o:Order}(ho:o.OK)(ask:Int):(findF o ask).1.OK:=by
 unfold findF;split
 ·exact QF
 split
 ·exact QF
 split
 ·exact QF
 ·rename_i h _;rcases EN o.rules.length (vI o ask) with⟨h1,h2⟩|⟨m,hm,h1,h2,h3⟩
  ·exact absurd (by rw[h1];decide) h
  ·rw[h1];simp[Gt,hm];exact afa ho hm
theorem ajt (r:Rule)(ask:Int):ao T 132 [td r,.ref (.int ask)] (.bool (decide (r.ask=ask))):=by
 refine .of_tree rfl (lA 72 (by kernel_rfl)) auS ?_;simp[UA]
theorem ary (o:Order)(ask:Int)(ho:o.OK)(hl:o.rules.length≤4294967296):ao T 104 [jN o,.int ask] (.tup [dL (findF o ask).1,.int (findF o ask).2]):=by
 refine .of_tree rfl (lA 71 (by kernel_rfl)) auT ?_;simp[Uz,findF];refine⟨_,Rv ask,?_⟩;cases h0:(l6 ask).2
 ·simp[h0]
  try rfl
 simp[h0];refine⟨_,agc o.rules 132 [.ref (.int ask)] (vI o ask) (fun k hk=>by simpa [vI,hk] using ajt o.rules[k] ask) hl,?_⟩;rcases EN o.rules.length (vI o ask) with⟨h1,h2⟩|⟨m,hm,h1,h2,h3⟩
 ·rw[h1];simp
  try rfl
 ·rw[h1];have xh:¬((m:Int)<0):=by omega
  have htm:o.rules[m].term.OK:=afa ho hm;simp[hm,Gt,xh];refine⟨_,afD _ htm,?_⟩;by_cases h4:(od o.rules[m].term).2=0<;>by_cases h5:(od o.rules[m].term).1=(l6 ask).1<;>simp[h4,h5]<;>try rfl
def q8 (o:Order)(ask:Int)(cs:List Cell):Cell×Int:=
 if(findF o ask).2≠0 then(eA,(findF o ask).2) else
    (if(l6 ask).1=0∧(Ak cs (findF o ask).1).known=true then⟨true,min (max (Ak cs (findF o ask).1).n 0) 20000⟩ else Ak cs (findF o ask).1,0)
theorem arw (o:Order)(ask:Int)(cs:List Cell)(ho:o.OK)(hl:o.rules.length≤4294967296):ao T 84 [jN o,.int ask,cells cs] (.tup [cZ (q8 o ask cs).1,.int (q8 o ask cs).2]):=by
 refine .of_tree rfl (lA 70 (by kernel_rfl)) auQ ?_;simp[Ux];refine⟨_,ary o ask ho hl,?_⟩;have hf:(findF o ask).1.OK:=ajv ho ask;by_cases h:(findF o ask).2=0
 ·simp[h,q8];refine⟨_,atQ _ cs hf,_,Rv ask,?_⟩;generalize Ak cs (findF o ask).1=c;obtain⟨kn,n⟩:=c;by_cases h1:(l6 ask).1=0
  ·cases kn
   ·simp[h1,cZ]
   ·by_cases h2:n<0
    ·have:min (max n 0) 20000=0:=by omega
     simp[h1,cZ,h2,this];rfl
    ·by_cases h3:20000<n
     ·have:min (max n 0) 20000=20000:=by omega
      simp[h1,cZ,h2,h3,this];rfl
     ·have:min (max n 0) 20000=n:=by omega
      simp[h1,cZ,h2,h3,this];rfl
  ·simp[h1,cZ]
 ·simp[h,q8]
  try rfl
end Rm
namespace Rm
open Go Go.Proofs Cx
theorem aeU (b:Bool):ao T 142 [.bool b] (cZ (gS b)):=by
 refine .of_tree rfl (lA 61 (by kernel_rfl)) avK ?_;cases b<;>simp[Vq,gS]<;>rfl
def IW (kind sign:Int)(x:Fact):Bool:=decide (x.kind=kind)&&decide (x.at_=sign)
def iM (f:File)(kind sign:Int):Cell:=match f.facts.find? (IW kind sign) with|none=>eA|some x=>gS (decide (x.n≠0))
theorem Dz {α:Type}{p:α→Bool}:∀{l:List α} {k:Nat} (hk:k<l.length),p l[k]=true→(∀j (hj:j<k),p (l[j]'(by omega))=false)→l.find? p=some l[k]
 |a::l,0,hk,h,hj=>by simp at h;simp[h]
 |a::l,k+1,hk,h,hj=>by
  have h0:=hj 0 (by omega);simp at h0;simp only[List.find?_cons,h0,List.getElem_cons_succ];exact Dz (by simpa using hk) (by simpa using h) (fun j cm=>by simpa using hj (j+1) (by omega))
theorem IY {α:Type}{p:α→Bool}{l:List α}(h:∀j (hj:j<l.length),p l[j]=false):l.find? p=none:=by
 rw[v9];intro x hx;obtain⟨j,hj,rfl⟩:=kf hx;rw[h j hj];decide
theorem Gp (f:File)(kind sign:Int)(hl:f.facts.length≤4294967296):ao T 143 [aZ f,.int kind,.int sign] (cZ (iM f kind sign)):=by
 refine .of_tree rfl (lA 62 (by kernel_rfl)) avG ?_;simp[Vn];refine .scan f.facts.length (fun k=>IW kind sign (f.facts.getD k default)=false) (fun k=>[.int k]) (fun _=>[cZ eA]) ?_ (fun k hk hj ho=>?_) (fun k hk hj ho=>?_) (fun hj=>?_)
 ·simp
 ·have hw:=bk hk hl;simp[hk,IW] at ho;by_cases h1:f.facts[k].kind=kind<;>by_cases h2:f.facts[k].at_=sign
  ·exact absurd h2 (ho h1)
  all_goals simp[S5,F7,hk,hw,h1,h2]
 ·have hw:=bk hk hl;have hf:iM f kind sign=gS (decide (f.facts[k].n≠0)):=by
   unfold iM;rw[Dz hk (by simpa [hk] using ho) (fun j cm=>by have:=hj j cm;simpa [show j<f.facts.length by omega] using this)]
  simp[hk,IW] at ho;simp[S5,F7,hk,hw,ho,hf];refine⟨_,aeU _,?_⟩;simp
  try rfl
 ·have hf:iM f kind sign=eA:=by
   unfold iM;rw[IY (fun j cm=>by have:=hj j cm;simpa [cm] using this)]
  simp[S5,F7,hf]
  try rfl
def gB (r:Realm)(c:Int):Int:=if ay c r.cities.length=true then(r.cities.getD c.toNat default).order else-1
theorem qH (r:Realm)(c:Int):ao T 128 [aW r,.int c] (.int (gB r c)):=by
 refine .of_tree rfl (lA 60 (by kernel_rfl)) avt ?_;simp[Va,gB];refine⟨_,fW c r.cities.length,?_⟩;cases h:ay c r.cities.length
 ·simp[h]
 ·simp[ay] at h;have h1:c.toNat<r.cities.length:=by omega
  simp[h,h1]
def GM (day:Int)(l:List Sign):List Sign:=l.takeWhile fun s=>decide (s.day≤day)
def Wm (day:Int)(l:List Act):List Act:=l.takeWhile fun s=>decide (s.day≤day)
def pM (n:Nat)(a:Alter):Bool:=decide (a.at_≤(n:Int))
def rn (n:Nat)(x:Fact):Bool:=ay x.at_ n
def bf (f:File)(day:Int):File:=
 ⟨f.bill,GM day f.signs,f.alters.filter (pM (GM day f.signs).length),Wm day f.acts,f.facts.filter (rn (GM day f.signs).length)⟩
theorem Cg {α:Type}(p:α→Bool):∀(l:List α),∃m,m≤l.length∧l.takeWhile p=l.take m∧(∀k (hk:k<l.length),k<m→p l[k]=true)∧(∀hk:m<l.length,p l[m]=false)
 |[]=>⟨0,by simp,by simp,fun k hk=>by simp at hk,fun hk=>by simp at hk⟩
 |a::l=>by
  by_cases h:p a=true
  ·obtain⟨m,h1,h2,h3,h4⟩:=Cg p l;refine⟨m+1,by simp;omega,by simp[h,h2],fun k hk hm=>?_,fun hk=>?_⟩
   ·cases k with
    |zero=>simpa using h
    |succ k=>simpa using h3 k (by simpa using hk) (by omega)
   ·simpa using h4 (by simpa using hk)
  ·refine⟨0,by simp,by simp[h],fun k hk hm=>by omega,fun hk=>by simpa using h⟩
theorem L4 {α:Type}(p:α→Bool)(l:List α){k:Nat}(hk:k<l.length):(l.take (k+1)).filter p=(l.take k).filter p++if p l[k] then[l[k]] else[]:=by
 rw[ki hk,yM]
 congr 1
 cases h:p l[k]<;>simp[h]
def CA (b:Bill)(w x y z:D):D:=.agg [.int b.drawer,.int b.drawee,.int b.payee,.int b.sum,.int b.currency,.int b.tenor.kind,.int b.tenor.n,.int b.tenor.unit,.int b.day,.int b.city,.int b.pay,.int b.need,.int b.rate,.int b.flags,.int b.parts,w,x,y,z]
def oC {α:Type}(l:List α):D:=match l with|[]=>.list []|_=>.none
@[simp] theorem aCo {α:Type}:oC ([]:List α)=.list []:=rfl
@[simp] theorem aCn {α:Type}(l:List α)(x:α):oC (l++[x])=.none:=by cases l<;>rfl
theorem Gn (f:File)(day:Int)(h1:f.signs.length≤4294967295)(h2:f.acts.length≤4294967295)(h3:f.alters.length≤4294967295)(h4:f.facts.length≤4294967295):ao T 13 [aZ f,.int day] (aZ (bf f day)):=by
 refine .of_tree rfl (lA 54 (by kernel_rfl)) avF ?_;simp[Vm];obtain⟨m,hm,hS,OD,wR⟩:=Cg (fun s:Sign=>decide (s.day≤day)) f.signs;obtain⟨n,hn,hA,hA1,hA2⟩:=Cg (fun s:Act=>decide (s.day≤day)) f.acts;refine aN.forRounds m (fun k=>[.int k]) (fun k=>[signs (f.signs.take k),CA f.bill (oC (f.signs.take k)) (.list []) (.list []) (.list [])]) ?_ (fun k hk=>?_) ?_
 ·simp[CA,signs]
  try rfl
 ·have bu:k<f.signs.length:=by omega
  have hw:=bk bu (by omega);have hd:=OD k bu hk;simp at hd;have ec:¬day<f.signs[k].day:=by omega
  have hle:(k:Int)+1≤4294967296:=by omega
  have ht:=ki bu;rw[ht];have hlen:(f.signs.take k).length=k:=by simp;omega
  generalize f.signs.take k=A at*;simp[SX,F3,bu,hw,ec,hlen];exact⟨hle,by simp[signs],rfl⟩
 have hSl:(f.signs.take m).length≤4294967295:=by rw[dU];omega
 have Oy:bf f day=⟨f.bill,f.signs.take m,f.alters.filter (pM (f.signs.take m).length),f.acts.take n,f.facts.filter (rn (f.signs.take m).length)⟩:=by
  unfold bf GM Wm;rw[hS,hA]
 rw[Oy];generalize f.signs.take m=S at*;have hAl:(f.acts.take n).length≤4294967295:=by rw[dU];omega
 by_cases fm:m<f.signs.length
 case' pos=>
  have hd:=wR fm;simp at hd;simp[SX,F3,fm,hd];generalize D.bool true=bb
 case' neg=>
  have Ej:m=f.signs.length:=by omega
  simp[SX,F3,fm,Ej];generalize D.bool false=bb
 all_goals
  refine aN.forRounds n (fun k=>[.int k]) (fun k=>[acts (f.acts.take k),CA f.bill (oC S) (.list []) (oC (f.acts.take k)) (.list [])]) ?_ (fun k hk=>?_) ?_
  ·simp[acts]
  ·have bu:k<f.acts.length:=by omega
   have hw:=bk bu (by omega);have hd:=hA1 k bu hk;simp at hd;have ec:¬day<f.acts[k].day:=by omega
   have hle:(k:Int)+1≤4294967296:=by omega
   have ht:=ki bu;rw[ht];have hlen:(f.acts.take k).length=k:=by simp;omega
   generalize f.acts.take k=A at*;simp[SY,F4,bu,hw,ec,hlen];exact⟨hle,by simp[acts],rfl⟩
  generalize f.acts.take n=A at*;by_cases jU:n<f.acts.length
  case' pos=>
   have hd:=hA2 jU;simp at hd;simp[SY,F4,jU,hd];generalize D.bool true=bc
  case' neg=>
   have mw:n=f.acts.length:=by omega
   simp[SY,F4,jU,mw];generalize D.bool false=bc
  all_goals
   refine aN.forRounds f.alters.length (fun k=>[.int k]) (fun k=>[CA f.bill (oC S) (oC ((f.alters.take k).filter (pM S.length))) (oC A) (.list []),alters ((f.alters.take k).filter (pM S.length))]) ?_ (fun k hk=>?_) ?_
   ·simp[alters]
   ·have hw:=bk hk (by omega);have ht:=L4 (pM S.length) f.alters hk;rw[ht];have hlen:((f.alters.take k).filter (pM S.length)).length≤k:=kj (sJ _ _) (by simp;omega);generalize (f.alters.take k).filter (pM S.length)=B at*;by_cases hd:f.alters[k].at_≤(S.length:Int)
    ·simp[SZ,F5,pM,hk,hw,hd];exact⟨by omega,rfl,by simp[alters]⟩
    ·simp[SZ,F5,pM,hk,hw,hd]
   simp[SZ,F5];generalize f.alters.filter (pM S.length)=B at*;refine aN.forRounds f.facts.length (fun k=>[.int k]) (fun k=>[CA f.bill (oC S) (oC B) (oC A) (oC ((f.facts.take k).filter (rn S.length))),facts ((f.facts.take k).filter (rn S.length))]) ?_ (fun k hk=>?_) ?_
   ·simp[facts]
   ·have hw:=bk hk (by omega);have ht:=L4 (rn S.length) f.facts hk;rw[ht];have hlen:((f.facts.take k).filter (rn S.length)).length≤k:=kj (sJ _ _) (by simp;omega);generalize (f.facts.take k).filter (rn S.length)=C at*;cases hd:ay f.facts[k].at_ S.length
    ·simp[S4,F6,rn,hk,hw,hd];refine⟨_,qI _ _,?_⟩;simp[hd,hw]
    ·simp[S4,F6,rn,hk,hw,hd];refine⟨_,qI _ _,?_⟩;simp[hd,hw];exact⟨by omega,rfl,by simp[facts]⟩
   simp[S4,F6];rfl
end Rm
namespace Rm
open Go Go.Proofs Cx
def qv:List Int→Int
 |[]=>-1
 |x::l=>l.foldl min x
theorem agr (x:Int)(l:List Int)(hl:l.length<4294967296):ao T 125 [ints (x::l)] (.int (qv (x::l))):=by
 refine .of_tree rfl (lA 124 (by kernel_rfl)) avY ?_;have h0:¬((l.length:Int)+1<1):=by omega
 simp[VE,h0,qv,ints];refine aN.forRounds l.length (fun k=>[.int ((l.take k).foldl min x),.int ((k:Int)+1)]) (fun k=>[]) ?_ (fun k hk=>?_) ?_
 ·simp
 ·have hw:IntKind.i64.wrap ((k:Int)+1+1)=(k:Int)+1+1:=bU (by omega);rw[ki hk,yN];generalize (l.take k).foldl min x=y;have ht:((k:Int)+1).toNat=k+1:=by omega
  have af:(k:Int)+1<(l.length:Int)+1:=by omega
  simp[aeK,Lz,hk,hw,ht,af];refine⟨by omega,?_⟩;by_cases h:l[k]<y
  ·simp[h];omega
  ·simp[h];omega
 ·simp[aeK,Lz]
def nR (f:File)(n:Nat):List Int:=if f.bill.tenor.kind=1 then((f.signs.take n).filter (fun s=>decide (s.kind=1))).map (·.day) else[]
def ja (f:File)(n:Nat):List Int:=if f.bill.tenor.kind=1 then((f.acts.take n).filter (fun s=>decide (s.kind=1))).map (·.day) else[]
def qM (f:File)(a:Act):Bool:=decide (f.bill.tenor.kind=0)&&decide (a.kind=2)
def mR (f:File):Int:=match f.acts.find? (qM f) with|some a=>a.day|none=>qv (nR f f.signs.length++ja f f.acts.length)
theorem asR (f:File)(h1:f.signs.length≤100000)(h2:f.acts.length≤100000):ao T 94 [aZ f] (.int (mR f)):=by
 refine .of_tree rfl (lA 123 (by kernel_rfl)) avH ?_;simp[Vo];refine aN.forRounds f.signs.length (fun k=>[.none,.int k]) (fun k=>[ints (nR f k)]) ?_ (fun k hk=>?_) ?_
 ·simp[nR,ints]
 ·have hw:=bk hk (by omega);have hs:nR f (k+1)=nR f k++if f.bill.tenor.kind=1∧f.signs[k].kind=1 then[f.signs[k].day] else[]:=by
   unfold nR;by_cases h:f.bill.tenor.kind=1
   ·simp only[if_pos h,L4 _ _ hk,lz,h,true_and]
    congr 1
    by_cases h':f.signs[k].kind=1<;>simp[h']
   ·simp[h]
  have hlen:(nR f k).length≤k:=by
   unfold nR;split
   ·rw[fG];exact kj (sJ _ _) (by simp;omega)
   ·simp
  rw[hs];generalize nR f k=A at*;by_cases hc:f.bill.tenor.kind=1∧f.signs[k].kind=1
  ·simp[S6,F8,hk,hw,hc];exact⟨by omega,by simp[ints]⟩
  ·simp[S6,F8,hk,hw,hc]
 ·have hlS:(nR f f.signs.length).length≤100000:=by
   unfold nR;split
   ·rw[fG];exact kj (sJ _ _) (by simp;omega)
   ·simp
  have hE:mR f=match f.acts.find? (qM f) with|some a=>a.day|none=>qv (nR f f.signs.length++ja f f.acts.length):=rfl
  generalize nR f f.signs.length=A at*;simp[S6,F8];refine aN.scan f.acts.length (fun k=>qM f (f.acts.getD k default)=false) (fun k=>[.int 0,.none,.int k]) (fun k=>[ints (A++ja f k)]) ?_ (fun k hk hj ho=>?_) (fun k hk hj ho=>?_) (fun hj=>?_)
  ·simp[ja,ints]
  ·have hw:=bk hk (by omega);have hs:ja f (k+1)=ja f k++if f.bill.tenor.kind=1∧f.acts[k].kind=1 then[f.acts[k].day] else[]:=by
        unfold ja;by_cases h:f.bill.tenor.kind=1
        ·simp only[if_pos h,L4 _ _ hk,lz,h,true_and]
         congr 1
         by_cases h':f.acts[k].kind=1<;>simp[h']
        ·simp[h]
   have hlen:(ja f k).length≤k:=by
        unfold ja;split
        ·rw[fG];exact kj (sJ _ _) (by simp;omega)
        ·simp
   rw[hs];generalize ja f k=B at*;simp[qM,hk] at ho;by_cases hc:f.bill.tenor.kind=1∧f.acts[k].kind=1
   ·simp[F9,yn,hk,hw,hc];exact⟨by omega,by simp[ints]⟩
   ·have hn:¬(f.bill.tenor.kind=0∧f.acts[k].kind=2):=fun h=>ho h.1 h.2;simp[F9,yn,hk,hw,hc,hn]
  ·have hf:mR f=f.acts[k].day:=by
        rw[hE,Dz hk (by simpa [hk] using ho) (fun j cm=>by have:=hj j cm;simpa [show j<f.acts.length by omega] using this)]
   simp[qM,hk] at ho;simp[F9,yn,hk,ho,hf]
  ·have hf:mR f=qv (A++ja f f.acts.length):=by
        rw[hE,IY (fun j cm=>by have:=hj j cm;simpa [cm] using this)]
   have hlA:(ja f f.acts.length).length≤100000:=by
        unfold ja;split
        ·rw[fG];exact kj (sJ _ _) (by simp;omega)
        ·simp
   rw[hf];have hL:(A++ja f f.acts.length).length≤200000:=by rw[kg];omega
   generalize A++ja f f.acts.length=L at*;cases L with
   |nil=>simp[F9,yn,qv,ints]
   |cons x l=>
    have aE:¬((l.length:Int)+1=0):=by omega
    simp[F9,yn,aE];exact agr x l (by simp at hL;omega)
end Rm
namespace Rm
open Go Go.Proofs Cx
def gW (g:Nat→Cell):D:=.list ((List.range 20).map fun i=>cZ (g i))
theorem XF {g g':Nat→Cell}(h:∀i,i<20→g i=g' i):gW g=gW g':=by
 unfold gW
 congr 1
 exact we fun i hi=>by rw[h i (by simpa using hi)]
theorem XG (g:Nat→Cell)(k:Nat)(c:Cell):D.list ((gW g).l.set k (cZ c))=gW (fun i=>if i=k then c else g i):=by
 unfold gW
 congr 1
 show((List.range 20).map fun i=>cZ (g i)).set k (cZ c)=_;apply List.ext_getElem
 ·simp
 ·intro i h1 h2;simp at h2;rw[List.getElem_set];by_cases h:k=i
  ·simp[h]
  ·have h':¬i=k:=fun e=>h e.symm;simp[h,h']
@[simp] theorem aAr (g:Nat→Cell):(gW g).l.length=20:=by
  show((List.range 20).map fun i=>cZ (g i)).length=20;simp
theorem Hn (g:Nat→Cell){k:Nat}(hk:k<20):(gW g).l[k]?.getD D.none=cZ (g k):=by
 show((List.range 20).map fun i=>cZ (g i))[k]?.getD D.none=cZ (g k);simp[hk]
theorem ahx (g:Nat→Cell){k:Nat}(hk:k<(gW g).l.length):(gW g).l[k]=cZ (g k):=by
 have h:=Hn g (k:=k) (by simpa using hk);rw[bF hk] at h;exact h
theorem ahz (g:Nat→Cell)(k:Nat)(c:Cell):(gW g).l.set k (cZ c)=(gW (fun i=>if i=k then c else g i)).l:=congrArg D.l (XG g k c)
theorem ahy (g:Nat→Cell):D.list (gW g).l=gW g:=rfl
@[simp] theorem aD9 (x:Cell)(b:Bool)(n:Int):vP (cZ x) 0 (D.agg [D.bool b,D.int n])=cZ ⟨b,n⟩:=_root_.id rfl
def Al {α:Type}(l:List (Int×α))(val:α→Cell)(g0:Nat→Cell)(i:Nat):Cell:=match l.find? (fun p=>decide (p.1=(i:Int))) with|some p=>val p.2|none=>g0 i
def rS {α:Type}(enc:α→D)(p:Int×α):D:=.tup [.int p.1,enc p.2]
theorem abi {α:Type}{J o:Nat}{ps cK:List Nat}{a:PC}{ρ:Env}{Q:Out→Prop}(l:List (Int×α))(enc:α→D)(val:α→Cell)(g0:Nat→Cell)
 (nd:∀p q,p∈l→q∈l→p.1=q.1→p=q) (Ts:∀p,p∈l→0≤p.1) (he:ρ.o J=.tup [.list [],.map (l.map fun p=>(.int p.1,enc p.2))]) (h0:ρ.o o=gW g0)
 (step:∀p,p∈l→∀g done,aH T (oX [o] a) ((ρ.put ps (cK.map (rS enc p).tget) [o] [gW g]).setO J (.tup [.list (done++[rS enc p]),.map (l.map fun p=>(.int p.1,enc p.2))])) (fun y=>∃ρ',y=.next ρ'∧ρ'.o o=.list ((gW g).l.set p.1.toNat (cZ (val p.2)))))
 (last:Q (.next (ρ.put [] [] [o] [gW (Al l val g0)]))):aN T (.meach J ps cK [o] a) ρ Q:=by
 have nu:iu (.map (l.map fun p=>((D.int p.1,enc p.2):D×D)))=l.map (rS enc):=by
  simp[iu,rS]
 refine .meachR _ he (fun done vo=>∃g:Nat→Cell,vo=[gW g]∧(∀p,p∈l→rS enc p∈done→g p.1.toNat=val p.2)∧∀i:Nat,(∀p,p∈l→rS enc p∈done→p.1≠i)→g i=g0 i) ⟨g0,by simp[h0],(fun p _ h=>by cases h),fun i _=>rfl⟩ (fun done x rest vo hp ⟨g,hv,rB,iQ⟩=>?_) ⟨_,fun done hp vo ⟨g,hv,rB,iQ⟩=>?_,last⟩
 ·subst hv;rw[nu] at hp;have hx:x∈l.map (rS enc):=hp.subset (by simp);obtain⟨p,fp,rfl⟩:=dJ.mp hx;refine yR _ (fun y ⟨ρ',e,ho⟩=>⟨ρ',e,fun i=>if i=p.1.toNat then val p.2 else g i,by simp[ho,XG],fun q hq PD=>?_,fun i hi=>?_⟩) (step p fp g done)
  ·have PF:=Ts q hq;have qn:=Ts p fp;by_cases h:q.1=p.1
   ·rw[nd q p hq fp h];simp
   ·show(if q.1.toNat=p.1.toNat then val p.2 else g q.1.toNat)=val q.2;rw[if_neg (by omega)];rcases dt.mp PD with h1|h1
    ·exact rB q hq h1
    ·simp[rS] at h1;exact absurd h1.1 h
  ·have qn:=Ts p fp;have df:=hi p fp (by simp);show(if i=p.1.toNat then val p.2 else g i)=g0 i;rw[if_neg (by omega)];exact iQ i fun q hq PD=>hi q hq (by simp[PD])
 ·rw[hv,nu] at*
  congr 1
  refine XF fun i hi=>?_;unfold Al;cases hf:l.find? (fun p=>decide (p.1=(i:Int))) with
  |some p=>
   have fp:=yQ hf;have JR:p.1=(i:Int):=by simpa using Mr hf
   have:=rB p fp (hp.symm.subset (List.mem_map_of_mem fp));simp only;rw[←this,JR];rfl
  |none=>
   refine iQ i fun p fp _=>?_;have:=v9.mp hf p fp;simpa using this
@[simp] theorem aCK (a b:Int):ez (D.int a) (D.int b)=decide (a=b):=by
  show((a==b)&&true)=decide (a=b);rw[Bool.and_true];by_cases h:a=b<;>simp[h]
def uM (n k:Int):Bool:=decide (cV .and .i64 n k≠0)
def A3 (s:Sign)(due:Int):Int:=if due=-1 then 0 else s.day-due
def CB (f:File)(sign:Int):Bool:=(List.range f.alters.length).any fun k=>decide ((f.alters.getD k default).at_≤sign)
def my (c:Case):Int:=if c.holder<0 then 0 else c.holder
def qK (c:Case)(s:Sign):List (Int×Int):=[(0,c.file.bill.sum),(1,c.file.bill.parts),(2,c.file.bill.tenor.kind),(3,c.file.bill.rate),(4,s.kind),(5,c.defence),(6,A3 s c.due)]
def qL (r:Realm)(c:Case)(s:Sign):List (Int×Bool):=[(7,uM c.file.bill.flags 1),(8,decide (c.file.bill.payee=-1)),(9,uM c.file.bill.flags 4),(10,uM c.file.bill.flags 2),(11,decide (gB r c.file.bill.city≠gB r c.file.bill.pay)),(12,CB c.file c.sign),(13,uM s.flags 1),(14,decide (0<A3 s c.due))]
def I1 (r:Realm)(c:Case)(s:Sign):List Cell:=
 (qK c s).map (fun p=>⟨true,p.2⟩)++(qL r c s).map (fun p=>gS p.2)++
    [iM c.file 0 c.sign,iM c.file 1 c.sign,iM c.file 2 c.sign,iM c.file 3 (my c),iM c.file 4 (my c)]
@[simp] theorem azX (x:Case):gV 19 (fH x)=aZ x.file:=_root_.id rfl
@[simp] theorem azV (x:Case):gV 15 (fH x)=eF x.file.bill:=_root_.id rfl
@[simp] theorem azW (x:File):gV 15 (aZ x)=eF x.bill:=_root_.id rfl
def pO (c:Case):Bool:=ay c.sign c.file.signs.length&&decide (-1≤c.holder)&&decide (my c<c.file.signs.length)&&(decide (c.due=-1)||ay c.due 100001)
def jb (r:Realm)(c:Case):List Cell:=if pO c=true∧ay (c.file.signs.getD c.sign.toNat default).day 100001=true then I1 r c (c.file.signs.getD c.sign.toNat default) else[]
theorem asS (r:Realm)(c:Case)(h2:c.file.facts.length≤100000)(h3:c.file.alters.length≤100000):ao T 127 [aW r,fH c] (cells (jb r c)):=by
 refine .of_tree rfl (lA 56 (by kernel_rfl)) avJ ?_;cases hs:ay c.sign c.file.signs.length
 ·have hv:jb r c=[]:=by unfold jb pO;rw[hs];simp
  rw[hv];simp[vT];refine⟨_,qI _ _,?_⟩;simp[hs];rfl
 by_cases hh:c.holder< -1
 ·have hv:jb r c=[]:=by unfold jb pO;rw[hs];simp;intros;omega
  rw[hv];simp[vT,hh];exact⟨⟨_,qI _ _⟩,rfl⟩
 by_cases hm:(c.file.signs.length:Int)≤my c
 ·have hv:jb r c=[]:=by unfold jb pO;rw[hs];simp;intros;omega
  rw[hv];unfold my at hm;simp[vT,hm];exact⟨⟨_,qI _ _⟩,rfl⟩
 by_cases hd:c.due≠-1∧ay c.due 100001=false
 ·have hv:jb r c=[]:=by unfold jb pO;rw[hs];simp[hd]
  rw[hv];unfold my at hm;obtain⟨bp,dW⟩:=hd;simp[vT,hh,hm,bp];refine⟨_,qI _ _,?_⟩;simp[hs,hh,hm,bp];refine⟨_,qI _ _,?_⟩;simp[hs,hh,hm,bp,dW];rfl
 have hcb:pO c=true:=by
  unfold pO;rw[hs];simp;refine⟨⟨by omega,by omega⟩,?_⟩;by_cases h:c.due=-1
  ·exact .inl h
  ·right;cases hb:ay c.due 100001
   ·exact absurd ⟨h,hb⟩ hd
   ·rfl
 have hlen:c.sign.toNat<c.file.signs.length:=by simp[ay] at hs;omega
 have eI:0≤c.sign∧c.sign<(c.file.signs.length:Int):=by simpa [ay] using hs
 obtain⟨s,ED⟩:∃s:Sign,s=c.file.signs[c.sign.toNat]:=⟨_,rfl⟩
 have rK:c.file.signs.getD c.sign.toNat default=s:=by rw[ED];simp[hlen]
 have hv:jb r c=if ay s.day 100001=true then I1 r c s else[]:=by
  unfold jb;rw[rK,hcb];simp
 rw[hv];unfold my at hm;by_cases D3:c.due=-1
 case' pos=>
  have Zl:(c.due=-1)=True:=eq_true D3;simp[vT,hh,hm,Zl];refine⟨_,qI _ _,?_⟩;simp[hs,hh,hm,Zl,hlen,←ED,eI]
 case' neg=>
  have AA:ay c.due 100001=true:=by
   cases hb:ay c.due 100001
   ·exact absurd ⟨D3,hb⟩ hd
   ·rfl
  simp[vT,hh,hm,D3];refine⟨_,qI _ _,?_⟩;simp[hs,hh,hm,D3];refine⟨_,qI _ _,?_⟩;simp[hs,hh,hm,D3,AA,hlen,←ED,eI]
 all_goals
  refine⟨_,qI _ _,?_⟩;cases Jq:ay s.day 100001
  ·simp[Jq];rfl
  simp[Jq,cY];refine abi (qK c s) D.int (fun n=>⟨true,n⟩) (fun _=>eA) ?_ ?_ ?_ ?_ (fun p hp g done=>?_) ?_
  ·intro p q hp hq h;simp[qK] at hp hq;rcases hp with rfl|rfl|rfl|rfl|rfl|rfl|rfl<;>rcases hq with rfl|rfl|rfl|rfl|rfl|rfl|rfl<;>first|rfl|(simp at h)
  ·intro p hp;simp[qK] at hp;rcases hp with rfl|rfl|rfl|rfl|rfl|rfl|rfl<;>simp
  ·have OZ:(if c.due=-1 then(0:Int) else IntKind.i64.wrap (s.day-c.due))=A3 s c.due:=by
        unfold A3;by_cases h:c.due=-1
        ·simp[h]
        ·have AA:ay c.due 100001=true:=by
          cases hb:ay c.due 100001
          ·exact absurd ⟨h,hb⟩ hd
          ·rfl
         simp[ay] at AA Jq;rw[if_neg h,if_neg h];exact bU (by omega)
   simp[qK,cY,hlen,←ED];rw[←OZ];by_cases h:c.due=-1<;>simp[h]
  ·simp[gW];rfl
  ·have hr:0≤p.1∧p.1<20:=by
        simp[qK] at hp;rcases hp with rfl|rfl|rfl|rfl|rfl|rfl|rfl<;>simp
   have hk:p.1.toNat<20:=by omega
   simp[asG,S7,rS,Hn g hk];exact hr
  have amG:∀k (hk:k<c.file.alters.length),ao T 141 (p5 c.file.alters[k]::[.ref (fH c)]) (.bool (decide ((c.file.alters.getD k default).at_≤c.sign))):=fun k hk=>by
   refine .of_tree rfl (lA 57 (by kernel_rfl)) avI ?_;simp[Vp,hk]
  simp;refine⟨_,af4 c.file.alters _ _ _ amG (by omega),_,qH r _,_,qH r _,?_⟩;have OZ:(if c.due=-1 then(0:Int) else IntKind.i64.wrap (s.day-c.due))=A3 s c.due:=by
   unfold A3;by_cases h:c.due=-1
   ·simp[h]
   ·have AA:ay c.due 100001=true:=by
     cases hb:ay c.due 100001
     ·exact absurd ⟨h,hb⟩ hd
     ·rfl
    simp[ay] at AA Jq;rw[if_neg h,if_neg h];exact bU (by omega)
  have OY:cells (I1 r c s)=gW (fun i=>if i=15 then iM c.file 0 c.sign else if i=16 then iM c.file 1 c.sign else if i=17 then iM c.file 2 c.sign else if i=18 then iM c.file 3 (my c) else if i=19 then iM c.file 4 (my c) else Al (qL r c s) gS (Al (qK c s) (fun n=>⟨true,n⟩) (fun _=>eA)) i):=by
   rfl
  generalize Al (qK c s) (fun n=>(⟨true,n⟩:Cell)) (fun _=>eA)=g1 at*;refine abi (qL r c s) D.bool gS g1 ?_ ?_ ?_ ?_ (fun p hp g done=>?_) ?_
  ·intro p q hp hq h;simp[qL] at hp hq;rcases hp with rfl|rfl|rfl|rfl|rfl|rfl|rfl|rfl<;>rcases hq with rfl|rfl|rfl|rfl|rfl|rfl|rfl|rfl<;>first|rfl|(simp at h)
  ·intro p hp;simp[qL] at hp;rcases hp with rfl|rfl|rfl|rfl|rfl|rfl|rfl|rfl<;>simp
  ·simp[qL,cY,hlen,←ED,uM];rw[←OZ];by_cases h:c.due=-1<;>simp[h,CB]
  ·simp
  ·have hr:0≤p.1∧p.1<20:=by
        simp[qL] at hp;rcases hp with rfl|rfl|rfl|rfl|rfl|rfl|rfl|rfl<;>simp
   have hk:p.1.toNat<20:=by omega
   simp[asH,S8,rS,Hn g hk];refine⟨_,aeU _,?_⟩;simp[Hn g hk];exact hr
  simp;generalize Al (qL r c s) gS g1=g2 at*;have hho:(if c.holder<0 then D.int 0 else D.int c.holder)=D.int (my c):=by
   unfold my;split<;>rfl
  rw[hho];refine⟨_,Gp _ _ _ (by omega),_,Gp _ _ _ (by omega),_,Gp _ _ _ (by omega),_,Gp _ _ _ (by omega),_,Gp _ _ _ (by omega),?_⟩;rw[OY];simp only[ahx,atv,ahz,ahy];refine XF fun i hi=>?_;by_cases I7:i=15
  ·subst I7;simp
  by_cases I8:i=16
  ·subst I8;simp
  by_cases I9:i=17
  ·subst I9;simp
  by_cases Ja:i=18
  ·subst Ja;simp
  by_cases YM:i=19
  ·subst YM;simp
  simp[I7,I8,I9,Ja,YM]
end Rm
namespace Rm
open Go Go.Proofs Cx
def KI (n:Nat)(x:Int):Bool:=decide (x<0)||decide ((n:Int)≤x)
def mj (r:Realm)(a q:Int)(l:List Int):Bool:=
 !(decide (a<0)||decide ((r.orders.length:Int)≤a)||decide (q<0)||decide (22≤q)||decide (l.length≠5))&& !((List.range l.length).any fun k=>KI r.orders.length (l.getD k 0))
theorem ajw (x n:Int):ao T 145 [.int x,.ref (.int n)] (.bool (decide (x<0)||decide (n≤x))):=by
 refine .of_tree rfl (lA 66 (by kernel_rfl)) auz ?_;by_cases h:x<0<;>simp[Ui,h]
theorem Yp (r:Realm)(a q:Int)(l:List Int)(hl:l.length≤100000):ao T 129 [aW r,.int a,.int q,ints l] (.bool (mj r a q l)):=by
 refine .of_tree rfl (lA 65 (by kernel_rfl)) auA ?_;by_cases h1:a<0
 ·simp[vS,mj,h1]
 by_cases h2:(r.orders.length:Int)≤a
 ·simp[vS,mj,h1,h2]
 by_cases h3:q<0
 ·simp[vS,mj,h1,h2,h3]
 by_cases h4:22≤q
 ·simp[vS,mj,h1,h2,h3,h4]
 by_cases h5:(l.length:Int)=5
 ·have Jc:l.length=5:=by omega
  simp[vS,h1,h2,h3,h4,Jc];refine⟨_,af6 l 145 [.ref (.int r.orders.length)] (fun k=>KI r.orders.length (l.getD k 0)) (fun k hk=>by simpa [KI,hk] using ajw l[k] r.orders.length) (by omega),?_⟩;simp only[mj,Jc];simp[h1,h2,h3,h4]
 ·have Jc:¬l.length=5:=by omega
  simp[vS,mj,h1,h2,h3,h4,Jc];intro h;omega
theorem Oh {r:Realm}{a q:Int}{l:List Int}(h:mj r a q l=true):(0≤a∧a<r.orders.length)∧l.length=5∧(∀x,x∈l→0≤x∧x<r.orders.length)∧∀b:Int,0≤b→b<r.orders.length→mj r b q l=true:=by
 unfold mj at h ⊢;rw[aq] at h;obtain⟨h1,h2⟩:=h;simp at h1;refine⟨by omega,h1.2,fun x hx=>?_,fun b gL de=>?_⟩
 ·obtain⟨k,hk,rfl⟩:=kf hx;simp[KI] at h2;have:=h2 k hk;simp[hk] at this;omega
 ·rw[h2];simp;omega
def Cp (r:Realm):Prop:=∀o,o∈r.orders→o.choices.length≤100000∧∀ch,ch∈o.choices→0≤ch.by_∧ch.by_<5
def xC (q:Int)(ch:Choice):Bool:=decide (ch.ask=q)&&decide (ch.by_≠0)
def oN (r:Realm)(a:Int):Order:=r.orders.getD a.toNat default
def gj (r:Realm)(a q:Int)(l:List Int):Int×Bool:=
 (match(oN r a).choices.find? (xC q) with|some ch=>l.getD ch.by_.toNat 0|none=>a,match(oN r a).choices.find? (xC q) with|some ch=>ch.whole|none=>false)
theorem WL (r:Realm)(nj:Cp r)(a q:Int)(l:List Int)(hl:l.length≤100000)(hf:mj r a q l=true):
 ao T 130 [aW r,.int a,.int q,ints l] (.tup [.int (gj r a q l).1,.bool (gj r a q l).2])∧0≤(gj r a q l).1∧(gj r a q l).1<r.orders.length:=by
 obtain⟨ha,ZG,hx,_⟩:=Oh hf;have Aw:a.toNat<r.orders.length:=by omega
 obtain⟨ba,mm⟩:=nj _ (dq Aw);obtain⟨o,ho⟩:∃o,o=r.orders[a.toNat]:=⟨_,rfl⟩
 rw[←ho] at ba mm;have Po:oN r a=o:=by rw[ho];simp[oN,Aw]
 unfold gj;rw[Po];refine⟨?_,?_⟩
 ·refine .of_tree rfl (lA 69 (by kernel_rfl)) auy ?_;simp[Uh];refine⟨_,Yp r a q l hl,?_⟩;simp[hf,Aw,←ho,ha];refine aN.scan o.choices.length (fun k=>xC q (o.choices.getD k default)=false) (fun k=>[.int 0,.bool false,.int k]) (fun _=>[]) ?_ (fun k hk hj aD=>?_) (fun k hk hj aD=>?_) (fun hj=>?_)
  ·simp
  ·have hw:=bk hk (by omega);have hn:¬(o.choices[k].ask=q∧¬o.choices[k].by_=0):=by simpa [xC,hk] using aD
   simp[So,Fv,Aw,←ho,hk,hw,hn]
  ·have nl:=Dz hk (by simpa [hk] using aD) (fun j cm=>by have:=hj j cm;simpa [show j<o.choices.length by omega] using this);rw[nl];have hc:o.choices[k].ask=q∧¬o.choices[k].by_=0:=by simpa [xC,hk] using aD
   have hb:=mm _ (dq hk);have Jl:o.choices[k].by_.toNat<l.length:=by omega
   simp[So,Fv,Aw,←ho,hk,hc,ints,Jl];omega
  ·have nl:=IY (l:=o.choices) (p:=xC q) (fun j cm=>by have:=hj j cm;simpa [cm] using this);rw[nl];simp[So,Fv,Aw,←ho]
 ·cases nl:o.choices.find? (xC q) with
  |none=>exact ha
  |some ch=>
   have hb:=mm _ (yQ nl);have Jl:ch.by_.toNat<l.length:=by omega
   simp[Jl];exact hx _ (dq Jl)
theorem RB:∀(N:Nat) (l:List Int),l.Nodup→(∀x,x∈l→0≤x∧x<(N:Int))→l.length≤N
 |0,l,hn,h=>by
  cases l with
  |nil=>simp
  |cons a l=>have:=h a (by simp);omega
 |N+1,l,hn,h=>by
  by_cases hm:(N:Int)∈l
  ·have h1:=RB N (l.erase (N:Int)) (hn.erase _) (fun x hx=>by
    have dg:=(hn.mem_erase_iff).mp hx;have:=h x dg.2;have aE:=dg.1;omega)
   rw[List.length_erase_of_mem hm] at h1;omega
  ·have h1:=RB N l hn (fun x hx=>by
    have:=h x hx;have aE:x≠(N:Int):=fun e=>hm (e▸hx);omega)
   omega
def dk (l:List Int):Int:=l.getD (l.length-1) 0
def lf (r:Realm)(q:Int)(l:List Int):Nat→List Int→List Int×Int
 |0,p=>(p,0)
 |n+1,p=>
  if(gj r (dk p) q l).1=dk p then(p,0)
  else if(gj r (dk p) q l).2=false∨(hasB p (gj r (dk p) q l).1=true∧(oN r (gj r (dk p) q l).1).accepts=true) then(p++[(gj r (dk p) q l).1],0)
  else if hasB p (gj r (dk p) q l).1=true then(p++[(gj r (dk p) q l).1],12)
  else lf r q l n (p++[(gj r (dk p) q l).1])
theorem Ql (r:Realm)(q:Int)(l:List Int)(n:Nat)(p:List Int):lf r q l (n+1) p=
 if(gj r (dk p) q l).1=dk p then(p,0)
 else if(gj r (dk p) q l).2=false∨(hasB p (gj r (dk p) q l).1=true∧(oN r (gj r (dk p) q l).1).accepts=true) then(p++[(gj r (dk p) q l).1],0)
 else if hasB p (gj r (dk p) q l).1=true then(p++[(gj r (dk p) q l).1],12)
 else lf r q l n (p++[(gj r (dk p) q l).1]):=rfl
def ju (r:Realm)(a q:Int)(l:List Int):List Int×Int:=if mj r a q l=true∧l.getD 0 0=a then lf r q l r.orders.length [a] else([],1)
theorem agk (r:Realm)(nj:Cp r)(hn:r.orders.length≤100000)(a q:Int)(l:List Int)(hl:l.length≤100000):ao T 103 [aW r,.int a,.int q,ints l] (.tup [ints (ju r a q l).1,.int (ju r a q l).2]):=by
 refine .of_tree rfl (lA 64 (by kernel_rfl)) auw ?_;simp[Ug];refine⟨_,Yp r a q l hl,?_⟩;cases hf:mj r a q l
 ·simp[ju,hf];rfl
 obtain⟨ha,ZG,hx,wU⟩:=Oh hf;have h0:0<l.length:=by omega
 by_cases w9:l[0]=a
 ·have hE:ju r a q l=lf r q l r.orders.length [a]:=by unfold ju;rw[if_pos ⟨hf,by simp[h0,w9]⟩]
  rw[hE];simp[h0,w9,ints];refine aN.forLoop (α:=Nat×List Int) (fun s vr vo=>vr=[.list [],.int 0,.none]∧vo=[ints s.2]∧s.2.Nodup∧(∀x,x∈s.2→0≤x∧x<(r.orders.length:Int))∧s.2≠[]∧s.1+s.2.length=r.orders.length+1∧lf r q l s.1 s.2=lf r q l r.orders.length [a]) (fun s=>s.1) (r.orders.length,[a]) ?_ ?_
  ·simp[ints];exact ha
  ·rintro⟨n,p⟩ vr vo ⟨rfl,rfl,bq,bC,aE,hlen,Eg⟩;simp only at*;have fp:p.length≤r.orders.length:=RB _ p bq bC;have Z1:0<p.length:=Mv.mpr aE;obtain⟨m,rfl⟩:∃m,n=m+1:=⟨n-1,by omega⟩
   have af:p.length-1<p.length:=by omega
   have kY:dk p=p[p.length-1]:=by simp[dk,af]
   have xb:=bC _ (dq af);rw[←kY] at xb;obtain⟨OC,gh,gi⟩:=WL r nj (dk p) q l hl (wU _ xb.1 xb.2);have O8:((p.length:Int)-1).toNat=p.length-1:=by omega
   have P8:IntKind.i64.wrap ((p.length:Int)-1)=(p.length:Int)-1:=bU (by omega);rw[←Eg,Ql];obtain⟨L,hL⟩:∃L,L=gj r (dk p) q l:=⟨_,rfl⟩
   rw[←hL] at OC gh gi ⊢;obtain⟨to,whole⟩:=L;simp only at OC gh gi;have xr:to.toNat<r.orders.length:=by omega
   have Po:oN r to=r.orders[to.toNat]:=by simp[oN,xr]
   simp only[Po];simp[asE,Sn,P8,O8,af,←kY,ints];refine⟨by omega,_,OC,?_⟩;by_cases h1:to=dk p
   ·simp[h1]
   simp[h1];refine⟨_,uu p to (by omega),by omega,?_⟩;cases whole
   ·simp
   cases h2:hasB p to
   ·have cM:to∉p:=fun hm=>by
     have:hasB p to=true:=by simp[hasB,hm]
     rw[h2] at this;cases this
    simp[h2];refine⟨m,by omega,p++[to],by simp,?_,?_,by simp,by simp;omega,rfl⟩
    ·exact Cu.mpr ⟨bq,by simp,fun x hx y hy=>by simp at hy;subst hy;exact fun e=>cM (e▸hx)⟩
    ·intro x hx;rcases dt.mp hx with h|h
     ·exact bC x h
     ·simp at h;subst h;exact⟨gh,gi⟩
   ·cases h3:r.orders[to.toNat].accepts<;>simp[h2,h3,xr]<;>omega
 ·have hE:ju r a q l=([],1):=by unfold ju;rw[if_neg (by simp[h0,w9])]
  rw[hE];simp[h0,w9];rfl
end Rm
namespace Rm
open Go Go.Proofs Cx
def dY (f:File)(i:Int):Sign:=f.signs.getD i.toNat default
def kG (r:Realm)(forum:Int)(c:Case):List Int:=[forum,gB r (dY c.file c.sign).city,gB r c.file.bill.pay,gB r c.file.bill.city,gB r (r.firms.getD (dY c.file c.sign).who.toNat default).city]
def m9 (r:Realm)(forum:Int)(c:Case):Prop:=(dY c.file c.sign).who<0∨(r.firms.length:Int)≤(dY c.file c.sign).who∨forum<0∨(r.orders.length:Int)≤forum
instance (r:Realm) (forum:Int) (c:Case):Decidable (m9 r forum c):=by unfold m9;infer_instance
def iW (r:Realm)(forum:Int)(c:Case):List Int:=if m9 r forum c then[] else if hasB (kG r forum c) (-1)=true then[] else kG r forum c
@[simp] theorem aAk (r:Realm)(x:Int):yX (aW r) x=gB r x:=by
  unfold yX gB ay;by_cases h:0≤x∧x<(r.cities.length:Int)
  ·have hx:x.toNat<r.cities.length:=by omega
   rw[if_pos (by simpa using h),if_pos (by simpa using h)];simp[hx]
  ·rw[if_neg (by simpa using h),if_neg (by simpa using h)]
theorem adD (r:Realm)(forum:Int)(c:Case)(h1:c.sign.toNat<c.file.signs.length):RD [aW r,.int forum,fH c]=ints (iW r forum c):=by
 have hs:dY c.file c.sign=c.file.signs[c.sign.toNat]:=by simp[dY,h1]
 unfold RD iW;simp[h1];by_cases hb:m9 r forum c
 ·rw[if_pos (by simpa [m9,hs] using hb),if_pos hb];rfl
 ·rw[if_neg (by simpa [m9,hs] using hb),if_neg hb];have J0:(dY c.file c.sign).who.toNat<r.firms.length:=by unfold m9 at hb;omega
  have aak:c.file.signs[c.sign.toNat].who.toNat<r.firms.length:=by rw[←hs];exact J0
  have kz:kG r forum c=[forum,gB r c.file.signs[c.sign.toNat].city,gB r c.file.bill.pay,gB r c.file.bill.city,gB r r.firms[c.file.signs[c.sign.toNat].who.toNat].city]:=by
   simp[kG,hs,aak]
  have cP:∀l:List Int,hasB l (-1)=true↔-1∈l:=fun l=>by simp[hasB]
  rw[kz];simp[aak];split
  ·rename_i h;rw[if_pos ((cP _).mpr (by simpa using h))];rfl
  ·rename_i h;rw[if_neg (fun h'=>h (by simpa using(cP _).mp h'))]
theorem arU (r:Realm)(forum:Int)(c:Case)(h1:0≤c.sign∧c.sign<c.file.signs.length):ao T 102 [aW r,.int forum,fH c] (ints (iW r forum c)):=by
 have cH:c.sign.toNat<c.file.signs.length:=by omega
 rw[←adD r forum c cH];have hs:dY c.file c.sign=c.file.signs[c.sign.toNat]:=by simp[dY,cH]
 refine ao.of_nsl rfl aud aue ?_;rw[adD r forum c cH];by_cases hb:m9 r forum c
 ·refine .inr ⟨by simp[iW,hb];rfl,?_⟩;have gx:=hb;simp[m9,hs] at gx;simp[Ma,h1,cH]
  intros;omega
 have ru:iW r forum c=if hasB (kG r forum c) (-1)=true then[] else kG r forum c:=by unfold iW;rw[if_neg hb]
 have gx:=hb;simp[m9,hs] at gx;have hw:c.file.signs[c.sign.toNat].who.toNat<r.firms.length:=by omega
 have hC:=uu (kG r forum c) (-1) (by simp[kG]);cases hh:hasB (kG r forum c) (-1)<;>rw[hh] at hC<;>simp[kG,ints,hs,hw] at hC
 ·refine .inl ⟨(kG r forum c).map .int,by simp[kG],by rw[ru,hh];rfl,?_⟩;simp[TX,h1,cH,hw];rw[if_neg (by omega)];refine⟨_,qH r _,_,qH r _,_,qH r _,by omega,_,qH r _,_,by simpa using hC,?_⟩;simp[kG,hs,hw]
 ·refine .inr ⟨by rw[ru,hh];rfl,?_⟩;simp[Ma,h1,cH,hw]
  intros
  refine⟨_,qH r _,_,qH r _,_,qH r _,by omega,_,qH r _,_,by simpa using hC,?_⟩;simp
end Rm
namespace Rm
open Go Go.Proofs Cx
structure Right (r:Realm):Prop where
 by_:Cp r
 len:r.orders.length≤100000
 ok:∀o,o∈r.orders→o.OK∧o.rules.length≤100000
structure FewS (f:File):Prop where
 signs:f.signs.length≤1000
 alters:f.alters.length≤1000
 acts:f.acts.length≤1000
 facts:f.facts.length≤1000
theorem afS {α:Type}(p:α→Bool)(l:List α):(l.takeWhile p).length≤l.length:=by
 obtain⟨m,h1,h2,_⟩:=Cg p l;rw[h2,dU];omega
theorem FewS.at_ {f:File}(h:FewS f)(day:Int):FewS (bf f day):=
 ⟨kj (afS _ _) h.1,kj (sJ _ _) h.2,kj (afS _ _) h.3,kj (sJ _ _) h.4⟩
def aY (c:Case):Case:={c with file:=bf c.file c.day}
@[simp] theorem aAb (x:File)(a0 a1 a2 a3 a4 a5 a6 a7 a8 a9 pE pG pH pI pJ sL sM sN sO:D)(s h d u y:Int):gV 24 (D.agg (bZ [a0,a1,a2,a3,a4,a5,a6,a7,a8,a9,pE,pG,pH,pI,pJ,sL,sM,sN,sO,.int s,.int h,.int d,.int u,.int y] 0 [.int x.bill.drawer,.int x.bill.drawee,.int x.bill.payee,.int x.bill.sum,.int x.bill.currency,.int x.bill.tenor.kind,.int x.bill.tenor.n,.int x.bill.tenor.unit,.int x.bill.day,.int x.bill.city,.int x.bill.pay,.int x.bill.need,.int x.bill.rate,.int x.bill.flags,.int x.bill.parts,signs x.signs,alters x.alters,acts x.acts,facts x.facts]))=fH ⟨x,s,h,d,u,y⟩:=_root_.id rfl
theorem agZ (r:Realm)(c:Case)(hf:FewS c.file):ao T 100 [aW r,fH c] (.tup [fH (aY c),cells (jb r (aY c))]):=by
 refine .of_tree rfl (lA 53 (by kernel_rfl)) auc ?_;simp[TW];have h1:=hf.1;have h2:=hf.2;have h3:=hf.3;have h4:=hf.4;refine⟨_,Gn c.file c.day (by omega) (by omega) (by omega) (by omega),?_⟩;have nk:=hf.at_ c.day;have h5:=nk.4;have h6:=nk.2;simp;exact⟨asS r (aY c) (by show(bf c.file c.day).facts.length≤_;omega) (by show(bf c.file c.day).alters.length≤_;omega),(congrArg (gV 24) (arB (aY c) _ _ _ _ _ _ _ _ _ _ _ _ _ _ _ _ _ _ _ _ _ _ _ _)).trans (agR (aY c))⟩
theorem awK {r:Realm}{c:Case}(h:jb r c≠[]):0≤c.sign∧c.sign<c.file.signs.length:=by
 unfold jb at h;split at h
 ·rename_i hh;have h1:=hh.1;unfold pO at h1;simp[ay] at h1;omega
 ·exact absurd rfl h
theorem aaI (r:Realm)(nj:Cp r)(q:Int)(l:List Int)(hl:l.length≤100000)(wU:∀b:Int,0≤b→b<r.orders.length→mj r b q l=true):∀(n:Nat) (p:List Int),p≠[]→(∀x,x∈p→0≤x∧x<(r.orders.length:Int))→
 (lf r q l n p).1≠[]∧∀x,x∈(lf r q l n p).1→0≤x∧x<(r.orders.length:Int)
 |0,p,aE,hp=>⟨aE,hp⟩
 |n+1,p,aE,hp=>by
  have af:p.length-1<p.length:=by have:=Mv.mpr aE;omega
  have kY:dk p=p[p.length-1]:=by simp[dk,af]
  have xb:=hp _ (dq af);rw[←kY] at xb;obtain⟨_,ht⟩:=WL r nj (dk p) q l hl (wU _ xb.1 xb.2)
  have aU:∀x,x∈p++[(gj r (dk p) q l).1]→0≤x∧x<(r.orders.length:Int):=fun x hx=>by
   rcases dt.mp hx with h|h
   ·exact hp x h
   ·simp at h;subst h;exact ht
  rw[Ql];split
  ·exact⟨aE,hp⟩
  split
  ·exact⟨by simp,aU⟩
  split
  ·exact⟨by simp,aU⟩
  ·exact aaI r nj q l hl wU n _ (by simp) aU
theorem aaH {r:Realm}(hr:Right r){a q:Int}{l:List Int}(hl:l.length≤100000)(h:(ju r a q l).2=0):(ju r a q l).1≠[]∧0≤dk (ju r a q l).1∧dk (ju r a q l).1<r.orders.length:=by
 unfold ju at h ⊢;split at h
 ·rename_i hh;rw[if_pos hh];obtain⟨ha,ZG,hx,wU⟩:=Oh hh.1;obtain⟨h1,h2⟩:=aaI r hr.by_ q l hl wU r.orders.length [a] (by simp) (fun x hx=>by simp at hx;subst hx;exact ha);refine⟨h1,?_⟩;have af:(lf r q l r.orders.length [a]).1.length-1<(lf r q l r.orders.length [a]).1.length:=by have:=Mv.mpr h1;omega
  have kY:dk (lf r q l r.orders.length [a]).1=(lf r q l r.orders.length [a]).1[(lf r q l r.orders.length [a]).1.length-1]:=by simp[dk,af]
  rw[kY];exact h2 _ (dq af)
 ·cases h
theorem aaJ (r:Realm)(q:Int)(l:List Int):∀(n:Nat) (p:List Int),(lf r q l n p).1.length≤p.length+n
 |0,p=>by simp[lf]
 |n+1,p=>by
  rw[Ql];split
  ·simp
  split
  ·simp
  split
  ·simp
  ·have:=aaJ r q l n (p++[(gj r (dk p) q l).1]);simp at this;omega
theorem aos (r:Realm)(a q:Int)(l:List Int):(ju r a q l).1.length≤1+r.orders.length:=by
 unfold ju;split
 ·exact aaJ r q l _ [a]
 ·simp
@[simp] theorem aD6 (a b c d e x:D):bZ [a,b,c,d,e] 2 [x]=[a,b,x,d,e]:=_root_.id rfl
@[simp] theorem aD7 (a b c d e x:D):bZ [a,b,c,d,e] 3 [x]=[a,b,c,x,e]:=_root_.id rfl
@[simp] theorem aD8 (a b c d e x:D):bZ [a,b,c,d,e] 4 [x]=[a,b,c,d,x]:=_root_.id rfl
def QD:Said:=⟨eA,-1,[],1⟩
def iK (r:Realm)(forum q:Int)(c:Case):Said×List Cell:=
 if jb r (aY c)=[] then(QD,[]) else if(l6 q).2=false then(QD,[]) else if iW r forum (aY c)=[] then(QD,[]) else
    (⟨eA,if(ju r forum q (iW r forum (aY c))).2=0 then dk (ju r forum q (iW r forum (aY c))).1 else-1,(ju r forum q (iW r forum (aY c))).1,(ju r forum q (iW r forum (aY c))).2⟩,jb r (aY c))
theorem adE (r:Realm)(forum:Int)(c:Case):(iW r forum c).length≤5:=by
 unfold iW;split
 ·simp
 split<;>simp[kG]
theorem agY (r:Realm)(hr:Right r)(forum q:Int)(c:Case)(hf:FewS c.file):ao T 83 [aW r,.int forum,.int q,fH c] (.tup [p8 (iK r forum q c).1,cells (iK r forum q c).2]):=by
 refine .of_tree rfl (lA 52 (by kernel_rfl)) aub ?_;simp[TV];refine⟨_,agZ r c hf,?_⟩;by_cases hv:jb r (aY c)=[]
 ·simp[hv,iK];exact⟨rfl,rfl⟩
 simp[hv,iK];refine⟨_,Rv q,?_⟩;cases hq:(l6 q).2
 ·simp[hq];exact⟨rfl,rfl⟩
 simp[hq];refine⟨_,arU r forum (aY c) (awK hv),?_⟩;by_cases hp:iW r forum (aY c)=[]
 ·simp[hp];exact⟨rfl,rfl⟩
 have fp:=adE r forum (aY c);have aE:ints (iW r forum (aY c))≠.list []:=fun e=>hp (by simpa [ints] using e);simp[hp];generalize iW r forum (aY c)=l at*;refine⟨_,agk r hr.by_ hr.len forum q l (by omega),?_⟩;have hlen:=aos r forum q l;have Eg:=aaH hr (a:=forum) (q:=q) (l:=l) (by omega);have Ps:=hr.len;generalize ju r forum q l=L at*;obtain⟨path,err⟩:=L;simp only at*;by_cases he:err=0
 ·obtain⟨h1,h2⟩:=Eg he;have Z1:=Mv.mpr h1;have P8:IntKind.i64.wrap ((path.length:Int)-1)=(path.length:Int)-1:=bU (by omega);have O8:((path.length:Int)-1).toNat=path.length-1:=by omega
  have af:path.length-1<path.length:=by omega
  have kY:dk path=path[path.length-1]:=by simp[dk,af]
  simp[he,P8,O8,af,←kY];exact⟨by omega,rfl⟩
 ·simp[he];rfl
def kO (r:Realm)(forum q:Int)(c:Case):Said:=
 if(iK r forum q c).1.order=-1 then(iK r forum q c).1
 else⟨(q8 (oN r (iK r forum q c).1.order) q (iK r forum q c).2).1,(iK r forum q c).1.order,(iK r forum q c).1.path,(q8 (oN r (iK r forum q c).1.order) q (iK r forum q c).2).2⟩
theorem agX {r:Realm}(hr:Right r)(forum q:Int)(c:Case):(iK r forum q c).1.order=-1∨(0≤(iK r forum q c).1.order∧(iK r forum q c).1.order<r.orders.length):=by
 unfold iK;split
 ·exact .inl rfl
 split
 ·exact .inl rfl
 split
 ·exact .inl rfl
 ·have fp:=adE r forum (aY c);have Eg:=aaH hr (a:=forum) (q:=q) (l:=iW r forum (aY c)) (by omega);show(if _ then _ else _)=_∨_;split
  ·rename_i h;exact .inr (Eg h).2
  ·exact .inl rfl
theorem Xg (r:Realm)(hr:Right r)(forum q:Int)(c:Case)(hf:FewS c.file):ao T 65 [aW r,.int forum,.int q,fH c] (p8 (kO r forum q c)):=by
 refine .of_tree rfl (lA 51 (by kernel_rfl)) at4 ?_;simp[TP];refine⟨_,agY r hr forum q c hf,?_⟩;have ho:=agX hr forum q c;unfold kO;generalize iK r forum q c=S at*;obtain⟨s,cs⟩:=S;simp only at*;by_cases h:s.order=-1
 ·obtain⟨⟨kn,n⟩,o,pth,e⟩:=s;simp only at h;subst h;simp;rfl
 ·have h1:0≤s.order∧s.order<r.orders.length:=by omega
  have h2:s.order.toNat<r.orders.length:=by omega
  have h3:oN r s.order=r.orders[s.order.toNat]:=by simp[oN,h2]
  obtain⟨aD,hlen⟩:=hr.ok _ (dq h2);simp[h,h1,h2,h3];refine⟨_,arw _ q cs aD (by omega),?_⟩;simp;rfl
def kP (r:Realm)(forum q:Int)(f:File)(day:Int):Said:=kO r forum q ⟨{f with facts:=[]},0,-1,-1,-1,day⟩
theorem MV (r:Realm)(hr:Right r)(forum q:Int)(f:File)(day:Int)(hf:FewS f):ao T 35 [aW r,.int forum,.int q,aZ f,.int day] (p8 (kP r forum q f day)):=by
 refine .of_tree rfl (lA 50 (by kernel_rfl)) at5 ?_;simp[TQ];refine⟨p8 (kP r forum q f day),Xg r hr forum q ⟨{f with facts:=[]},0,-1,-1,-1,day⟩ ⟨hf.1,hf.2,hf.3,by simp⟩,?_⟩;simp
 try rfl
def yA (s:Said):Int:=if s.err≠0 then 0 else if s.cell.known=false then 2 else if s.cell.n≠0 then 1 else 0
theorem Xi (s:Said):ao T 72 [p8 s] (.int (yA s)):=by
 refine .of_tree rfl (lA 121 (by kernel_rfl)) aua ?_;unfold yA;by_cases h1:s.err=0<;>cases h2:s.cell.known<;>by_cases h3:s.cell.n=0<;>simp[TU,h1,h2,h3]
def mJ (s:Said):Int:=if s.err≠0∨s.cell.known=false then-1 else s.cell.n
theorem Xh (s:Said):ao T 34 [p8 s] (.int (mJ s)):=by
 refine .of_tree rfl (lA 90 (by kernel_rfl)) at7 ?_;unfold mJ;by_cases h1:s.err=0<;>cases h2:s.cell.known<;>simp[TS,h1,h2]
end Rm
namespace Rm
open Go Go.Proofs Cx
def ix (day:Int)(l:List Act)(es:List (D×D)):List (D×D):=l.foldl (fun es a=>if a.kind=7∧a.day≤day then cY (.int a.at_) (.bool true) es else es) es
theorem atD (day:Int)(l:List Act){k:Nat}(hk:k<l.length):ix day (l.take (k+1)) []=if l[k].kind=7∧l[k].day≤day then cY (.int l[k].at_) (.bool true) (ix day (l.take k) []) else ix day (l.take k) []:=by
 unfold ix;rw[ki hk,yN];rfl
theorem adI (k v:D):∀es:List (D×D),(cY k v es).length≤es.length+1
 |[]=>by simp[cY]
 |e::es=>by
  unfold cY;split
  ·simp
  ·have:=adI k v es;simp;omega
theorem afy (day:Int):∀(l:List Act) (es:List (D×D)),(ix day l es).length≤es.length+l.length
 |[],es=>by simp[ix]
 |a::l,es=>by
  have h:=afy day l (if a.kind=7∧a.day≤day then cY (.int a.at_) (.bool true) es else es);have hp:=adI (.int a.at_) (.bool true) es;show(ix day l (if a.kind=7∧a.day≤day then cY (.int a.at_) (.bool true) es else es)).length≤_;split at h
  ·rename_i hc;rw[if_pos hc];simp;omega
  ·rename_i hc;rw[if_neg hc];simp;omega
theorem afI (f:File)(day:Int)(hl:f.acts.length≤100000):ao T 33 [aZ f,.int day] (.map (ix day f.acts [])):=by
 refine .of_tree rfl (lA 94 (by kernel_rfl)) awo ?_;simp[V3];refine aN.forRounds f.acts.length (fun k=>[.int k]) (fun k=>[.map (ix day (f.acts.take k) [])]) ?_ (fun k hk=>?_) ?_
 ·simp[ix]
 ·have hw:=bk hk (by omega);have hs:=atD day f.acts hk;have hlen:=afy day (f.acts.take k) [];rw[hs];simp at hlen;generalize ix day (f.acts.take k) []=es at*;by_cases hc:f.acts[k].kind=7∧f.acts[k].day≤day
  ·simp[Tk,Gk,hk,hw,hc];omega
  ·simp[Tk,Gk,hk,hw,hc]
 ·simp[Tk,Gk]
theorem adJ {k v:D}:∀{es:List (D×D)} {e:D×D},e∈cY k v es→e.2=v∨e∈es
 |[],e,h=>by simp[cY] at h;exact .inl (by rw[h])
 |x::es,e,h=>by
  unfold cY at h;split at h
  ·rcases cC.mp h with rfl|h
   ·exact .inl rfl
   ·exact .inr (by simp[h])
  ·rcases cC.mp h with rfl|h
   ·exact .inr (by simp)
   ·rcases adJ h with h|h
    ·exact .inl h
    ·exact .inr (by simp[h])
theorem afA (day:Int):∀(l:List Act) (es:List (D×D)),(∀e,e∈es→e.2=.bool true)→∀e,e∈ix day l es→e.2=.bool true
 |[],es,h,e,he=>h e he
 |a::l,es,h,e,he=>by
  refine afA day l (if a.kind=7∧a.day≤day then cY (.int a.at_) (.bool true) es else es) (fun x hx=>?_) e he;split at hx
  ·rcases adJ hx with h'|h'
   ·exact h'
   ·exact h x h'
  ·exact h x hx
theorem aaY {k d:D}:∀{es:List (D×D)},dQ k es=some d→∃e,e∈es∧e.2=d
 |x::es,h=>by
  unfold dQ at h;split at h
  ·exact⟨x,by simp,by simpa using h⟩
  ·obtain⟨e,h1,h2⟩:=aaY h;exact⟨e,by simp[h1],h2⟩
theorem atC (day:Int)(l:List Act)(k:D):(dQ k (ix day l [])).getD (.bool false)=.bool ((dQ k (ix day l [])).getD (.bool false)).b:=by
 cases h:dQ k (ix day l []) with
 |none=>rfl
 |some d=>
  obtain⟨e,h1,h2⟩:=aaY h;have:=afA day l [] (fun e h=>by cases h) e h1;rw[h2] at this;rw[this];rfl
def l5 (f:File)(sign day:Int):Bool:=ay sign f.signs.length&&((dQ (.int sign) (ix day f.acts [])).getD (.bool false)).b
theorem afH (f:File)(sign day:Int)(hl:f.acts.length≤100000):ao T 14 [aZ f,.int sign,.int day] (.bool (l5 f sign day)):=by
 refine .of_tree rfl (lA 97 (by kernel_rfl)) awj ?_;by_cases h1:0≤sign<;>by_cases h2:sign<f.signs.length<;>simp[VY,h1,h2,l5,ay];refine⟨_,afI f day hl,?_⟩;exact atC day f.acts (.int sign)
def qO (f:File)(sign:Int)(n:Nat):Int:=(f.alters.take n).foldl (fun s a=>if a.at_≤sign then a.sum else s) f.bill.sum
theorem arJ (f:File)(sign:Int)(hl:f.alters.length≤100000):ao T 95 [aZ f,.int sign] (.int (qO f sign f.alters.length)):=by
 refine .of_tree rfl (lA 146 (by kernel_rfl)) auV ?_;simp[UC];refine aN.forRounds f.alters.length (fun k=>[.int (qO f sign k),.int k]) (fun k=>[]) ?_ (fun k hk=>?_) ?_
 ·simp[qO]
 ·have hw:=bk hk (by omega);have hs:qO f sign (k+1)=if f.alters[k].at_≤sign then f.alters[k].sum else qO f sign k:=by
   unfold qO;rw[ki hk,yN];rfl
  rw[hs];generalize qO f sign k=s at*;by_cases hc:f.alters[k].at_≤sign<;>simp[aew,Lh,hk,hw,hc]
 ·simp[aew,Lh]
end Rm
namespace Rm
open Go Go.Proofs Cx
theorem aas (r:Realm)(c:Int):ao T 120 [aW r,.int c] (.bool (ay c r.cities.length)):=by
 refine .of_tree rfl (lA 126 (by kernel_rfl)) av1 ?_;by_cases h1:0≤c<;>by_cases h2:c<r.cities.length<;>simp[VH,h1,h2,ay]
def jM (n:Int):Bool:=decide (0≤n)&&decide (n≤100000)
theorem Qf (n:Int):ao T 121 [.int n] (.bool (jM n)):=by
 refine .of_tree rfl (lA 127 (by kernel_rfl)) av2 ?_;by_cases h1:0≤n<;>by_cases h2:n≤100000<;>simp[VI,h1,h2,jM]
theorem GP (n:Int):ao T 154 [.int n] (.bool (jM n)):=by
 refine .of_tree rfl (lA 132 (by kernel_rfl)) aus ?_;by_cases h1:0≤n<;>by_cases h2:n≤100000<;>simp[Uc,h1,h2,jM]
def afo (t:Tenor):Bool:=decide (t.kind=0)||decide (t.kind=1)
theorem W2 (t:Tenor):ao T 122 [tg t] (.bool (afo t)):=by
 refine .of_tree rfl (lA 128 (by kernel_rfl)) av0 ?_;by_cases h1:t.kind=0<;>simp[VG,h1,afo]
theorem abJ (y m d:Int):∃n:Int,ao T 172 [.int y,.int m,.int d] (.int n):=by
 by_cases h:m<3
 ·refine⟨?w,?h⟩
  case h=>
   refine ao.of_tree (d:=.int ?w) rfl Xm afM ?_;simp[Me,h];exact rfl
 ·refine⟨?v,?g⟩
  case g=>
   refine ao.of_tree (d:=.int ?v) rfl Xm afM ?_;simp[Me,h];exact rfl
def EY (y m d:Int):Int:=(abJ y m d).choose
theorem Kq (y m d:Int):ao T 172 [.int y,.int m,.int d] (.int (EY y m d)):=(abJ y m d).choose_spec
def A5 (y m:Int):Int:=if m=12 then 31 else IntKind.i64.wrap (EY y (IntKind.i64.wrap (m+1)) 1-EY y m 1)
theorem J9 (y m:Int):ao T 168 [.int y,.int m] (.int (A5 y m)):=by
 refine .of_tree rfl (lA 134 (by kernel_rfl)) auq ?_;unfold A5;by_cases h:m=12
 ·simp[Md,h]
 ·simp[Md,h];refine⟨_,Kq _ _ _,_,Kq _ _ _,?_⟩;simp
theorem af8 (y m d:Int):∃n e:Int,ao T 167 [.int y,.int m,.int d] (.tup [.int n,.int e])∧(e=0→0≤n∧n≤100000):=by
 by_cases h0:(((2000≤y∧y≤2300)∧1≤m)∧m≤12)∧1≤d
 ·by_cases h2:d≤A5 y m
  ·cases h1:jM (EY y m d)
   ·refine⟨0,3,.of_tree rfl Hf Mc ?_,by simp⟩;simp[Ce];rw[if_pos h0];refine⟨_,J9 y m,?_⟩;simp[h0,h2];refine⟨_,Kq _ _ _,_,GP _,?_⟩;simp[h1]
   ·refine⟨EY y m d,0,.of_tree rfl Hf Mc ?_,fun _=>by simpa [jM] using h1⟩;simp[Ce];rw[if_pos h0];exact⟨_,J9 y m,⟨h0,h2⟩,_,Kq _ _ _,_,GP _,h1,rfl⟩
  ·refine⟨0,3,.of_tree rfl Hf Mc ?_,by simp⟩;simp[Ce];rw[if_pos h0];refine⟨_,J9 y m,?_⟩;simp[h0,h2]
 ·refine⟨0,3,.of_tree rfl Hf Mc ?_,by simp⟩;simp[Ce];rw[if_neg h0];intro a1 a2 a3 a4 a5;exact absurd ⟨⟨⟨⟨a1,a2⟩,a3⟩,a4⟩,a5⟩ h0
theorem W4 (r:Realm)(fr to:Int)(hl:r.usances.length≤100000):∃n e:Int,ao T 88 [aW r,.int fr,.int to] (.tup [.int n,.int e])∧(e=0→∃u,u∈r.usances∧n=u.days)∧(e=0↔∃u,u∈r.usances∧u.fr=fr∧u.to=to):=by
 let p:Usance→Bool:=fun u=>decide (u.fr=fr)&&decide (u.to=to)
 refine⟨match r.usances.find? p with|some u=>u.days|none=>0,match r.usances.find? p with|some u=>0|none=>4,?_,?_⟩
 ·refine .of_tree rfl (lA 26 (by kernel_rfl)) avu ?_;simp[Vb];refine aN.scan r.usances.length (fun k=>p (r.usances.getD k default)=false) (fun k=>[.int 0,.int 0,.int k]) (fun _=>[]) ?_ (fun k hk hj aD=>?_) (fun k hk hj aD=>?_) (fun hj=>?_)
  ·simp
  ·have hw:=bk hk (by omega);have hn:¬(r.usances[k].fr=fr∧r.usances[k].to=to):=by simpa [p,hk] using aD
   simp[SO,FV,hk,hw,hn]
  ·have nl:=Dz hk (by simpa [hk] using aD) (fun j cm=>by have:=hj j cm;simpa [show j<r.usances.length by omega] using this);have hc:r.usances[k].fr=fr∧r.usances[k].to=to:=by simpa [p,hk] using aD
   rw[nl];simp[SO,FV,hk,hc]
  ·have nl:=IY (l:=r.usances) (p:=p) (fun j cm=>by have:=hj j cm;simpa [cm] using this);rw[nl];simp[SO,FV]
 ·cases h:r.usances.find? p with
  |none=>
   refine⟨fun h=>(by cases h),fun h=>(by cases h),fun⟨u,hu,h1,h2⟩=>?_⟩;have:=v9.1 h u hu;simp[p,h1,h2] at this
  |some u=>
   have h2:u.fr=fr∧u.to=to:=by simpa [p] using Mr h
   exact⟨fun _=>⟨u,yQ h,rfl⟩,fun _=>⟨u,yQ h,h2⟩,fun _=>rfl⟩
theorem agx (r:Realm)(fr to:Int)(hl:r.usances.length≤100000):∃n e:Int,ao T 88 [aW r,.int fr,.int to] (.tup [.int n,.int e])∧(e=0→∃u,u∈r.usances∧n=u.days):=by
 obtain⟨n,e,h1,h2,_⟩:=W4 r fr to hl;exact⟨n,e,h1,h2⟩
end Rm
namespace Rm
open Go Go.Proofs Cx
theorem XL (R Y:Int)(hR:0≤R∧R<146097)(h1:365*Y≤R-R/1460+R/36524-R/146096)(h2:R-R/1460+R/36524-R/146096<365*Y+365):0≤R-(365*Y+Y/4-Y/100)∧R-(365*Y+Y/4-Y/100)≤500:=by
 have k0:R/36524≤R/1460:=by omega
 have k1:Y/4≤R/1460:=by omega
 have hY:0≤Y:=by omega
 have hc:R/36524=0∨R/36524=1∨R/36524=2∨R/36524=3∨R/36524=4:=by omega
 have k2:25*(R/36524)≤R/1460:=by omega
 refine⟨?_,?_⟩
 ·rcases Int.lt_or_le Y (100*(R/36524)) with hy|hy
  ·have k3:Y/4≤25*(R/36524)-1:=by omega
   have k4:R/36524-1≤Y/100:=by omega
   omega
  ·have k3:R/36524≤Y/100:=by omega
   omega
 ·omega
theorem XM (n:Int)(h:0≤n∧n≤100400):ao T 166 [.int n] (.tup [.int (fc n).1,.int (fc n).2.1,.int (fc n).2.2]):=by
 refine .of_tree rfl (lA 133 (by kernel_rfl)) aun ?_;have w:∀x:Int,-1000000000≤x→x≤1000000000→IntKind.i64.wrap x=x:=fun x a b=>bU (by omega);have t:∀x y:Int,0≤x→x.tdiv y=x/y:=fun x y hx=>WJ hx;have u:∀x y:Int,0≤x→x.tmod y=x%y:=fun x y hx=>agi hx;simp[T8];unfold fc;simp only[];rw[w (n+730425) (by omega) (by omega),u (n+730425) 146097 (by omega),t (n+730425) 146097 (by omega)];have hR:0≤(n+730425)%146097∧(n+730425)%146097<146097:=by omega
 have hE:0≤(n+730425)/146097∧(n+730425)/146097<100:=by omega
 generalize (n+730425)%146097=R at*;generalize (n+730425)/146097=e at*;rw[t R 1460 (by omega),t R 36524 (by omega),t R 146096 (by omega),w (R/1460) (by omega) (by omega),w (R-R/1460) (by omega) (by omega),w (R/36524) (by omega) (by omega),w (R-R/1460+R/36524) (by omega) (by omega),w (R/146096) (by omega) (by omega),w (R-R/1460+R/36524-R/146096) (by omega) (by omega),t (R-R/1460+R/36524-R/146096) 365 (by omega)];have hY:0≤(R-R/1460+R/36524-R/146096)/365∧(R-R/1460+R/36524-R/146096)/365<400:=by omega
 have hD:0≤R-(365*((R-R/1460+R/36524-R/146096)/365)+(R-R/1460+R/36524-R/146096)/365/4-(R-R/1460+R/36524-R/146096)/365/100)∧R-(365*((R-R/1460+R/36524-R/146096)/365)+(R-R/1460+R/36524-R/146096)/365/4-(R-R/1460+R/36524-R/146096)/365/100)≤500:=by
  exact XL R _ hR (by omega) (by omega)
 generalize (R-R/1460+R/36524-R/146096)/365=Y at*;rw[w Y (by omega) (by omega),w (365*Y) (by omega) (by omega),t Y 4 (by omega),t Y 100 (by omega),w (Y/4) (by omega) (by omega),w (Y/100) (by omega) (by omega),w (365*Y+Y/4) (by omega) (by omega),w (365*Y+Y/4-Y/100) (by omega) (by omega),w (R-(365*Y+Y/4-Y/100)) (by omega) (by omega)];generalize R-(365*Y+Y/4-Y/100)=D at*;rw[w (5*D) (by omega) (by omega),w (5*D+2) (by omega) (by omega),t (5*D+2) 153 (by omega)];have hM:0≤(5*D+2)/153∧(5*D+2)/153≤20:=by omega
 generalize (5*D+2)/153=M at*;rw[w M (by omega) (by omega),w (M+3) (by omega) (by omega),w (M+3-12) (by omega) (by omega),w e (by omega) (by omega),w (400*e) (by omega) (by omega),w (Y+400*e) (by omega) (by omega),w (Y+400*e+1) (by omega) (by omega)];rw[w (153*M) (by omega) (by omega),w (153*M+2) (by omega) (by omega),t (153*M+2) 5 (by omega),w ((153*M+2)/5) (by omega) (by omega),w (D-(153*M+2)/5) (by omega) (by omega),w (D-(153*M+2)/5+1) (by omega) (by omega)];refine⟨?_,?_,rfl⟩
 ·generalize (if 12<M+3 then M+3-12 else M+3)=m;split<;>rfl
 ·split<;>rfl
theorem af1 (d n:Int):∃x e:Int,ao T 153 [.int d,.int n] (.tup [.int x,.int e])∧(e=0→0≤x∧x≤100000):=by
 by_cases h0:jM d=true∧-5000≤n∧n≤5000
 ·have hd:0≤d∧d≤100400:=by have:=h0.1;simp[jM] at this;omega
  obtain⟨A,hA⟩:∃A,A=IntKind.i64.wrap (IntKind.i64.wrap (IntKind.i64.wrap (IntKind.i64.wrap (12*(fc d).1)+(fc d).2.1)-1)+n):=⟨_,rfl⟩
  obtain⟨Y,hY⟩:∃Y,Y=IntKind.i64.wrap (A.tdiv 12):=⟨_,rfl⟩
  obtain⟨M,hM⟩:∃M,M=IntKind.i64.wrap (A.tmod 12+1):=⟨_,rfl⟩
  obtain⟨x,e,hD,hb⟩:=af8 Y M (if A5 Y M<(fc d).2.2 then A5 Y M else(fc d).2.2);refine⟨x,e,.of_tree rfl Xl afL ?_,hb⟩;have n1:¬n< -5000:=by omega
  have n2:¬5000<n:=by omega
  simp[Mb,n1,n2];refine⟨_,GP d,?_⟩;simp[h0.1];refine⟨_,XM d hd,?_⟩;simp[←hA,←hY,←hM];refine⟨_,J9 Y M,?_⟩;by_cases hl:A5 Y M<(fc d).2.2
  ·simp only[if_pos hl] at hD;simp[hl];refine⟨_,hD,?_⟩;simp
  ·simp only[if_neg hl] at hD;simp[hl];refine⟨_,hD,?_⟩;simp
 ·refine⟨0,3,.of_tree rfl Xl afL ?_,by simp⟩;simp[Mb];refine⟨_,GP d,?_⟩;simp;intro a b c;exact absurd ⟨a,b,c⟩ h0
end Rm
namespace Rm
open Go Go.Proofs Cx
theorem OJ (l:List Int)(x:Int):hasB l x=l.contains x:=by
 rw[sE];simp[hasB]
def GA (c:City):Prop:=c.rest.length≤100000∧c.feasts.length≤100000∧c.shut.length≤100000
theorem ahR (n:Int)(h:0≤n∧n≤100400):(0≤(fc n).2.1∧(fc n).2.1≤30)∧-1000≤(fc n).2.2∧(fc n).2.2≤1000:=by
 unfold fc;simp only[];have hR:0≤(n+730425)%146097∧(n+730425)%146097<146097:=by omega
 generalize (n+730425)%146097=R at*;have hD:=XL R ((R-R/1460+R/36524-R/146096)/365) hR (by omega) (by omega);generalize (R-R/1460+R/36524-R/146096)/365=Y at*;generalize R-(365*Y+Y/4-Y/100)=D at*;have hM:0≤(5*D+2)/153∧(5*D+2)/153≤20:=by omega
 generalize (5*D+2)/153=M at*;refine⟨?_,by omega,by omega⟩;split<;>omega
theorem art (c:City)(hc:GA c)(n:Int)(h:0≤n∧n≤100400):ao T 170 [gw c,.int n] (.bool (xS c.rest c.feasts c.shut n)):=by
 refine .of_tree rfl (lA 141 (by kernel_rfl)) aur ?_;simp[Ub];refine⟨_,XM n h,?_⟩;have w5:IntKind.i64.wrap (n+5)=n+5:=bU (by omega);have m7:(n+5).tmod 7=(n+5)%7:=agi (by omega);obtain⟨h1,h2,h3⟩:=hc;simp[w5,m7];refine⟨_,uu c.rest ((n+5)%7) (by omega),?_⟩;unfold xS;rw[←OJ];cases hr:hasB c.rest ((n+5)%7)
 ·obtain⟨gL,de⟩:=ahR n h;have wm:IntKind.i64.wrap (100*(fc n).2.1)=100*(fc n).2.1:=bU (by omega);have wd:IntKind.i64.wrap (100*(fc n).2.1+(fc n).2.2)=100*(fc n).2.1+(fc n).2.2:=bU (by omega);simp[hr,wm,wd];refine⟨_,uu c.feasts _ (by omega),?_⟩;have e1:=OJ c.feasts (100*(fc n).2.1+(fc n).2.2);have e2:=OJ c.shut n;simp at e1 e2;cases hf:hasB c.feasts (100*(fc n).2.1+(fc n).2.2)
  ·simp[hf,←e1,←e2];exact⟨_,uu c.shut n (by omega),rfl⟩
  ·simp[hf,←e1]
 ·simp[hr]
end Rm
