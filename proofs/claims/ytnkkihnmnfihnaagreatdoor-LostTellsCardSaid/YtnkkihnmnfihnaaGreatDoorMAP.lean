import Derived.Test.YtnkkihnmnfihnaaGreatDoorMAO
import Derived.Lib.Mul64
open Go.IntKind (i64)
set_option linter.all false
namespace Rm
open Go Go.Proofs Cx
def de (f:Tm->Int):List Tm->Int->Int
 |[],n=>n
 |a::l,n=>if 60<n+f a then n+f a else de f l (n+f a)
def bu:Nat->Tm->Int
 |0,_=>61
 |L+1,t=>de (bu L) t.args 1
def ew (f:Tm->Int)(l:List Tm):Int:=(l.map f).sum
def Md {f:Tm->Int}{l:List Tm}{k:Nat}(h:k<l.length):ew f (l.take (k+1))=ew f (l.take k)+f l[k]:=by
 unfold ew;rw[DF f h,List.sum_append];simp
def ad3 {f:Tm->Int}:∀{l:List Tm} {n:Int} {k:Nat},(hk:k<l.length)->(∀j,j<k->n+ew f (l.take (j+1))<=60)->60<n+ew f (l.take (k+1))->de f l n=n+ew f (l.take (k+1))
 |a::l,n,0,hk,_,h=>by
  simp[ew] at h ⊢;unfold de;rw[if_pos (by omega)]
 |a::l,n,k+1,hk,hj,h=>by
  have h0:=hj 0 (by omega);simp[ew] at h0;unfold de;rw[if_neg (by omega)];have e:∀j,n+ew f ((a::l).take (j+1+1))=n+f a+ew f (l.take (j+1)):=by intro j;simp[ew];omega
  rw[ad3 (l:=l) (k:=k) (by simpa using hk) (λj Lr=>by have:=hj (j+1) (by omega);rw[e] at this;exact this) (by rw[<-e];exact h),e]
def ad5 {f:Tm->Int}:∀{l:List Tm} {n:Int},(∀j,j<l.length->n+ew f (l.take (j+1))<=60)->de f l n=n+ew f l
 |[],n,_=>by simp[de,ew]
 |a::l,n,hj=>by
  have h0:=hj 0 (by simp);simp[ew] at h0;unfold de;rw[if_neg (by omega)];have e:∀j,n+ew f ((a::l).take (j+1+1))=n+f a+ew f (l.take (j+1)):=by intro j;simp[ew];omega
  rw[ad5 (l:=l) (λj gO=>by have:=hj (j+1) (by simpa using gO);rw[e] at this;exact this)];simp[ew];omega
def ad4 {f:Tm->Int}(hf:∀a,1<=f a):∀{l:List Tm} {n:Int},n<=de f l n
 |[],n=>by simp[de]
 |a::l,n=>by
  unfold de;have:=hf a;split
  .omega
  .have:=ad4 hf (l:=l) (n:=n+f a);omega
def wX:∀(L:Nat) (t:Tm),1<=bu L t
 |0,t=>by simp[bu]
 |L+1,t=>ad4 (wX L)
def ad6 {f:Tm->Int}{B:Int}(hf:∀a,f a<=B)(hB:0<=B):∀{l:List Tm} {n:Int},n<=60->de f l n<=60+B
 |[],n,h=>by simp[de];omega
 |a::l,n,h=>by
  unfold de;have:=hf a;split
  .omega
  .exact ad6 hf hB (by omega)
def ad8:∀(L:Nat) (t:Tm),bu L t<=61+60*L
 |0,t=>by simp[bu]
 |L+1,t=>by
  have:=ad6 (f:=bu L) (λa=>ad8 L a) (by omega) (l:=t.args) (n:=1) (by omega);show de _ _ _<=_;omega
def ad7 {f:Tm->Int}(hf:∀a,1<=f a):∀{l:List Tm} {n:Int},de f l n<=60->(n:Int)+l.length<=60/\∀a,a∈l->f a<=60-n
 |[],n,h=>by simp[de] at h ⊢;exact h
 |a::l,n,h=>by
  unfold de at h;have:=hf a;split at h
  .omega
  .obtain⟨h1,h2⟩:=ad7 hf h;refine⟨by simp;omega,λb hb=>?_⟩;rcases cQ.1 hb with rfl|hb
   .omega
   .have:=h2 b hb;omega
def Gl {L:Nat}{t:Tm}(h:bu (L+1) t<=60):t.args.length<=59/\∀a,a∈t.args->bu L a<=60:=by
 obtain⟨h1,h2⟩:=ad7 (wX L) h;exact⟨by omega,λa ha=>by have:=h2 a ha;omega⟩
def Wh:∀(L:Nat) (t:Tm) (lv:Int),t.OK->L<=8->lv=9-(L:Int)->aq T 150 [dm t,.int lv] (.int (bu L t))
 |0,t,lv,ht,hL,Ro=>by
  refine .of_tree rfl aac aiW ?_;subst Ro;simp[Oj,bu]
 |L+1,t,lv,ht,hL,Ro=>by
  refine .of_tree rfl aac aiW ?_;have hl:=ht.len;have h8:¬(8<lv):=by omega
  have zc:i64.wrap (lv+1)=lv+1:=bn (by omega);simp[Oj,h8];refine .scan t.args.length (λk=>1+ew (bu L) (t.args.take (k+1))<=60) (λk=>[.int (1+ew (bu L) (t.args.take k)),.int k]) (λ_=>[]) ?_ (λk hk hj ho=>?_) (λk hk hj ho=>?_) (λhj=>?_)
  .simp[ew]
  all_goals try rw[Md hk] at ho
  .have hw:i64.wrap ((k:Int)+1)=(k:Int)+1:=bn (by omega);have fL:=Wh L t.args[k] (lv+1) (ht.arg (cG hk)) (by omega) (by omega);rw[Md hk];have hs:0<=ew (bu L) (t.args.take k):=by
    unfold ew;have:∀(l:List Tm),0<=(l.map (bu L)).sum:=by
     intro l
     induction l with
     |nil=>simp
     |cons a l ih=>have:=wX L a;simp;omega
    exact this _
   have ij:=wX L t.args[k];generalize ew (bu L) (t.args.take k)=m at*;generalize bu L t.args[k]=v at*;have uP:i64.wrap (1+m+v)=1+m+v:=bn (by omega);have eT:¬60<1+m+v:=by omega
   simp[VS,HO,hk,zc];refine⟨_,fL,?_⟩;simp[uP,eT,hw];omega
  .have fL:=Wh L t.args[k] (lv+1) (ht.arg (cG hk)) (by omega) (by omega);have hf:bu (L+1) t=1+ew (bu L) (t.args.take (k+1)):=ad3 hk hj (by rw[Md hk];omega);rw[hf,Md hk];have hs:0<=ew (bu L) (t.args.take k)/\1+ew (bu L) (t.args.take k)<=60:=by
    constructor
    .unfold ew;have:∀(l:List Tm),0<=(l.map (bu L)).sum:=by
       intro l
       induction l with
       |nil=>simp
       |cons a l ih=>have:=wX L a;simp;omega
     exact this _
    .cases k with
     |zero=>simp[ew]
     |succ k=>exact hj k (by omega)
   have ij:=wX L t.args[k];have cW:=ad8 L t.args[k];generalize ew (bu L) (t.args.take k)=m at*;generalize bu L t.args[k]=v at*;have uP:i64.wrap (1+m+v)=1+m+v:=bn (by omega);have eT:60<1+m+v:=by omega
   simp[VS,HO,hk,zc];refine⟨_,fL,?_⟩;simp[uP,eT];omega
  .have hf:bu (L+1) t=1+ew (bu L) t.args:=ad5 hj;rw[hf];simp[VS,HO]
def oP (ws ts:List Int):Nat->Int
 |0=>-1
 |k+1=>if ws.getD k 0=-1/\oP ws ts k=-1 then ts.getD k 0 else oP ws ts k
def qa (ws ts:List Int)(k:Nat):Bool:=if ws.getD k 0=-1 then decide (oP ws ts k=-1)||decide (ts.getD k 0=oP ws ts k) else decide (ts.getD k 0=ws.getD k 0)
def s9 (t:Tm)(ks:List Int):Int×Int:=
 if t.op<0\/13<t.op then(0,1) else if t.op=0\/t.op=1\/t.op=2 then sZ t else
 if ks.length≠(dI t.op).1.length\/t.n≠0 then(0,2) else
 if fu (dI t.op).1.length (qa (dI t.op).1 ks)=false then(0,11) else if(dI t.op).2=-1 then(oP (dI t.op).1 ks (dI t.op).1.length,0) else((dI t.op).2,0)
def bD:Nat->Tm->Int×Int
 |0,_=>(0,0)
 |L+1,t=>if da t.args.length (λk=>(bD L (t.args.getD k default)).2)≠0 then(0,da t.args.length (λk=>(bD L (t.args.getD k default)).2)) else s9 t (t.args.map λa=>(bD L a).1)
def Et (L:Nat)(t:Tm):bD (L+1) t=if da t.args.length (λk=>(bD L (t.args.getD k default)).2)≠0 then(0,da t.args.length (λk=>(bD L (t.args.getD k default)).2)) else s9 t (t.args.map λa=>(bD L a).1):=rfl
def V7 {α:Type}(A:List α)(z:α){k n:Nat}(hA:A.length=n)(hk:k<n):(A.take k++List.replicate (n-k) z).set k A[k]=A.take (k+1)++List.replicate (n-(k+1)) z:=by
 have h1:(A.take k).length=k:=by rw[ed];omega
 rw[List.set_append_right _ _ (by omega),h1,OL];have:n-k=(n-(k+1))+1:=by omega
 rw[this,List.replicate_succ,List.set_cons_zero,lR (by omega),sm];rfl
def axv (op:Int):(dI op).1.length<=3:=by
 unfold dI;repeat' split
 all_goals simp
def Wg:∀(L:Nat) (t:Tm),t.OK->bu L t<=60->aq T 151 [dm t] (.tup [.int (bD L t).1,.int (bD L t).2])
 |0,t,ht,hm=>by simp[bu] at hm
 |L+1,t,ht,hm=>by
  refine zyw 76 aAE ?_;obtain⟨hl,hp⟩:=Gl hm;simp[YG];refine⟨by omega,?_⟩;refine nT t.args.length (λk=>(bD L (t.args.getD k default)).2) (λk=>[.int 0,.int 0,.int k]) (λk=>[ints ((t.args.map λa=>(bD L a).1).take k++List.replicate (t.args.length-k) 0)]) ?_ (λk hk ho=>?_) (λk hk ho hb=>?_) (λhj=>?_)
  .simp[ints]
  .have hw:=aV hk (by omega);have cO:=cG hk;have fL:=Wg L t.args[k] (ht.arg cO) (hp _ cO);have hs:=V7 (t.args.map λa=>(bD L a).1) 0 (n:=t.args.length) (by simp) hk;rw[<-hs];have hlen:((t.args.map λa=>(bD L a).1).take k++List.replicate (t.args.length-k) (0:Int)).length=t.args.length:=by simp;omega
   have yM:(t.args.map λa=>(bD L a).1)[k]'(by simpa using hk)=(bD L t.args[k]).1:=by simp
   rw[yM];generalize (t.args.map λa=>(bD L a).1).take k++List.replicate (t.args.length-k) (0:Int)=A at*;simp[hk] at ho;rw[ho] at fL;generalize (bD L t.args[k]).1=kd at*;simp[VQ,HM,hk];refine⟨_,fL,?_⟩;simp[hlen,hk,hw,ints]
  .have cO:=cG hk;have fL:=Wg L t.args[k] (ht.arg cO) (hp _ cO);have hf:bD (L+1) t=(0,(bD L (t.args.getD k default)).2):=by
    rw[Et,hb,if_pos ho]
   rw[hf];simp[hk] at ho ⊢;simp[VQ,HM,hk];refine⟨_,fL,?_⟩;simp[ho]
  .have hf:bD (L+1) t=s9 t (t.args.map λa=>(bD L a).1):=by
    rw[Et,hj];simp
   rw[hf]
   have e0:(t.args.map λa=>(bD L a).1).take t.args.length++List.replicate (t.args.length-t.args.length) 0=t.args.map λa=>(bD L a).1:=by
    rw[OL,DZ (by simp)];simp
   rw[e0];have hkl:(t.args.map λa=>(bD L a).1).length=t.args.length:=by simp
   generalize (t.args.map λa=>(bD L a).1)=ks at*;simp[VQ,HM];unfold s9;by_cases h1:t.op<0
   .simp[h1]
   by_cases h2:13<t.op
   .simp[h1,h2]
   simp[h1,h2];by_cases h3:t.op=0\/t.op=1\/t.op=2
   .have eI:(t.op=0\/t.op=1)\/t.op=2:=by omega
    simp[h3,eI];refine⟨_,axT t,?_⟩;simp
   have eI:¬((t.op=0\/t.op=1)\/t.op=2):=by omega
   simp[h3,eI];refine⟨_,axV _,?_⟩;have LQ:=axv t.op;generalize dI t.op=sh at*;simp;by_cases h4:ks.length=sh.1.length
   case neg=>
    have nD:¬((ks.length:Int)=sh.1.length):=by omega
    have KS:¬t.args.length=sh.1.length:=by omega
    simp[h4,nD,KS]
   have nD:(ks.length:Int)=sh.1.length:=by omega
   have KS:t.args.length=sh.1.length:=by omega
   by_cases h5:t.n=0
   case neg=>simp[h4,nD,KS,h5]
   simp[h4,nD,KS,h5];refine gV sh.1.length (qa sh.1 ks) (λk=>[.int 0,.int 0,.int (oP sh.1 ks k),.int k]) (λ_=>[]) ?_ (λk hk ho=>?_) (λk hk ho hb=>?_) (λhj=>?_)
   .simp[oP]
   .have hw:=aV hk (by omega);have cn:k<ks.length:=by omega
    simp only[oP];unfold qa at ho;simp only[aL,bL hk,bL cn,jc] at ho ⊢;generalize oP sh.1 ks k=c at*;by_cases a1:sh.1[k]=-1
    .by_cases a2:c=-1
     .simp[Ds,xo,hk,cn,hw,ints,a1,a2]
     .simp[a1,a2] at ho;simp[Ds,xo,hk,cn,hw,ints,a1,a2,ho]
    .simp[a1] at ho;simp[Ds,xo,hk,cn,hw,ints,a1,ho]
   .rw[hb];have cn:k<ks.length:=by omega
    unfold qa at ho;simp only[aL,bL hk,bL cn,jc] at ho;generalize oP sh.1 ks k=c at*;by_cases a1:sh.1[k]=-1
    .by_cases a2:c=-1
     .simp[a1,a2] at ho
     .simp[a1,a2] at ho;simp[Ds,xo,hk,cn,ints,a1,a2,ho]
    .simp[a1] at ho;simp[Ds,xo,hk,cn,ints,a1,ho]
   .rw[hj];simp[Ds,xo];by_cases a1:sh.2=-1<;>simp[a1]
def kH (t:Tm):Int×Int:=if 60<bu 8 t then(0,6) else bD 8 t
def aiM (t:Tm)(ht:t.OK):aq T 132 [dm t] (.tup [.int (kH t).1,.int (kH t).2]):=by
 refine zyw 74 aAA ?_;simp[YB,kH];refine⟨_,Wh 8 t 1 ht (by omega) (by omega),?_⟩;by_cases h:60<bu 8 t
 .simp[h]
 simp[h];refine⟨_,Wg 8 t ht (by omega),?_⟩;simp
abbrev u (n:Nat):D:=.v (.int .u64 n)
def ajF (n:Int):IntKind.u64.wrap n=n%18446744073709551616:=rfl
def Ie {n:Int}(h:0<=n/\n<18446744073709551616):IntKind.u64.wrap n=n:=by
 rw[ajF];omega
def Ag {n:Nat}(h:n<18446744073709551616):IntKind.u64.wrap (n:Int)=n:=Ie (by omega)
def axw (a s:Nat)(h:s<=64):cC .shr .u64 a s=((a/2^s:Nat):Int):=by
 show Int.fdiv (a:Int) (2^(min (s:Int).toNat 64))=_;have:min (s:Int).toNat 64=s:=by simp;omega
 rw[this,ajT _ (Int.le_of_lt (Int.pow_pos (by decide)))];rw[Int.natCast_ediv,Int.natCast_pow];rfl
def O0 (a:Nat)(h:a<18446744073709551616):cC .and .u64 a 4294967295=((a%4294967296:Nat):Int):=by
 show IntKind.u64.wrap ((BitVec.ofInt 64 (a:Int)&&& BitVec.ofInt 64 4294967295).toNat:Nat)=_;have e:(BitVec.ofInt 64 (a:Int)&&& BitVec.ofInt 64 4294967295).toNat=a%4294967296:=by
  rw[BitVec.toNat_and];have e1:(BitVec.ofInt 64 (a:Int)).toNat=a:=by simp[BitVec.ofInt,BitVec.toNat_ofNat];omega
  have e2:(BitVec.ofInt 64 4294967295).toNat=2^32-1:=by decide
  rw[e1,e2,Nat.and_two_pow_sub_one_eq_mod]
 rw[e,Ag (by omega)]
@[simp] def DB (a:Nat):cC .shr .u64 a 32=((a/4294967296:Nat):Int):=axw a 32 (by decide)
set_option maxHeartbeats 2000000 in
def at1 (a b:Nat)(ha:a<18446744073709551616)(hb:b<18446744073709551616):aq T 185 [u a,u b] (.tup [u (a*b/18446744073709551616),u (a*b%18446744073709551616)]):=by
 refine zyw 88 ax9 ?_;obtain⟨h1,h2,h3,h4⟩:=Go.Lib.mul64_hi a b ha hb;have elo:IntKind.u64.wrap ((a:Int)*(b:Int))=((a*b%18446744073709551616:Nat):Int):=by rw[ajF,Int.natCast_emod,Int.natCast_mul];rfl
 have Qn:cC .shr .u64 (a:Int) 32=((a/4294967296:Nat):Int):=DB a;have ea0:cC .and .u64 (a:Int) 4294967295=((a%4294967296:Nat):Int):=O0 a ha;have Qo:cC .shr .u64 (b:Int) 32=((b/4294967296:Nat):Int):=DB b;have eb0:cC .and .u64 (b:Int) 4294967295=((b%4294967296:Nat):Int):=O0 b hb;have aGf:=Go.Lib.half_mul_le (a:=a/4294967296) (b:=b/4294967296) (by omega) (by omega);have aGe:=Go.Lib.half_mul_le (a:=a/4294967296) (b:=b%4294967296) (by omega) (by omega);have aGd:=Go.Lib.half_mul_le (a:=a%4294967296) (b:=b/4294967296) (by omega) (by omega);have aGc:=Go.Lib.half_mul_le (a:=a%4294967296) (b:=b%4294967296) (by omega) (by omega);have Rj:a*b/18446744073709551616<18446744073709551616:=by
  have:a*b<18446744073709551616*18446744073709551616:=Nat.mul_lt_mul'' ha hb;exact Nat.div_lt_of_lt_mul this
 simp only[Wr];generalize a/4294967296=a1 at*;generalize a%4294967296=a0 at*;generalize b/4294967296=b1 at*;generalize b%4294967296=b0 at*;have p11:IntKind.u64.wrap ((a1:Int)*(b1:Int))=((a1*b1:Nat):Int):=by rw[<-Int.natCast_mul];exact Ag (by omega)
 have p10:IntKind.u64.wrap ((a1:Int)*(b0:Int))=((a1*b0:Nat):Int):=by rw[<-Int.natCast_mul];exact Ag (by omega)
 have p01:IntKind.u64.wrap ((a0:Int)*(b1:Int))=((a0*b1:Nat):Int):=by rw[<-Int.natCast_mul];exact Ag (by omega)
 have p00:IntKind.u64.wrap ((a0:Int)*(b0:Int))=((a0*b0:Nat):Int):=by rw[<-Int.natCast_mul];exact Ag (by omega)
 rw[<-h4] at Rj ⊢;generalize a1*b1=P at*;generalize a1*b0=Q at*;generalize a0*b1=R at*;generalize a0*b0=S at*;have s1:cC .shr .u64 (S:Int) 32=((S/4294967296:Nat):Int):=DB S;have s2:IntKind.u64.wrap ((Q:Int)+((S/4294967296:Nat):Int))=((Q+S/4294967296:Nat):Int):=by rw[Ie (by omega)];omega
 generalize S/4294967296=S1 at*;generalize hT:Q+S1=TT at*;have s3:cC .shr .u64 (TT:Int) 32=((TT/4294967296:Nat):Int):=DB TT;have s4:cC .and .u64 (TT:Int) 4294967295=((TT%4294967296:Nat):Int):=O0 TT (by omega);have s5:IntKind.u64.wrap (((TT%4294967296:Nat):Int)+(R:Int))=((TT%4294967296+R:Nat):Int):=by rw[Ie (by omega)];omega
 generalize hU:TT%4294967296+R=U at*;have s6:cC .shr .u64 (U:Int) 32=((U/4294967296:Nat):Int):=DB U;have s7:IntKind.u64.wrap ((P:Int)+((TT/4294967296:Nat):Int))=((P+TT/4294967296:Nat):Int):=by rw[Ie (by omega)];omega
 have s8:IntKind.u64.wrap (((P+TT/4294967296:Nat):Int)+((U/4294967296:Nat):Int))=((P+TT/4294967296+U/4294967296:Nat):Int):=by rw[Ie (by omega)];omega
 simp[-DB,-Int.natCast_add,-Int.natCast_mul,-Int.natCast_ediv,-Int.natCast_emod,elo,Qn,ea0,Qo,eb0,p11,p10,p01,p00,s1,s2,s3,s4,s5,s6,s7,s8]
def nN (m:Nat):Int:=if m<1099511627776 then m else 1099511627776
def rG (a b:Int):Int:=if(decide (a<0)!=decide (b<0))=true then-nN (a.natAbs*b.natAbs) else nN (a.natAbs*b.natAbs)
def agA (m:Nat):0<=nN m/\nN m<=1099511627776:=by unfold nN;split<;>omega
set_option maxHeartbeats 1000000 in
def axU (a b:Int)(ha:-1099511627776<=a/\a<=1099511627776)(hb:-1099511627776<=b/\b<=1099511627776):aq T 177 [.int a,.int b] (.int (rG a b)):=by
 refine zyw 87 aAK ?_;have wa:IntKind.u64.wrap (a.natAbs:Int)=a.natAbs:=Ag (by omega);have wb:IntKind.u64.wrap (b.natAbs:Int)=b.natAbs:=Ag (by omega);have w0a:i64.wrap (0-a)=-a:=by rw[bn (by omega)];omega
 have w0b:i64.wrap (0-b)=-b:=by rw[bn (by omega)];omega
 have aBg:i64.wrap (-a)=-a:=bn (by omega);have aBh:i64.wrap (-b)=-b:=bn (by omega);have ea:(if a< -a then D.int (-a) else D.int a)=D.int a.natAbs:=by split<;>congr 1<;>omega
 have eb:(if b< -b then D.int (-b) else D.int b)=D.int b.natAbs:=by split<;>congr 1<;>omega
 have ea':(if a< -a then-a else a)=(a.natAbs:Int):=by split<;>omega
 have eb':(if b< -b then-b else b)=(b.natAbs:Int):=by split<;>omega
 simp[YL,aBg,aBh,ea,eb,ea',eb'];rw[wa,wb];refine⟨_,at1 a.natAbs b.natAbs (by omega) (by omega),?_⟩;unfold rG;generalize a.natAbs*b.natAbs=m;have hs:(decide (a<0)!=decide (b<0))=false↔(a<0↔b<0):=by
  by_cases h1:a<0<;>by_cases h2:b<0<;>simp[h1,h2]
 have key:((if((m/18446744073709551616:Nat):Int)=0/\((m%18446744073709551616:Nat):Int)<1099511627776 then i64.wrap ((m%18446744073709551616:Nat):Int) else 1099511627776):Int)=nN m:=by
  unfold nN;by_cases hm:m<1099511627776
  .have h1:m/18446744073709551616=0:=by omega
   have h2:m%18446744073709551616=m:=by omega
   rw[h1,h2,if_pos ⟨rfl,by omega⟩,if_pos hm,bn (by omega)]
  .rw[if_neg hm,if_neg];rintro⟨h1,h2⟩;omega
 have eR:=agA m;have arG:(if((m/18446744073709551616:Nat):Int)=0/\((m%18446744073709551616:Nat):Int)<1099511627776 then D.int (i64.wrap ((m%18446744073709551616:Nat):Int)) else D.int 1099511627776)=D.int (nN m):=by
  rw[<-key];split<;>rfl
 show(if a<0↔b<0 then(if((m/18446744073709551616:Nat):Int)=0/\((m%18446744073709551616:Nat):Int)<1099511627776 then D.int (i64.wrap ((m%18446744073709551616:Nat):Int)) else D.int 1099511627776)=_ else
  i64.wrap (-(if((m/18446744073709551616:Nat):Int)=0/\((m%18446744073709551616:Nat):Int)<1099511627776 then i64.wrap ((m%18446744073709551616:Nat):Int) else 1099511627776))=_)
 rw[arG,key];generalize nN m=n at*;split
 .rename_i h;rw[hs.2 h];simp
 .rename_i h;have:(decide (a<0)!=decide (b<0))=true:=by
   cases e:(decide (a<0)!=decide (b<0)) with
   |true=>rfl
   |false=>exact absurd (hs.1 e) h
  rw[this,bn (by omega)];simp
def tU (op a b:Int):Int:=if op=9 then mA (a+b) else if op=10 then mA (a-b) else if op=11 then rG a b else if op=12 then min a b else max a b
def axR (op a b:Int)(ha:-1099511627776<=a/\a<=1099511627776)(hb:-1099511627776<=b/\b<=1099511627776):aq T 171 [.int op,.int a,.int b] (.int (tU op a b)):=by
 refine zyw 86 aAD ?_;have w1:i64.wrap (a+b)=a+b:=bn (by omega);have w2:i64.wrap (a-b)=a-b:=bn (by omega);simp[YE,tU,w1,w2];by_cases h1:op=9
 .simp[h1];exact N2 _
 by_cases h2:op=10
 .simp[h1,h2];exact N2 _
 by_cases h3:op=11
 .simp[h1,h2,h3];exact axU a b ha hb
 by_cases h4:op=12
 .simp[h1,h2,h3,h4];by_cases h5:b<a<;>simp[h5]<;>omega
 simp[h1,h2,h3,h4];by_cases h5:b>a<;>simp[h5]<;>omega
def fm (b:Bool):Cell:=if b then⟨true,1⟩ else⟨true,0⟩
def xz (b:Bool):aq T 169 [.bool b] (cv (fm b)):=by
 refine zyw 84 aAM ?_;cases b<;>simp[YN,fm]<;>rfl
def cX:Cell:=⟨false,0⟩
@[simp] def aG6:D.agg [.bool false,.int 0]=cv cX:=zyz
@[simp] def aG7:cX.known=false:=rfl
@[simp] def aG8:cX.n=0:=rfl
def cellAt (cs:List Cell)(v:Int):Cell:=cs.getD v.toNat default
def kX (cs:List Cell)(v:Int):Cell:=if cs.length<=v.toNat\/(cellAt cs v).known=false then cX else if(kY v).1=1 then fm (decide ((cellAt cs v).n≠0)) else⟨true,mA (cellAt cs v).n⟩
abbrev Qq (cs:List Cell):D:=.agg [cells cs]
def axW (cs:List Cell)(v:Int)(hv:0<=v):aq T 152 [Qq cs,.int v] (cv (kX cs v)):=by
 refine zyw 83 aAJ ?_;obtain⟨k,rfl⟩:=vI hv;simp[YK,kX,cellAt];by_cases h1:cs.length<=k
 .simp[h1]
 have cD:k<cs.length:=by omega
 simp[h1,cD];cases h2:cs[k].known
 .simp[h2]
 simp[h2];refine⟨_,aiN _,?_⟩;by_cases h3:(kY k).1=1
 .simp[h3,cD];refine⟨_,xz _,?_⟩;simp;rfl
 .simp[h3,cD];refine⟨_,N2 _,?_⟩;simp;rfl
@[simp] def aGs (a b:Int):(a==b)=decide (a=b):=zyz
@[simp] def aGt (a b:Int):(a !=b)= !decide (a=b):=zyz
def bp (l:List Cell)(k:Nat):Cell:=l.getD k default
def eP (op:Int)(l:List Cell):Cell:=
 if op=3 then(if(bp l 0).known=true then fm (decide ((bp l 0).n=0)) else cX)
 else if(op=4\/op=5)/\(bp l 0=fm (decide (op=5))\/bp l 1=fm (decide (op=5))) then fm (decide (op=5))
 else if op=6 then(if(bp l 1).known=true/\bp l 1=bp l 2 then bp l 1 else cX)
 else if(bp l 0).known=false\/(bp l 1).known=false then cX
 else if op=4\/op=5 then fm (decide (op=4))
 else if op=7 then fm (decide ((bp l 0).n<(bp l 1).n)) else if op=8 then fm (decide ((bp l 0).n=(bp l 1).n)) else⟨true,tU op (bp l 0).n (bp l 1).n⟩
def IF (a b:Cell):a=b↔a.known=b.known/\a.n=b.n:=by cases a;cases b;simp
def axS (op:Int)(l:List Cell)(h1:1<=l.length)(h2:op≠3->2<=l.length)(h3:op=6->3<=l.length)
 (hb:9<=op->(-1099511627776<=(bp l 0).n/\(bp l 0).n<=1099511627776)/\(-1099511627776<=(bp l 1).n/\(bp l 1).n<=1099511627776)) (h9:op<3\/8<op->9<=op):
 aq T 153 [.int op,cells l] (cv (eP op l)):=by
 refine zyw 85 aAF ?_;have g0:0<l.length:=by omega
 have yt:l[0]=bp l 0:=by simp[bp,g0]
 simp[YH];unfold eP;by_cases o3:op=3
 .simp[o3,g0,yt];cases e:(bp l 0).known
  .simp
  .simp[g0];refine⟨_,xz _,?_⟩;simp
 have g1:1<l.length:=by have:=h2 o3;omega
 have E5:l[1]=bp l 1:=by simp[bp,g1]
 have dp:(1:Int)<l.length:=by omega
 simp[o3];have fin:∀a b:Cell,(a=b)=(a.known=b.known/\a.n=b.n):=λa b=>propext (IF a b);rcases Ij (op=4) with o4|o4
 .subst o4;simp;refine⟨_,xz _,?_⟩;simp[g0,g1,dp,yt,E5,fin];split
  .rfl
  .split
   .rfl
   .refine⟨_,xz _,?_⟩;simp
 rcases Ij (op=5) with o5|o5
 .subst o5;simp;refine⟨_,xz _,?_⟩;simp[g0,g1,dp,yt,E5,fin];split
  .rfl
  .split
   .rfl
   .refine⟨_,xz _,?_⟩;simp
 rcases Ij (op=6) with o6|o6
 .subst o6;have g2:2<l.length:=by have:=h3 rfl;omega
  have gg2:l[2]=bp l 2:=by simp[bp,g2]
  have kc:(2:Int)<l.length:=by omega
  simp[g1,g2,dp,kc,E5,gg2,fin];cases e1:(bp l 1).known
  .simp
  by_cases e2:(bp l 1).known=(bp l 2).known/\(bp l 1).n=(bp l 2).n
  .rw[e1] at e2;simp[e1,e2]
  .rw[e1] at e2;have vX:¬((bp l 2).known=true/\(bp l 1).n=(bp l 2).n):=λh=>e2 ⟨h.1.symm,h.2⟩;simp only[e1,true_and,if_true]
   first|(rw[if_neg vX,if_neg vX])|(simp[vX])
 simp[o4,o5,o6,g0,g1,dp,yt,E5];cases e1:(bp l 0).known
 .simp
 cases e2:(bp l 1).known
 .simp
 simp[g1,dp,E5];rcases Ij (op=7) with o7|o7
 .subst o7;simp;refine⟨_,xz _,?_⟩;simp
 rcases Ij (op=8) with o8|o8
 .subst o8;simp;refine⟨_,xz _,?_⟩;simp
 simp[o7,o8];obtain⟨b1,b2⟩:=hb (h9 (by omega));refine⟨_,axR op _ _ b1 b2,?_⟩;simp;rfl
def bj:Nat->List Cell->Tm->Cell
 |0,_,_=>cX
 |L+1,cs,t=>if t.op=0\/t.op=1 then⟨true,t.n⟩ else if t.op=2 then kX cs t.n else
   if t.op=6/\(bp (t.args.map (bj L cs)) 0).known=true then bp (t.args.map (bj L cs)) (2-(bp (t.args.map (bj L cs)) 0).n).toNat else eP t.op (t.args.map (bj L cs))
def eV:Nat->List Cell->Tm->List Int
 |0,_,_=>[]
 |L+1,cs,t=>if t.op=0\/t.op=1 then[] else if t.op=2 then(if(kX cs t.n).known=true then[] else[t.n]) else
   if t.op=6/\(bp (t.args.map (bj L cs)) 0).known=true then(t.args.map (eV L cs)).getD (2-(bp (t.args.map (bj L cs)) 0).n).toNat [] else
   if(eP t.op (t.args.map (bj L cs))).known=true then[] else(t.args.map (eV L cs)).flatten
def yp (L:Nat)(cs:List Cell)(t:Tm):bj (L+1) cs t=if t.op=0\/t.op=1 then⟨true,t.n⟩ else if t.op=2 then kX cs t.n else
 if t.op=6/\(bp (t.args.map (bj L cs)) 0).known=true then bp (t.args.map (bj L cs)) (2-(bp (t.args.map (bj L cs)) 0).n).toNat else eP t.op (t.args.map (bj L cs)):=rfl
def Mh (L:Nat)(cs:List Cell)(t:Tm):eV (L+1) cs t=if t.op=0\/t.op=1 then[] else if t.op=2 then(if(kX cs t.n).known=true then[] else[t.n]) else
 if t.op=6/\(bp (t.args.map (bj L cs)) 0).known=true then(t.args.map (eV L cs)).getD (2-(bp (t.args.map (bj L cs)) 0).n).toNat [] else
 if(eP t.op (t.args.map (bj L cs))).known=true then[] else(t.args.map (eV L cs)).flatten:=rfl
def Ku {L:Nat}{t:Tm}{k:Int}(h:bD (L+1) t=(k,0)):(∀a,a∈t.args->(bD L a).2=0)/\s9 t (t.args.map λa=>(bD L a).1)=(k,0):=by
 rw[Et] at h;by_cases e:da t.args.length (λk=>(bD L (t.args.getD k default)).2)=0
 .rw[if_neg (by simpa using e)] at h;refine⟨λa ha=>?_,h⟩;obtain⟨j,hj,rfl⟩:=jV ha;have:=QA.1 e j hj;simpa [hj] using this
 .rw[if_pos e] at h;injection h with _ h
  exact absurd h e
inductive Node (ks:List Int) (t:Tm):Int->Prop where
 |int (h:t.op=0) (ha:t.args=[]) (hn:-1099511627776<=t.n/\t.n<=1099511627776):Node ks t 0
 |bool (h:t.op=1) (ha:t.args=[]) (hn:t.n=0\/t.n=1):Node ks t 1
 |var (h:t.op=2) (ha:t.args=[]) (hn:0<=t.n/\t.n<=19):Node ks t (kY t.n).1
 |not (h:t.op=3) (hk:ks=[1]):Node ks t 1
 |log (h:t.op=4\/t.op=5) (hk:ks=[1,1]):Node ks t 1
 |ite (k:Int) (h:t.op=6) (hk:ks=[1,k,k]):Node ks t k
 |less (h:t.op=7) (hk:ks=[0,0]):Node ks t 1
 |equal (k:Int) (h:t.op=8) (hk:ks=[k,k]):Node ks t 1
 |num (h:9<=t.op/\t.op<=13) (hk:ks=[0,0]):Node ks t 0
def ajA (v:Int):(kY v).1=0\/(kY v).1=1:=by
 unfold kY;repeat' split
 all_goals simp
def aug {t:Tm}{ks:List Int}{k:Int}(hl:ks.length=t.args.length)(dF:∀x,x∈ks->x=0\/x=1)(h:s9 t ks=(k,0)):Node ks t k:=by
 unfold s9 at h;split at h
 .injection h with _ h;cases h
 rename_i bV;split at h
 .rename_i h3;unfold sZ at h;split at h
  .injection h with _ h;cases h
  rename_i ha0;have ha:t.args=[]:=Ox (by omega);split at h
  .rename_i h0;split at h
   .injection h with _ h;cases h
   .rename_i hc;injection h with h _
    subst h;refine .int h0 ha ?_;unfold mA at hc;omega
  split at h
  .rename_i h0;split at h
   .injection h with _ h;cases h
   .rename_i hc;injection h with h _
    subst h;exact .bool h0 ha (by omega)
  split at h
  .injection h with _ h;cases h
  .rename_i g0 g1 hc;injection h with h _
   subst h;refine .var (by omega) ha ?_;unfold kY at hc;split at hc
   .simp at hc
   .omega
 rename_i h3;split at h
 .injection h with _ h;cases h
 rename_i hlen;have pW:ks.length=(dI t.op).1.length:=by
  refine sk λhh=>hlen (.inl hh)
 split at h
 .injection h with _ h;cases h
 rename_i aC;have kN:∀j,j<(dI t.op).1.length->qa (dI t.op).1 ks j=true:=xX.1 (by simpa using aC)
 have two:∀{n:Nat},ks.length=2->∃a b,ks=[a,b]:=λh=>by
  match ks,h with
  |[a,b],_=>exact⟨a,b,rfl⟩
 by_cases o3:t.op=3
 .have e:dI t.op=([1],1):=by simp[dI,o3]
  rw[e] at pW kN h
  match ks,pW with
  |[a],_=>
   have:=kN 0 (by simp);simp[qa] at this;simp at h;subst h this;exact .not o3 rfl
 by_cases Cy:t.op=4\/t.op=5
 .have e:dI t.op=([1,1],1):=by simp[dI,o3,Cy]
  rw[e] at pW kN h
  match ks,pW with
  |[a,b],_=>
   have t1:=kN 0 (by simp);have t2:=kN 1 (by simp);simp[qa] at t1 t2;simp at h;subst h t1 t2;exact .log Cy rfl
 by_cases o6:t.op=6
 .have e:dI t.op=([1,-1,-1],-1):=by simp[dI,o6]
  rw[e] at pW kN h
  match ks,pW,dF with
  |[a,b,c],_,dF=>
   have t1:=kN 0 (by simp);have t3:=kN 2 (by simp);have hb:=dF b (by simp);have sM:¬b=-1:=by omega
   simp[qa] at t1;simp[qa,oP,sM] at t3;simp[oP,sM] at h;subst h t1 t3;exact .ite _ o6 rfl
 by_cases o7:t.op=7
 .have e:dI t.op=([0,0],1):=by simp[dI,o7]
  rw[e] at pW kN h
  match ks,pW with
  |[a,b],_=>
   have t1:=kN 0 (by simp);have t2:=kN 1 (by simp);simp[qa] at t1 t2;simp at h;subst h t1 t2;exact .less o7 rfl
 by_cases o8:t.op=8
 .have e:dI t.op=([-1,-1],1):=by simp[dI,o8]
  rw[e] at pW kN h
  match ks,pW,dF with
  |[a,b],_,dF=>
   have t2:=kN 1 (by simp);have ha:=dF a (by simp);have han:¬a=-1:=by omega
   simp[qa,oP,han] at t2;simp at h;subst h t2;exact .equal _ o8 rfl
 have e:dI t.op=([0,0],0):=by simp[dI,o3,Cy,o6,o7,o8]
 rw[e] at pW kN h
 match ks,pW with
 |[a,b],_=>
  have t1:=kN 0 (by simp);have t2:=kN 1 (by simp);simp[qa] at t1 t2;simp at h;subst h t1 t2;exact .num (by omega) rfl
def Eu:∀{L:Nat} {t:Tm} {k:Int},bD (L+1) t=(k,0)->Node (t.args.map λa=>(bD L a).1) t k/\(k=0\/k=1)
 |L,t,k,h=>by
  obtain⟨h1,h2⟩:=Ku h
  have dF:∀x,x∈(t.args.map λa=>(bD L a).1)->x=0\/x=1:=by
   intro x hx;obtain⟨a,ha,rfl⟩:=fq.1 hx;cases L with
   |zero=>exact .inl rfl
   |succ L=>exact(Eu (L:=L) (t:=a) (k:=(bD (L+1) a).1) (by rw[<-h1 a ha])).2
  have hn:=aug (by simp) dF h2;refine⟨hn,?_⟩;cases hn with
  |int=>simp
  |bool=>simp
  |var=>exact ajA _
  |not=>simp
  |log=>simp
  |ite k _ hk=>exact dF k (by rw[hk];simp)
  |less=>simp
  |equal=>simp
  |num=>simp
def sw (k:Int)(c:Cell):Prop:=(c.known=false->c=cX)/\(c.known=true->(k=1->c.n=0\/c.n=1)/\(k=0->-1099511627776<=c.n/\c.n<=1099511627776))
def xp (k:Int):sw k cX:=⟨λ_=>rfl,λh=>by cases h⟩
def Dw (b:Bool):sw 1 (fm b):=⟨λh=>(by cases b<;>cases h),λ_=>⟨λ_=>(by cases b<;>simp[fm]),λh=>by cases h⟩⟩
def Qg (n:Int):-1099511627776<=mA n/\mA n<=1099511627776:=by unfold mA;omega
def axb (cs:List Cell)(v:Int)(hv:0<=v/\v<=19):sw (kY v).1 (kX cs v):=by
 unfold kX;split
 .exact xp _
 .split
  .rename_i h;rw[h];exact Dw _
  .rename_i h;refine⟨λh=>(by cases h),λ_=>⟨λh'=>absurd h' h,λ_=>Qg _⟩⟩
def avz (a b:Int):-1099511627776<=rG a b/\rG a b<=1099511627776:=by
 unfold rG;have:=agA (a.natAbs*b.natAbs);split<;>omega
def ako (op a b:Int)(ha:-1099511627776<=a/\a<=1099511627776)(hb:-1099511627776<=b/\b<=1099511627776):-1099511627776<=tU op a b/\tU op a b<=1099511627776:=by
 unfold tU;split
 .exact Qg _
 split
 .exact Qg _
 split
 .exact avz _ _
 split<;>omega
def adV {α β:Type}{f:α->β}{l:List α}{x:β}(h:l.map f=[x]):∃a,l=[a]/\f a=x:=by
 match l,h with
 |[a],h=>exact⟨a,rfl,by simpa using h⟩
def wV {α β:Type}{f:α->β}{l:List α}{x y:β}(h:l.map f=[x,y]):∃a b,l=[a,b]/\f a=x/\f b=y:=by
 match l,h with
 |[a,b],h=>exact⟨a,b,rfl,by simpa using h⟩
def L8 {α β:Type}{f:α->β}{l:List α}{x y z:β}(h:l.map f=[x,y,z]):∃a b c,l=[a,b,c]/\f a=x/\f b=y/\f c=z:=by
 match l,h with
 |[a,b,c],h=>exact⟨a,b,c,rfl,by simpa using h⟩
def Qx:∀{L:Nat} {t:Tm} {k:Int} (cs:List Cell),bD L t=(k,0)->sw k (bj L cs t)
 |0,t,k,cs,h=>xp _
 |L+1,t,k,cs,h=>by
  obtain⟨hn,hk⟩:=Eu h;obtain⟨ha,_⟩:=Ku h;have ih:∀a,a∈t.args->sw (bD L a).1 (bj L cs a):=λa hm=>Qx cs (show bD L a=((bD L a).1,0) by rw[<-ha a hm]);rw[yp];cases hn with
  |int h0 ha hn=>rw[if_pos (.inl h0)];exact⟨λh=>(by cases h),λ_=>⟨λh=>(by cases h),λ_=>hn⟩⟩
  |bool h0 ha hn=>rw[if_pos (.inr h0)];exact⟨λh=>(by cases h),λ_=>⟨λ_=>hn,λh=>by cases h⟩⟩
  |var h0 ha hn=>rw[if_neg (by omega),if_pos h0];exact axb cs _ hn
  |not h0 hk=>
   rw[if_neg (by omega),if_neg (by omega),if_neg (by omega)];unfold eP;rw[if_pos h0];split
   .exact Dw _
   .exact xp _
  |log h0 hk=>
   rw[if_neg (by omega),if_neg (by omega),if_neg (by omega)];unfold eP;rw[if_neg (by omega)];split
   .exact Dw _
   rw[if_neg (by omega)];split
   .exact xp _
   exact Dw _
  |ite k h0 cn=>
   obtain⟨a,b,c,hl,e1,e2,e3⟩:=L8 cn;rw[hl] at ih ⊢;have r1:=ih a (by simp);have r2:=ih b (by simp);have r3:=ih c (by simp);rw[e1] at r1;rw[e2] at r2;rw[e3] at r3;rw[if_neg (by omega),if_neg (by omega)];simp only[gn,vL,bp,vJ];split
   .rename_i hh;rcases(r1.2 hh.2).1 rfl with h1|h1<;>rw[h1]
    .exact r3
    .exact r2
   .unfold eP;rw[if_neg (by omega),if_neg (by omega),if_pos h0];simp only[bp,vJ,DV];split
    .exact r2
    .exact xp _
  |less h0 hk=>
   rw[if_neg (by omega),if_neg (by omega),if_neg (by omega)];unfold eP;rw[if_neg (by omega),if_neg (by omega),if_neg (by omega)];split
   .exact xp _
   repeat' split
   all_goals exact Dw _
  |equal k h0 hk=>
   rw[if_neg (by omega),if_neg (by omega),if_neg (by omega)];unfold eP;rw[if_neg (by omega),if_neg (by omega),if_neg (by omega)];split
   .exact xp _
   repeat' split
   all_goals exact Dw _
  |num h0 cn=>
   obtain⟨a,b,hl,e1,e2⟩:=wV cn;rw[hl] at ih ⊢;have r1:=ih a (by simp);have r2:=ih b (by simp);rw[e1] at r1;rw[e2] at r2;rw[if_neg (by omega),if_neg (by omega),if_neg (by omega)];unfold eP;rw[if_neg (by omega),if_neg (by omega),if_neg (by omega)];simp only[gn,vL,bp,vJ,DV];split
   .exact xp _
   rename_i FA;rw[if_neg (by omega),if_neg (by omega),if_neg (by omega)];have k1:(bj L cs a).known=true:=by
    cases e:(bj L cs a).known with
    |true=>rfl
    |false=>exact absurd (.inl e) FA
   have k2:(bj L cs b).known=true:=by
    cases e:(bj L cs b).known with
    |true=>rfl
    |false=>exact absurd (.inr e) FA
   exact⟨λh=>(by cases h),λ_=>⟨λh=>(by cases h),λ_=>ako _ _ _ ((r1.2 k1).2 rfl) ((r2.2 k2).2 rfl)⟩⟩
def aeh:∀(L:Nat) (cs:List Cell) (t:Tm),bu L t<=60->((eV L cs t).length:Int)<=bu L t
 |0,cs,t,h=>by simp[bu] at h
 |L+1,cs,t,h=>by
  have h1:=wX (L+1) t;obtain⟨hl,hp⟩:=Gl h;have hs:∀(l:List Tm) (n:Int),(∀a,a∈l->bu L a<=60)->de (bu L) l n<=60->((l.map (eV L cs)).flatten.length:Int)+n<=de (bu L) l n/\∀j,(((l.map (eV L cs)).getD j []).length:Int)+n<=de (bu L) l n:=by
   intro l
   induction l with
   |nil=>intro n _ _;simp[de]
   |cons a l ih=>
    intro n hp hm;have ha:=aeh L cs a (hp a (by simp));unfold de at hm ⊢;split at hm
    .omega
    .rename_i h60;rw[if_neg h60];obtain⟨i1,i2⟩:=ih (n+bu L a) (λb hb=>hp b (by simp[hb])) hm;refine⟨by rw[gn,ZP,jW];omega,λj=>?_⟩;cases j with
     |zero=>simp;omega
     |succ j=>have:=i2 j;simp at this ⊢;omega
  obtain⟨rn,fW⟩:=hs t.args 1 hp h;rw[Mh];split
  .simp;omega
  split
  .split<;>simp<;>omega
  split
  .have:=fW (2-(bp (t.args.map (bj L cs)) 0).n).toNat;show _<=de _ _ _;omega
  split
  .simp;omega
  .show _<=de _ _ _;omega
@[simp] def aHO (x y:List Int):vz (ints x) 0 (ints y)=ints y:=zyz
@[simp] def axB (x y:Cell):vz (cv x) 0 (cv y)=cv y:=zyz
@[simp] def aGu (a b:List Int):D.list (a.map D.int++b.map D.int)=ints (a++b):=by simp[ints]
def lists (l:List (List Int)):D:=.list (l.map ints)
@[simp] def aGG (l:List (List Int)):(lists l).l=l.map ints:=zyz
def ajI (l:List (List Int))(hl:l.length<=1000)(hs:l.flatten.length<=1000000):aq T 154 [lists l] (ints l.flatten):=by
 refine zyw 89 aAo ?_;simp[Yp];have hb:∀k,(l.take k).flatten.length<=l.flatten.length:=by
  intro k
  conv=>rhs;rw[<-OI k l]
  rw[List.flatten_append,jW];omega
 have bq:∀k (hk:k<l.length),(l.take (k+1)).flatten=(l.take k).flatten++l[k]:=λk hk=>by
  rw[lR hk,List.flatten_append];simp
 refine aN.forRounds l.length (λk=>[.int ((l.take k).flatten.length:Nat),.int k]) (λk=>[]) ?_ (λk hk=>?_) ?_
 .simp
 .have hw:=aV hk (by omega);have h1:=bq k hk;have h2:=hb (k+1);rw[h1] at h2 ⊢;rw[jW] at h2 ⊢;generalize (l.take k).flatten.length=m at*;have uP:i64.wrap ((m:Int)+(l[k].length:Int))=(m:Int)+l[k].length:=bn (by omega);have yY:¬((m:Int)+l[k].length<0):=by omega
  simp[ahU,NA,hk,hw,uP,yY]
 .simp[ahU,NA];have ab1:aq T 172 [.list [],.int (l.flatten.length:Nat)] (.list []):=by
   refine .of_ext (g:=λ_ ds=>KM ds) rfl ⟨0,λ_ _=>?_⟩;show(if(0:Int)<=(l.flatten.length:Nat)/\((l.flatten.length:Nat):Int)<=4294967296 then some (D.list []) else none)=some (D.list []);rw[if_pos (by omega)]
  rw[List.length_flatten] at ab1;refine⟨_,ab1,?_⟩;refine aN.forRounds l.length (λk=>[.none,.int k]) (λk=>[ints (l.take k).flatten]) ?_ (λk hk=>?_) ?_
  .simp[ints]
  .have hw:=aV hk (by omega);have h1:=bq k hk;have h2:=hb (k+1);rw[h1] at h2 ⊢;rw[jW] at h2;generalize (l.take k).flatten=m at*;simp[ahV,NB,hk,hw];omega
  .simp[ahV,NB]
def alg {op:Int}{l:List Cell}(h:(eP op l).known=false):eP op l=cX:=by
 have hy:∀b,(fm b).known=true:=λb=>by cases b<;>simp[fm]
 unfold eP at h ⊢;split<;>rename_i c1
 .rw[if_pos c1] at h;split<;>rename_i c2
  .rw[if_pos c2,hy] at h;cases h
  .rfl
 rw[if_neg c1] at h;split<;>rename_i c2
 .rw[if_pos c2,hy] at h;cases h
 rw[if_neg c2] at h;split<;>rename_i c3
 .rw[if_pos c3] at h;split<;>rename_i c4
  .rw[if_pos c4,c4.1] at h;cases h
  .rfl
 rw[if_neg c3] at h;split<;>rename_i c4
 .rfl
 rw[if_neg c4] at h
 repeat' split at h
 all_goals first|(rw[hy] at h;cases h)|cases h
def aiO:∀(L:Nat) (cs:List Cell) (t:Tm) (k:Int),t.OK->bu L t<=60->bD L t=(k,0)->aq T 133 [Qq cs,dm t] (.tup [cv (bj L cs t),ints (eV L cs t)])
 |0,cs,t,k,ht,hm,hc=>by simp[bu] at hm
 |L+1,cs,t,k,ht,hm,hc=>by
  refine zyw 82 aAI ?_;obtain⟨hl,hp⟩:=Gl hm;obtain⟨ha,_⟩:=Ku hc;obtain⟨hn,apU⟩:=Eu hc;have fL:∀a,a∈t.args->aq T 133 [Qq cs,dm a] (.tup [cv (bj L cs a),ints (eV L cs a)]):=λa dz=>aiO L cs a (bD L a).1 (ht.arg dz) (hp a dz) (by rw[<-ha a dz]);have pZ:∀a,a∈t.args->sw (bD L a).1 (bj L cs a):=λa dz=>Qx cs (show bD L a=((bD L a).1,0) by rw[<-ha a dz]);have Rz:∀a,a∈t.args->(eV L cs a).length<=60:=λa dz=>by have:=aeh L cs a (hp a dz);have:=hp a dz;omega
  by_cases dF:t.op=0\/t.op=1
  ·
   have e1:bj (L+1) cs t=⟨true,t.n⟩:=by rw[yp,if_pos dF]
   have e2:eV (L+1) cs t=[]:=by rw[Mh,if_pos dF]
   rw[e1,e2];rcases dF with h|h<;>simp[H9,h]<;>exact⟨rfl,rfl⟩
  have o0:t.op≠0:=λh=>dF (.inl h);have o1:t.op≠1:=λh=>dF (.inr h);by_cases o2:t.op=2
  .have hv:0<=t.n:=by
    cases hn with
    |var h0 ha hn=>exact hn.1
    |_=>omega
   have e1:bj (L+1) cs t=kX cs t.n:=by rw[yp,if_neg dF,if_pos o2]
   have e2:eV (L+1) cs t=if(kX cs t.n).known=true then[] else[t.n]:=by rw[Mh,if_neg dF,if_pos o2]
   rw[e1,e2];simp[H9,o2];refine⟨_,axW cs t.n hv,?_⟩;cases e:(kX cs t.n).known
   .have:kX cs t.n=cX:=by
     unfold kX at e ⊢;split
     .rfl
     .rename_i h;rw[if_neg h] at e;split at e
      .cases hb:decide ((cellAt cs t.n).n≠0)<;>rw[hb] at e<;>cases e
      .cases e
    rw[this];simp[ints]
   .have h:kX cs t.n=⟨true,(kX cs t.n).n⟩:=by rw[<-e]
    rw[h];simp[ints]
    try rfl
  have hlen:1<=t.args.length/\(t.op≠3->2<=t.args.length)/\(t.op=6->3<=t.args.length):=by
   cases hn with
   |int h0 ha hn=>omega
   |bool h0 ha hn=>omega
   |var h0 ha hn=>omega
   |not h0 hk=>obtain⟨a,hl,_⟩:=adV hk;rw[hl];simp;omega
   |log h0 hk=>obtain⟨a,b,hl,_⟩:=wV hk;rw[hl];simp;omega
   |ite k h0 hk=>obtain⟨a,b,c,hl,_⟩:=L8 hk;rw[hl];simp
   |less h0 hk=>obtain⟨a,b,hl,_⟩:=wV hk;rw[hl];simp;omega
   |equal k h0 hk=>obtain⟨a,b,hl,_⟩:=wV hk;rw[hl];simp;omega
   |num h0 hk=>obtain⟨a,b,hl,_⟩:=wV hk;rw[hl];simp;omega
  have hb9:9<=t.op->(-1099511627776<=(bp (t.args.map (bj L cs)) 0).n/\(bp (t.args.map (bj L cs)) 0).n<=1099511627776)/\(-1099511627776<=(bp (t.args.map (bj L cs)) 1).n/\(bp (t.args.map (bj L cs)) 1).n<=1099511627776):=by
   intro h9;have rb:∀c:Cell,sw 0 c->-1099511627776<=c.n/\c.n<=1099511627776:=by
    intro c hr;cases e:c.known with
    |false=>rw[hr.1 e];simp
    |true=>exact(hr.2 e).2 rfl
   cases hn with
   |num h0 hk=>
    obtain⟨a,b,hl,ea,eb⟩:=wV hk;rw[hl] at pZ ⊢;have r1:=pZ a (by simp);have r2:=pZ b (by simp);rw[ea] at r1;rw[eb] at r2;exact⟨rb _ r1,rb _ r2⟩
   |log h0 hk=>omega
   |_=>omega
  have h6:t.op=6->(bp (t.args.map (bj L cs)) 0).known=true->(bp (t.args.map (bj L cs)) 0).n=0\/(bp (t.args.map (bj L cs)) 0).n=1:=by
   intro o6 FA;cases hn with
   |ite k h0 hk=>
    obtain⟨a,b,c,hl,ea,_⟩:=L8 hk;rw[hl] at pZ FA ⊢;have r1:=pZ a (by simp);rw[ea] at r1;exact(r1.2 FA).1 rfl
   |log h0 hk=>omega
   |num h0 hk=>omega
   |_=>omega
  have bV:t.op<3\/8<t.op->9<=t.op:=by
   cases hn with
   |log h0 hk=>omega
   |num h0 hk=>omega
   |_=>omega
  have e1:bj (L+1) cs t=if t.op=6/\(bp (t.args.map (bj L cs)) 0).known=true then bp (t.args.map (bj L cs)) (2-(bp (t.args.map (bj L cs)) 0).n).toNat else eP t.op (t.args.map (bj L cs)):=by
   rw[yp,if_neg dF,if_neg o2]
  have e2:eV (L+1) cs t=if t.op=6/\(bp (t.args.map (bj L cs)) 0).known=true then(t.args.map (eV L cs)).getD (2-(bp (t.args.map (bj L cs)) 0).n).toNat [] else if(eP t.op (t.args.map (bj L cs))).known=true then[] else(t.args.map (eV L cs)).flatten:=by
   rw[Mh,if_neg dF,if_neg o2]
  rw[e1,e2];simp[H9,o0,o1,o2];refine⟨by omega,?_⟩;refine aN.forRounds t.args.length (λk=>[.int k]) (λk=>[cells ((t.args.map (bj L cs)).take k++List.replicate (t.args.length-k) cX),lists ((t.args.map (eV L cs)).take k++List.replicate (t.args.length-k) [])]) ?_ (λk hk=>?_) ?_
  .simp[cells,lists,ints]
  .have hw:=aV hk (by omega);have cO:=cG hk;have hr:=fL _ cO;have s1:=V7 (t.args.map (bj L cs)) cX (n:=t.args.length) (by simp) hk;have s2:=V7 (t.args.map (eV L cs)) [] (n:=t.args.length) (by simp) hk;rw[<-s1,<-s2];have l1:((t.args.map (bj L cs)).take k++List.replicate (t.args.length-k) cX).length=t.args.length:=by simp;omega
   have l2:((t.args.map (eV L cs)).take k++List.replicate (t.args.length-k) []).length=t.args.length:=by simp;omega
   have g1:(t.args.map (bj L cs))[k]'(by simpa using hk)=bj L cs t.args[k]:=by simp
   have g2:(t.args.map (eV L cs))[k]'(by simpa using hk)=eV L cs t.args[k]:=by simp
   rw[g1,g2];generalize (t.args.map (bj L cs)).take k++List.replicate (t.args.length-k) cX=A at*;generalize (t.args.map (eV L cs)).take k++List.replicate (t.args.length-k) []=B at*;generalize bj L cs t.args[k]=c at*;generalize eV L cs t.args[k]=d at*;simp[VR,HN,hk];refine⟨_,hr,?_⟩;simp[hw,hk,l1,l2,cells,lists]
  .have hA:(t.args.map (bj L cs)).take t.args.length++List.replicate (t.args.length-t.args.length) cX=t.args.map (bj L cs):=by rw[OL,List.replicate_zero,nm,DZ (by simp)]
   have hB:(t.args.map (eV L cs)).take t.args.length++List.replicate (t.args.length-t.args.length) []=t.args.map (eV L cs):=by rw[OL,List.replicate_zero,nm,DZ (by simp)]
   have lA:(t.args.map (bj L cs)).length=t.args.length:=by simp
   have lB:(t.args.map (eV L cs)).length=t.args.length:=by simp
   have jL:∀l:List Tm,(∀a,a∈l->a∈t.args)->((l.map (eV L cs)).flatten.length<=l.length*60):=by
    intro l
    induction l with
    |nil=>intro _;simp
    |cons a l ih=>
     intro h;have h1:=Rz a (h a (by simp));have h2:=ih (λb hb=>h b (by simp[hb]));rw[gn,ZP,jW,lQ];omega
   have jL:=jL t.args (λa h=>h);have hBg:∀m:Nat,(Option.map (eV L cs) t.args[m]?).getD []=(t.args.map (eV L cs)).getD m []:=λm=>by simp[aL]
   rw[hA,hB];generalize t.args.map (bj L cs)=A at*;generalize t.args.map (eV L cs)=B at*;have g0:0<A.length:=by omega
   have yt:A[0]=bp A 0:=by simp[bp,g0]
   by_cases KU:t.op=6/\(bp A 0).known=true
   .obtain⟨o6,kn⟩:=KU;have hv:=h6 o6 kn;have hw:i64.wrap (2-(bp A 0).n)=2-(bp A 0).n:=bn (by omega);have h3:3<=t.args.length:=hlen.2.2 o6;rw[if_pos ⟨o6,kn⟩,if_pos ⟨o6,kn⟩];obtain⟨m,dz⟩:∃m:Nat,m=(2-(bp A 0).n).toNat:=⟨_,rfl⟩
    have FD:m<A.length:=by omega
    have Rp:m<B.length:=by omega
    simp[VR,HN,o6,kn,g0,yt,hw,<-dz,FD,Rp,cells,lists];refine⟨by omega,by omega,by simp[bp,FD],?_⟩;rw[hBg,aL,bL Rp];rfl
   .rw[if_neg KU,if_neg KU];have apf:=axS t.op A (by omega) (by omega) (by omega) hb9 bV;have aph:=ajI B (by omega) (by omega);simp[VR,HN,g0,yt];rw[if_neg KU];refine⟨_,apf,?_⟩;cases e:(eP t.op A).known
    .have eK:eP t.op A=cX:=alg e;rw[eK];simp;exact aph
    .have h:eP t.op A=⟨true,(eP t.op A).n⟩:=by rw[<-e]
     rw[h];simp[ints]
     try rfl
def l9 (n:Nat)(g:Nat->Bool):Int:=if(List.range n).findIdx g<n then((List.range n).findIdx g:Nat) else-1
def zi (n:Nat)(g:Nat->Bool):(l9 n g=-1/\∀k,k<n->g k=false)\/∃k:Nat,k<n/\l9 n g=k/\g k=true/\∀i,i<k->g i=false:=by
 unfold l9;split
 .rename_i h;refine .inr ⟨_,h,rfl,?_,λi hi=>?_⟩
  .have:=List.findIdx_getElem (p:=g) (xs:=List.range n) (w:=by simpa using h);simpa using this
  .have:=List.not_of_lt_findIdx (p:=g) (xs:=List.range n) hi;simpa using this
 .rename_i h;refine .inl ⟨rfl,λk hk=>?_⟩;have:=List.not_of_lt_findIdx (p:=g) (xs:=List.range n) (i:=k) (by omega);simpa using this
def Gc {n:Nat}{g:Nat->Bool}(h:∀k,k<n->g k=false):l9 n g=-1:=by
 rcases zi n g with⟨h1,_⟩|⟨k,hk,_,h2,_⟩
 .exact h1
 .rw[h k hk] at h2;cases h2
def Gd {n k:Nat}{g:Nat->Bool}(hk:k<n)(h:g k=true)(hj:∀i,i<k->g i=false):l9 n g=k:=by
 rcases zi n g with⟨_,h1⟩|⟨m,hm,h1,h2,h3⟩
 .rw[h1 k hk] at h;cases h
 .rcases Nat.lt_trichotomy m k with h4|h4|h4
  .rw[hj m h4] at h2;cases h2
  .rw[h1,h4]
  .rw[h3 k h4] at h;cases h
def Ss (n:Nat)(g:Nat->Bool):decide (0<=l9 n g)=(List.range n).any g:=by
 rcases zi n g with⟨h1,h2⟩|⟨m,hm,h1,h2,h3⟩
 .rw[h1]
  symm
  simp;exact h2
 .rw[h1];simp;exact⟨m,hm,h2⟩
def ajP (l:List Rule)(f:Nat)(caps:List D)(g:Nat->Bool)(hg:∀k (hk:k<l.length),aq T f (uk l[k]::caps) (.bool (g k)))(hl:l.length<=4294967296):
 aq T 130 [rules l,.clo f caps] (.int (l9 l.length g)):=by
 refine zyw 73 aAw ?_;simp[Yx];refine .scan l.length (λk=>g k=false) (λk=>[.int 0,.int k]) (λ_=>[]) ?_ (λk hk hj ho=>?_) (λk hk hj ho=>?_) (λhj=>?_)
 .simp
 .have hw:=aV hk hl;simp[VM,HI,hk,hw];refine⟨_,_,⟨rfl,rfl⟩,_,hg k hk,?_⟩;simp[ho,hw]
 .have he:=Gd hk (by simpa using ho) hj;simp[VM,HI,hk,he];refine⟨_,_,⟨rfl,rfl⟩,_,hg k hk,?_⟩;simp[ho]
 .have he:=Gc hj;simp[VM,HI,he]
def ajQ (l:List Int)(f:Nat)(caps:List D)(g:Nat->Bool)(hg:∀k (hk:k<l.length),aq T f (.int l[k]::caps) (.bool (g k)))(hl:l.length<=4294967296):
 aq T 165 [ints l,.clo f caps] (.int (l9 l.length g)):=by
 refine zyw 68 aAx ?_;simp[Yy];refine .scan l.length (λk=>g k=false) (λk=>[.int 0,.int k]) (λ_=>[]) ?_ (λk hk hj ho=>?_) (λk hk hj ho=>?_) (λhj=>?_)
 .simp
 .have hw:=aV hk hl;simp[VN,HJ,hk,hw,ints];refine⟨_,_,⟨rfl,rfl⟩,_,hg k hk,?_⟩;simp[ho,hw]
 .have he:=Gd hk (by simpa using ho) hj;simp[VN,HJ,hk,he,ints];refine⟨_,_,⟨rfl,rfl⟩,_,hg k hk,?_⟩;simp[ho]
 .have he:=Gc hj;simp[VN,HJ,he,ints]
def ajN (l:List Alter)(f:Nat)(caps:List D)(g:Nat->Bool)(hg:∀k (hk:k<l.length),aq T f (qU l[k]::caps) (.bool (g k)))(hl:l.length<=4294967296):
 aq T 164 [alters l,.clo f caps] (.int (l9 l.length g)):=by
 refine zyw 59 aAu ?_;simp[Yv];refine .scan l.length (λk=>g k=false) (λk=>[.int 0,.int k]) (λ_=>[]) ?_ (λk hk hj ho=>?_) (λk hk hj ho=>?_) (λhj=>?_)
 .simp
 .have hw:=aV hk hl;simp[VK,HG,hk,hw];refine⟨_,_,⟨rfl,rfl⟩,_,hg k hk,?_⟩;simp[ho,hw]
 .have he:=Gd hk (by simpa using ho) hj;simp[VK,HG,hk,he];refine⟨_,_,⟨rfl,rfl⟩,_,hg k hk,?_⟩;simp[ho]
 .have he:=Gc hj;simp[VK,HG,he]
def ajL (l:List Int)(f:Nat)(caps:List D)(g:Nat->Bool)(hg:∀k (hk:k<l.length),aq T f (.int l[k]::caps) (.bool (g k)))(hl:l.length<=4294967296):
 aq T 148 [ints l,.clo f caps] (.bool ((List.range l.length).any g)):=by
 refine zyw 67 aAr ?_;simp[Ys];refine⟨_,ajQ l f caps g hg hl,?_⟩;have:=Ss l.length g;simp[<-this]
def ajJ (l:List Alter)(f:Nat)(caps:List D)(g:Nat->Bool)(hg:∀k (hk:k<l.length),aq T f (qU l[k]::caps) (.bool (g k)))(hl:l.length<=4294967296):
 aq T 144 [alters l,.clo f caps] (.bool ((List.range l.length).any g)):=by
 refine zyw 58 aAp ?_;simp[Yq];refine⟨_,ajN l f caps g hg hl,?_⟩;have:=Ss l.length g;simp[<-this]
def uo (cs:List Cell)(t:Tm):Cell:=if(kH t).2=0 then bj 8 cs t else cX
def aax {t:Tm}(h:(kH t).2=0):bu 8 t<=60/\bD 8 t=((kH t).1,0):=by
 unfold kH at h ⊢;split at h
 .cases h
 .rename_i hm;rw[if_neg hm];exact⟨by omega,by rw[<-h]⟩
def axQ (t:Tm)(cs:List Cell)(ht:t.OK):aq T 117 [dm t,cells cs] (cv (uo cs t)):=by
 refine zyw 81 aAB ?_;simp[YC,uo];refine⟨_,aiM t ht,?_⟩;by_cases h:(kH t).2=0
 .obtain⟨h1,h2⟩:=aax h;simp[h];refine⟨_,aiO 8 cs t _ ht h1 h2,?_⟩;simp
  try rfl
 .simp[h]
  try rfl
def rB:List Int:=[6,7,10,12,13,14,15,16,20,21]
def eE (ask:Int):Int×Bool:=if ask<0\/22<=ask then(0,false) else if hasB rB ask then(0,true) else(1,true)
def TZ (ask:Int):aq T 113 [.int ask] (.tup [.int (eE ask).1,.bool (eE ask).2]):=by
 refine zyw 63 ayx ?_;simp[WO,eE];by_cases h0:ask<0
 .simp[h0]
 by_cases h1:22<=ask
 .simp[h0,h1]
 simp[h0,h1];refine⟨_,DR rB ask (by decide),?_⟩;cases h:hasB rB ask<;>simp[h]
def Mi:Tm:=⟨0,0,[]⟩
def ng (o:Order)(ask:Int)(k:Nat):Bool:=decide ((o.rules.getD k default).ask=ask)
def xq (o:Order)(i:Int):Tm:=(o.rules.getD i.toNat default).term
def findF (o:Order)(ask:Int):Tm×Int:=
 if(eE ask).2=false then(Mi,1) else if l9 o.rules.length (ng o ask)<0 then(Mi,4) else
    if(kH (xq o (l9 o.rules.length (ng o ask)))).2≠0\/(kH (xq o (l9 o.rules.length (ng o ask)))).1≠(eE ask).1 then(Mi,11) else(xq o (l9 o.rules.length (ng o ask)),0)
def NM {o:Order}(ho:o.OK){m:Nat}(hm:m<o.rules.length):o.rules[m].term.OK:=(ho.2.2 _ (cG hm)).2
def SU:Mi.OK:=by
 exact .mk 0 0 [] (by unfold aQ;omega) (by unfold aQ;omega) (by decide) (λ_ h=>by cases h)
def amN {o:Order}(ho:o.OK)(ask:Int):(findF o ask).1.OK:=by
 unfold findF;split
 .exact SU
 split
 .exact SU
 split
 .exact SU
 .rename_i h _;rcases zi o.rules.length (ng o ask) with⟨h1,h2⟩|⟨m,hm,h1,h2,h3⟩
  .exact absurd (by rw[h1];decide) h
  .rw[h1];simp[xq,hm];exact NM ho hm
def amL (r:Rule)(ask:Int):aq T 131 [uk r,.ref (.int ask)] (.bool (decide (r.ask=ask))):=by
 refine zyw 72 ayy ?_;simp[WR]
def au8 (o:Order)(ask:Int)(ho:o.OK)(hl:o.rules.length<=4294967296):aq T 116 [iO o,.int ask] (.tup [dm (findF o ask).1,.int (findF o ask).2]):=by
 refine zyw 71 ayz ?_;simp[WQ,findF];refine⟨_,TZ ask,?_⟩;cases h0:(eE ask).2
 .simp[h0]
  try rfl
 simp[h0];refine⟨_,ajP o.rules 131 [.ref (.int ask)] (ng o ask) (λk hk=>by simpa [ng,hk] using amL o.rules[k] ask) hl,?_⟩;rcases zi o.rules.length (ng o ask) with⟨h1,h2⟩|⟨m,hm,h1,h2,h3⟩
 .rw[h1];simp
  try rfl
 .rw[h1];have yY:¬((m:Int)<0):=by omega
  have F1:o.rules[m].term.OK:=NM ho hm;simp[hm,xq,yY];refine⟨_,aiM _ F1,?_⟩;by_cases h4:(kH o.rules[m].term).2=0<;>by_cases h5:(kH o.rules[m].term).1=(eE ask).1<;>simp[h4,h5]<;>try rfl
def lS (o:Order)(ask:Int)(cs:List Cell):Cell×Int:=
 if(findF o ask).2≠0 then(cX,(findF o ask).2) else
    (if(eE ask).1=0/\(uo cs (findF o ask).1).known=true then⟨true,min (max (uo cs (findF o ask).1).n 0) 20000⟩ else uo cs (findF o ask).1,0)
def au6 (o:Order)(ask:Int)(cs:List Cell)(ho:o.OK)(hl:o.rules.length<=4294967296):aq T 90 [iO o,.int ask,cells cs] (.tup [cv (lS o ask cs).1,.int (lS o ask cs).2]):=by
 refine zyw 70 ayw ?_;simp[WN];refine⟨_,au8 o ask ho hl,?_⟩;have hf:(findF o ask).1.OK:=amN ho ask;by_cases h:(findF o ask).2=0
 .simp[h,lS];refine⟨_,axQ _ cs hf,_,TZ ask,?_⟩;generalize uo cs (findF o ask).1=c;obtain⟨kn,n⟩:=c;by_cases h1:(eE ask).1=0
  .cases kn
   .simp[h1,cv]
   .by_cases h2:n<0
    .have:min (max n 0) 20000=0:=by omega
     simp[h1,cv,h2,this];rfl
    .by_cases h3:20000<n
     .have:min (max n 0) 20000=20000:=by omega
      simp[h1,cv,h2,h3,this];rfl
     .have:min (max n 0) 20000=n:=by omega
      simp[h1,cv,h2,h3,this];rfl
  .simp[h1,cv]
 .simp[h,lS]
  try rfl
def ah5 (b:Bool):aq T 146 [.bool b] (cv (fm b)):=by
 refine zyw 61 aAm ?_;cases b<;>simp[Yn,fm]<;>rfl
def yq (kind sign:Int)(x:Fact):Bool:=decide (x.kind=kind)&&decide (x.at_=sign)
def jE (f:File)(kind sign:Int):Cell:=match f.facts.find? (yq kind sign) with|none=>cX|some x=>fm (decide (x.n≠0))
def v5 {α:Type}{p:α->Bool}:∀{l:List α} {k:Nat} (hk:k<l.length),p l[k]=true->(∀j (hj:j<k),p (l[j]'(by omega))=false)->l.find? p=some l[k]
 |a::l,0,hk,h,hj=>by simp at h;simp[h]
 |a::l,k+1,hk,h,hj=>by
  have h0:=hj 0 (by omega);simp at h0;simp only[Oz,h0,List.getElem_cons_succ];exact v5 (by simpa using hk) (by simpa using h) (λj bR=>by simpa using hj (j+1) (by omega))
def yr {α:Type}{p:α->Bool}{l:List α}(h:∀j (hj:j<l.length),p l[j]=false):l.find? p=none:=by
 rw[xP];intro x hx;obtain⟨j,hj,rfl⟩:=jV hx;rw[h j hj];decide
def HS (f:File)(kind sign:Int)(hl:f.facts.length<=4294967296):aq T 147 [aS f,.int kind,.int sign] (cv (jE f kind sign)):=by
 refine zyw 62 aAj ?_;simp[Yl];refine .scan f.facts.length (λk=>yq kind sign (f.facts.getD k default)=false) (λk=>[.int k]) (λ_=>[cv cX]) ?_ (λk hk hj ho=>?_) (λk hk hj ho=>?_) (λhj=>?_)
 .simp
 .have hw:=aV hk hl;simp[hk,yq] at ho;by_cases h1:f.facts[k].kind=kind<;>by_cases h2:f.facts[k].at_=sign
  .exact absurd h2 (ho h1)
  all_goals simp[VH,HF,hk,hw,h1,h2]
 .have hw:=aV hk hl;have hf:jE f kind sign=fm (decide (f.facts[k].n≠0)):=by
   unfold jE;rw[v5 hk (by simpa [hk] using ho) (λj bR=>by have:=hj j bR;simpa [show j<f.facts.length by omega] using this)]
  simp[hk,yq] at ho;simp[VH,HF,hk,hw,ho,hf];refine⟨_,ah5 _,?_⟩;simp
  try rfl
 .have hf:jE f kind sign=cX:=by
   unfold jE;rw[yr (λj bR=>by have:=hj j bR;simpa [bR] using this)]
  simp[VH,HF,hf]
  try rfl
def dZ (r:Realm)(c:Int):Int:=if aw c r.cities.length=true then(r.cities.getD c.toNat default).order else-1
def tA (r:Realm)(c:Int):aq T 127 [aX r,.int c] (.int (dZ r c)):=by
 refine zyw 60 az7 ?_;simp[X9,dZ];refine⟨_,gH c r.cities.length,?_⟩;cases h:aw c r.cities.length
 .simp[h]
 .simp[aw] at h;have h1:c.toNat<r.cities.length:=by omega
  simp[h,h1]
def Ia (day:Int)(l:List Sign):List Sign:=l.takeWhile λs=>decide (s.day<=day)
def Zm (day:Int)(l:List Act):List Act:=l.takeWhile λs=>decide (s.day<=day)
def jD (n:Nat)(a:Alter):Bool:=decide (a.at_<=(n:Int))
def j8 (n:Nat)(x:Fact):Bool:=aw x.at_ n
def cm (f:File)(day:Int):File:=
 ⟨f.bill,Ia day f.signs,f.alters.filter (jD (Ia day f.signs).length),Zm day f.acts,f.facts.filter (j8 (Ia day f.signs).length)⟩
def Ad {α:Type}(p:α->Bool):∀(l:List α),∃m,m<=l.length/\l.takeWhile p=l.take m/\(∀k (hk:k<l.length),k<m->p l[k]=true)/\(∀hk:m<l.length,p l[m]=false)
 |[]=>⟨0,by simp,by simp,λk hk=>by simp at hk,λhk=>by simp at hk⟩
 |a::l=>by
  by_cases h:p a=true
  .obtain⟨m,h1,h2,h3,h4⟩:=Ad p l;refine⟨m+1,by simp;omega,by simp[h,h2],λk hk hm=>?_,λhk=>?_⟩
   .cases k with
    |zero=>simpa using h
    |succ k=>simpa using h3 k (by simpa using hk) (by omega)
   .simpa using h4 (by simpa using hk)
  .refine⟨0,by simp,by simp[h],λk hk hm=>by omega,λhk=>by simpa using h⟩
def N1 {α:Type}(p:α->Bool)(l:List α){k:Nat}(hk:k<l.length):(l.take (k+1)).filter p=(l.take k).filter p++if p l[k] then[l[k]] else[]:=by
 rw[lR hk,DU]
 congr 1
 cases h:p l[k]<;>simp[h]
def kD (b:Bill)(w x y z:D):D:=.agg [.int b.drawer,.int b.drawee,.int b.payee,.int b.sum,.int b.currency,.int b.tenor.kind,.int b.tenor.n,.int b.tenor.unit,.int b.day,.int b.city,.int b.pay,.int b.need,.int b.rate,.int b.flags,.int b.parts,w,x,y,z]
@[simp] def aDT (b:Bill)(w x y z:D):D.agg (bH (kD b w x y z).cells 16 [D.none])=kD b w .none y z:=zyz
@[simp] def aDU (b:Bill)(w x y z:D):D.agg (bH (kD b w x y z).cells 18 [D.none])=kD b w x y .none:=zyz
def mN {α:Type}(l:List α):D:=match l with|[]=>.list []|_=>.none
@[simp] def aGj {α:Type}:mN ([]:List α)=.list []:=rfl
@[simp] def acs {α:Type}(l:List α)(x:α):mN (l++[x])=.none:=by cases l<;>rfl
def ah4 (f:File)(day:Int)(h1:f.signs.length<=4294967295)(h2:f.acts.length<=4294967295)(h3:f.alters.length<=4294967295)(h4:f.facts.length<=4294967295):aq T 17 [aS f,.int day] (aS (cm f day)):=by
 refine zyw 54 aAi ?_;simp[Yk];obtain⟨m,hm,hS,KX,we⟩:=Ad (λs:Sign=>decide (s.day<=day)) f.signs;obtain⟨n,hn,hA,QL,QM⟩:=Ad (λs:Act=>decide (s.day<=day)) f.acts;refine aN.forRounds m (λk=>[.int k]) (λk=>[signs (f.signs.take k),kD f.bill (mN (f.signs.take k)) (.list []) (.list []) (.list [])]) ?_ (λk hk=>?_) ?_
 .simp[kD,signs]
  try rfl
 .have bh:k<f.signs.length:=by omega
  have hw:=aV bh (by omega);have hd:=KX k bh hk;simp at hd;have fU:¬day<f.signs[k].day:=by omega
  have hle:(k:Int)+1<=4294967296:=by omega
  have ht:=lR bh;rw[ht];have hlen:(f.signs.take k).length=k:=by simp;omega
  generalize f.signs.take k=A at*;simp[VD,HB,bh,hw,fU,hlen];exact⟨hle,by simp[signs],rfl⟩
 have hSl:(f.signs.take m).length<=4294967295:=by rw[ed];omega
 have QN:cm f day=⟨f.bill,f.signs.take m,f.alters.filter (jD (f.signs.take m).length),f.acts.take n,f.facts.filter (j8 (f.signs.take m).length)⟩:=by
  unfold cm Ia Zm;rw[hS,hA]
 rw[QN];generalize f.signs.take m=S at*;have hAl:(f.acts.take n).length<=4294967295:=by rw[ed];omega
 by_cases dz:m<f.signs.length
 case' pos=>
  have hd:=we dz;simp at hd;simp[VD,HB,dz,hd];generalize D.bool true=bb
 case' neg=>
  have yW:m=f.signs.length:=by omega
  simp[VD,HB,dz,yW];generalize D.bool false=bb
 all_goals
  refine aN.forRounds n (λk=>[.int k]) (λk=>[acts (f.acts.take k),kD f.bill (mN S) (.list []) (mN (f.acts.take k)) (.list [])]) ?_ (λk hk=>?_) ?_
  .simp[acts]
  .have bh:k<f.acts.length:=by omega
   have hw:=aV bh (by omega);have hd:=QL k bh hk;simp at hd;have fU:¬day<f.acts[k].day:=by omega
   have hle:(k:Int)+1<=4294967296:=by omega
   have ht:=lR bh;rw[ht];have hlen:(f.acts.take k).length=k:=by simp;omega
   generalize f.acts.take k=A at*;simp[VE,HC,bh,hw,fU,hlen];exact⟨hle,by simp[acts],rfl⟩
  generalize f.acts.take n=A at*;by_cases iV:n<f.acts.length
  case' pos=>
   have hd:=QM iV;simp at hd;simp[VE,HC,iV,hd];generalize D.bool true=bc
  case' neg=>
   have nF:n=f.acts.length:=by omega
   simp[VE,HC,iV,nF];generalize D.bool false=bc
  all_goals
   refine aN.forRounds f.alters.length (λk=>[.int k]) (λk=>[kD f.bill (mN S) (mN ((f.alters.take k).filter (jD S.length))) (mN A) (.list []),alters ((f.alters.take k).filter (jD S.length))]) ?_ (λk hk=>?_) ?_
   .simp[alters]
   .have hw:=aV hk (by omega);have ht:=N1 (jD S.length) f.alters hk;rw[ht];have hlen:((f.alters.take k).filter (jD S.length)).length<=k:=my (tQ _ _) (by simp;omega);generalize (f.alters.take k).filter (jD S.length)=B at*;by_cases hd:f.alters[k].at_<=(S.length:Int)
    .simp[VF,HD,jD,hk,hw,hd];exact⟨by omega,rfl,by simp[alters]⟩
    .simp[VF,HD,jD,hk,hw,hd]
   simp[VF,HD];generalize f.alters.filter (jD S.length)=B at*;refine aN.forRounds f.facts.length (λk=>[.int k]) (λk=>[kD f.bill (mN S) (mN B) (mN A) (mN ((f.facts.take k).filter (j8 S.length))),facts ((f.facts.take k).filter (j8 S.length))]) ?_ (λk hk=>?_) ?_
   .simp[facts]
   .have hw:=aV hk (by omega);have ht:=N1 (j8 S.length) f.facts hk;rw[ht];have hlen:((f.facts.take k).filter (j8 S.length)).length<=k:=my (tQ _ _) (by simp;omega);generalize (f.facts.take k).filter (j8 S.length)=C at*;cases hd:aw f.facts[k].at_ S.length
    .simp[VG,HE,j8,hk,hw,hd];refine⟨_,rS _ _,?_⟩;simp[hd,hw]
    .simp[VG,HE,j8,hk,hw,hd];refine⟨_,rS _ _,?_⟩;simp[hd,hw];exact⟨by omega,rfl,by simp[facts]⟩
   simp[VG,HE];rfl
def je (g:Nat->Cell):D:=.list ((List.range 20).map λi=>cv (g i))
def aat {g g':Nat->Cell}(h:∀i,i<20->g i=g' i):je g=je g':=by
 unfold je
 congr 1
 exact xR λi hi=>by rw[h i (by simpa using hi)]
def aau (g:Nat->Cell)(k:Nat)(c:Cell):D.list ((je g).l.set k (cv c))=je (λi=>if i=k then c else g i):=by
 unfold je
 congr 1
 show((List.range 20).map λi=>cv (g i)).set k (cv c)=_;apply Oy
 .simp
 .intro i h1 h2;simp at h2;rw[List.getElem_set];by_cases h:k=i
  .simp[h]
  .have h':¬i=k:=λe=>h e.symm;simp[h,h']
@[simp] def aEo (g:Nat->Cell):(je g).l.length=20:=by
  show((List.range 20).map λi=>cv (g i)).length=20;simp
def IG (g:Nat->Cell){k:Nat}(hk:k<20):(je g).l[k]?.getD D.none=cv (g k):=by
 show((List.range 20).map λi=>cv (g i))[k]?.getD D.none=cv (g k);simp[hk]
def akY (g:Nat->Cell){k:Nat}(hk:k<(je g).l.length):(je g).l[k]=cv (g k):=by
 have h:=IG g (k:=k) (by simpa using hk);rw[bL hk] at h;exact h
def ak0 (g:Nat->Cell)(k:Nat)(c:Cell):(je g).l.set k (cv c)=(je (λi=>if i=k then c else g i)).l:=congrArg D.l (aau g k c)
def akZ (g:Nat->Cell):D.list (je g).l=je g:=rfl
@[simp] def aHM (x:Cell)(b:Bool)(n:Int):vz (cv x) 0 (D.agg [D.bool b,D.int n])=cv ⟨b,n⟩:=zyz
def BN {α:Type}(l:List (Int×α))(val:α->Cell)(g0:Nat->Cell)(i:Nat):Cell:=match l.find? (λp=>decide (p.1=(i:Int))) with|some p=>val p.2|none=>g0 i
def tj {α:Type}(enc:α->D)(p:Int×α):D:=.tup [.int p.1,enc p.2]
def adW {α:Type}{J o:Nat}{ps cZ:List Nat}{a:PC}{O:Env}{Q:Out->Prop}(l:List (Int×α))(enc:α->D)(val:α->Cell)(g0:Nat->Cell)
 (nd:∀p q,p∈l->q∈l->p.1=q.1->p=q) (V1:∀p,p∈l->0<=p.1) (he:O.o J=.tup [.list [],.map (l.map λp=>(.int p.1,enc p.2))]) (h0:O.o o=je g0)
 (step:∀p,p∈l->∀g done,aK T (rV [o] a) ((O.put ps (cZ.map (tj enc p).tget) [o] [je g]).setO J (.tup [.list (done++[tj enc p]),.map (l.map λp=>(.int p.1,enc p.2))])) (λy=>∃O',y=.next O'/\O'.o o=.list ((je g).l.set p.1.toNat (cv (val p.2)))))
 (last:Q (.next (O.put [] [] [o] [je (BN l val g0)]))):aN T (.meach J ps cZ [o] a) O Q:=by
 have oJ:jt (.map (l.map λp=>((D.int p.1,enc p.2):D×D)))=l.map (tj enc):=by
  simp[jt,tj]
 refine .meachR _ he (λdone vo=>∃g:Nat->Cell,vo=[je g]/\(∀p,p∈l->tj enc p∈done->g p.1.toNat=val p.2)/\∀i:Nat,(∀p,p∈l->tj enc p∈done->p.1≠i)->g i=g0 i) ⟨g0,by simp[h0],(λp _ h=>by cases h),λi _=>rfl⟩ (λdone x rest vo hp ⟨g,hv,Fv,jM⟩=>?_) ⟨_,λdone hp vo ⟨g,hv,Fv,jM⟩=>?_,last⟩
 .subst hv;rw[oJ] at hp;have hx:x∈l.map (tj enc):=hp.subset (by simp);obtain⟨p,dB,rfl⟩:=fq.mp hx;refine Ao _ (λy ⟨O',e,ho⟩=>⟨O',e,λi=>if i=p.1.toNat then val p.2 else g i,by simp[ho,aau],λq hq RQ=>?_,λi hi=>?_⟩) (step p dB g done)
  .have RR:=V1 q hq;have rl:=V1 p dB;by_cases h:q.1=p.1
   .rw[nd q p hq dB h];simp
   .show(if q.1.toNat=p.1.toNat then val p.2 else g q.1.toNat)=val q.2;rw[if_neg (by omega)];rcases dR.mp RQ with h1|h1
    .exact Fv q hq h1
    .simp[tj] at h1;exact absurd h1.1 h
  .have rl:=V1 p dB;have dx:=hi p dB (by simp);show(if i=p.1.toNat then val p.2 else g i)=g0 i;rw[if_neg (by omega)];exact jM i λq hq RQ=>hi q hq (by simp[RQ])
 .rw[hv,oJ] at*
  congr 1
  refine aat λi hi=>?_;unfold BN;cases hf:l.find? (λp=>decide (p.1=(i:Int))) with
  |some p=>
   have dB:=vN hf;have LL:p.1=(i:Int):=by simpa using OA hf
   have:=Fv p dB (hp.symm.subset (List.mem_map_of_mem dB));simp only;rw[<-this,LL];rfl
  |none=>
   refine jM i λp dB _=>?_;have:=xP.mp hf p dB;simpa using this
@[simp] def aGE (a b:Int):ff (D.int a) (D.int b)=decide (a=b):=by
  show((a==b)&&true)=decide (a=b);rw[Bool.and_true];by_cases h:a=b<;>simp[h]
def pM (n k:Int):Bool:=decide (cC .and .i64 n k≠0)
def wQ (s:Sign)(due:Int):Int:=if due=-1 then 0 else s.day-due
def OY (f:File)(sign:Int):Bool:=(List.range f.alters.length).any λk=>decide ((f.alters.getD k default).at_<=sign)
def mM (c:Case):Int:=if c.holder<0 then 0 else c.holder
def tC (c:Case)(s:Sign):List (Int×Int):=[(0,c.file.bill.sum),(1,c.file.bill.parts),(2,c.file.bill.tenor.kind),(3,c.file.bill.rate),(4,s.kind),(5,c.defence),(6,wQ s c.due)]
def tD (r:Realm)(c:Case)(s:Sign):List (Int×Bool):=[(7,pM c.file.bill.flags 1),(8,decide (c.file.bill.payee=-1)),(9,pM c.file.bill.flags 4),(10,pM c.file.bill.flags 2),(11,decide (dZ r c.file.bill.city≠dZ r c.file.bill.pay)),(12,OY c.file c.sign),(13,pM s.flags 1),(14,decide (0<wQ s c.due))]
def BU (r:Realm)(c:Case)(s:Sign):List Cell:=
 (tC c s).map (λp=>⟨true,p.2⟩)++(tD r c s).map (λp=>fm p.2)++
    [jE c.file 0 c.sign,jE c.file 1 c.sign,jE c.file 2 c.sign,jE c.file 3 (mM c),jE c.file 4 (mM c)]
@[simp] def aDY (x:Case):lf 19 (eZ x)=aS x.file:=zyz
@[simp] def aDW (x:Case):lf 15 (eZ x)=fK x.file.bill:=zyz
@[simp] def aDX (x:File):lf 15 (aS x)=fK x.bill:=zyz
def oq (c:Case):Bool:=aw c.sign c.file.signs.length&&decide (-1<=c.holder)&&decide (mM c<c.file.signs.length)&&(decide (c.due=-1)||aw c.due 100001)
def eF (r:Realm)(c:Case):List Cell:=if oq c=true/\aw (c.file.signs.getD c.sign.toNat default).day 100001=true then BU r c (c.file.signs.getD c.sign.toNat default) else[]
def awY (r:Realm)(c:Case)(h2:c.file.facts.length<=100000)(h3:c.file.alters.length<=100000):aq T 126 [aX r,eZ c] (cells (eF r c)):=by
 refine zyw 56 aAl ?_;cases hs:aw c.sign c.file.signs.length
 .have hv:eF r c=[]:=by unfold eF oq;rw[hs];simp
  rw[hv];simp[xD];refine⟨_,rS _ _,?_⟩;simp[hs];rfl
 by_cases hh:c.holder< -1
 .have hv:eF r c=[]:=by unfold eF oq;rw[hs];simp;intros;omega
  rw[hv];simp[xD,hh];exact⟨⟨_,rS _ _⟩,rfl⟩
 by_cases hm:(c.file.signs.length:Int)<=mM c
 .have hv:eF r c=[]:=by unfold eF oq;rw[hs];simp;intros;omega
  rw[hv];unfold mM at hm;simp[xD,hm];exact⟨⟨_,rS _ _⟩,rfl⟩
 by_cases hd:c.due≠-1/\aw c.due 100001=false
 .have hv:eF r c=[]:=by unfold eF oq;rw[hs];simp[hd]
  rw[hv];unfold mM at hm;obtain⟨bx,dM⟩:=hd;simp[xD,hh,hm,bx];refine⟨_,rS _ _,?_⟩;simp[hs,hh,hm,bx];refine⟨_,rS _ _,?_⟩;simp[hs,hh,hm,bx,dM];rfl
 have hcb:oq c=true:=by
  unfold oq;rw[hs];simp;refine⟨⟨by omega,by omega⟩,?_⟩;by_cases h:c.due=-1
  .exact .inl h
  .right;cases hb:aw c.due 100001
   .exact absurd ⟨h,hb⟩ hd
   .rfl
 have hlen:c.sign.toNat<c.file.signs.length:=by simp[aw] at hs;omega
 have fW:0<=c.sign/\c.sign<(c.file.signs.length:Int):=by simpa [aw] using hs
 obtain⟨s,dv⟩:∃s:Sign,s=c.file.signs[c.sign.toNat]:=⟨_,rfl⟩
 have ly:c.file.signs.getD c.sign.toNat default=s:=by rw[dv];simp[hlen]
 have hv:eF r c=if aw s.day 100001=true then BU r c s else[]:=by
  unfold eF;rw[ly,hcb];simp
 rw[hv];unfold mM at hm;by_cases Fp:c.due=-1
 case' pos=>
  have abO:(c.due=-1)=True:=eq_true Fp;simp[xD,hh,hm,abO];refine⟨_,rS _ _,?_⟩;simp[hs,hh,hm,abO,hlen,<-dv,fW]
 case' neg=>
  have Fl:aw c.due 100001=true:=by
   cases hb:aw c.due 100001
   .exact absurd ⟨Fp,hb⟩ hd
   .rfl
  simp[xD,hh,hm,Fp];refine⟨_,rS _ _,?_⟩;simp[hs,hh,hm,Fp];refine⟨_,rS _ _,?_⟩;simp[hs,hh,hm,Fp,Fl,hlen,<-dv,fW]
 all_goals
  refine⟨_,rS _ _,?_⟩;cases yE:aw s.day 100001
  .simp[yE];rfl
  simp[yE,dj];refine adW (tC c s) D.int (λn=>⟨true,n⟩) (λ_=>cX) ?_ ?_ ?_ ?_ (λp hp g done=>?_) ?_
  .intro p q hp hq h;simp[tC] at hp hq;rcases hp with rfl|rfl|rfl|rfl|rfl|rfl|rfl<;>rcases hq with rfl|rfl|rfl|rfl|rfl|rfl|rfl<;>first|rfl|(simp at h)
  .intro p hp;simp[tC] at hp;rcases hp with rfl|rfl|rfl|rfl|rfl|rfl|rfl<;>simp
  .have B9:(if c.due=-1 then(0:Int) else i64.wrap (s.day-c.due))=wQ s c.due:=by
        unfold wQ;by_cases h:c.due=-1
        .simp[h]
        .have Fl:aw c.due 100001=true:=by
          cases hb:aw c.due 100001
          .exact absurd ⟨h,hb⟩ hd
          .rfl
         simp[aw] at Fl yE;rw[if_neg h,if_neg h];exact bn (by omega)
   simp[tC,dj,hlen,<-dv];rw[<-B9];by_cases h:c.due=-1<;>simp[h]
  .simp[je];rfl
  .have hr:0<=p.1/\p.1<20:=by
        simp[tC] at hp;rcases hp with rfl|rfl|rfl|rfl|rfl|rfl|rfl<;>simp
   have hk:p.1.toNat<20:=by omega
   simp[awO,VI,tj,IG g hk];exact hr
  have ap5:∀k (hk:k<c.file.alters.length),aq T 145 (qU c.file.alters[k]::[.ref (eZ c)]) (.bool (decide ((c.file.alters.getD k default).at_<=c.sign))):=λk hk=>by
   refine zyw 57 aAk ?_;simp[Ym,hk]
  simp;refine⟨_,ajJ c.file.alters _ _ _ ap5 (by omega),_,tA r _,_,tA r _,?_⟩;have B9:(if c.due=-1 then(0:Int) else i64.wrap (s.day-c.due))=wQ s c.due:=by
   unfold wQ;by_cases h:c.due=-1
   .simp[h]
   .have Fl:aw c.due 100001=true:=by
     cases hb:aw c.due 100001
     .exact absurd ⟨h,hb⟩ hd
     .rfl
    simp[aw] at Fl yE;rw[if_neg h,if_neg h];exact bn (by omega)
  have Rf:cells (BU r c s)=je (λi=>if i=15 then jE c.file 0 c.sign else if i=16 then jE c.file 1 c.sign else if i=17 then jE c.file 2 c.sign else if i=18 then jE c.file 3 (mM c) else if i=19 then jE c.file 4 (mM c) else BN (tD r c s) fm (BN (tC c s) (λn=>⟨true,n⟩) (λ_=>cX)) i):=by
   rfl
  generalize BN (tC c s) (λn=>(⟨true,n⟩:Cell)) (λ_=>cX)=g1 at*;refine adW (tD r c s) D.bool fm g1 ?_ ?_ ?_ ?_ (λp hp g done=>?_) ?_
  .intro p q hp hq h;simp[tD] at hp hq;rcases hp with rfl|rfl|rfl|rfl|rfl|rfl|rfl|rfl<;>rcases hq with rfl|rfl|rfl|rfl|rfl|rfl|rfl|rfl<;>first|rfl|(simp at h)
  .intro p hp;simp[tD] at hp;rcases hp with rfl|rfl|rfl|rfl|rfl|rfl|rfl|rfl<;>simp
  .simp[tD,dj,hlen,<-dv,pM];rw[<-B9];by_cases h:c.due=-1<;>simp[h,OY]
  .simp
  .have hr:0<=p.1/\p.1<20:=by
        simp[tD] at hp;rcases hp with rfl|rfl|rfl|rfl|rfl|rfl|rfl|rfl<;>simp
   have hk:p.1.toNat<20:=by omega
   simp[awP,VJ,tj,IG g hk];refine⟨_,ah5 _,?_⟩;simp[IG g hk];exact hr
  simp;generalize BN (tD r c s) fm g1=g2 at*;have yO:(if c.holder<0 then D.int 0 else D.int c.holder)=D.int (mM c):=by
   unfold mM;split<;>rfl
  rw[yO];refine⟨_,HS _ _ _ (by omega),_,HS _ _ _ (by omega),_,HS _ _ _ (by omega),_,HS _ _ _ (by omega),_,HS _ _ _ (by omega),?_⟩;rw[Rf];simp only[akY,axB,ak0,akZ];refine aat λi hi=>?_;by_cases KO:i=15
  .subst KO;simp
  by_cases KP:i=16
  .subst KP;simp
  by_cases KQ:i=17
  .subst KQ;simp
  by_cases KR:i=18
  .subst KR;simp
  by_cases h19:i=19
  .subst h19;simp
  simp[KO,KP,KQ,KR,h19]
def Gx (n:Nat)(x:Int):Bool:=decide (x<0)||decide ((n:Int)<=x)
def j9 (r:Realm)(a q:Int)(l:List Int):Bool:=
 !(decide (a<0)||decide ((r.orders.length:Int)<=a)||decide (q<0)||decide (22<=q)||decide (l.length≠5))&& !((List.range l.length).any λk=>Gx r.orders.length (l.getD k 0))
def amO (x n:Int):aq T 149 [.int x,.ref (.int n)] (.bool (decide (x<0)||decide (n<=x))):=by
 refine zyw 66 ayf ?_;by_cases h:x<0<;>simp[Wx,h]
def aa5 (r:Realm)(a q:Int)(l:List Int)(hl:l.length<=100000):aq T 128 [aX r,.int a,.int q,ints l] (.bool (j9 r a q l)):=by
 refine zyw 65 ayg ?_;by_cases h1:a<0
 .simp[xA,j9,h1]
 by_cases h2:(r.orders.length:Int)<=a
 .simp[xA,j9,h1,h2]
 by_cases h3:q<0
 .simp[xA,j9,h1,h2,h3]
 by_cases h4:22<=q
 .simp[xA,j9,h1,h2,h3,h4]
 by_cases h5:(l.length:Int)=5
 .have KT:l.length=5:=by omega
  simp[xA,h1,h2,h3,h4,KT];refine⟨_,ajL l 149 [.ref (.int r.orders.length)] (λk=>Gx r.orders.length (l.getD k 0)) (λk hk=>by simpa [Gx,hk] using amO l[k] r.orders.length) (by omega),?_⟩;simp only[j9,KT];simp[h1,h2,h3,h4]
 .have KT:¬l.length=5:=by omega
  simp[xA,j9,h1,h2,h3,h4,KT];intro h;omega
def BO {r:Realm}{a q:Int}{l:List Int}(h:j9 r a q l=true):(0<=a/\a<r.orders.length)/\l.length=5/\(∀x,x∈l->0<=x/\x<r.orders.length)/\∀b:Int,0<=b->b<r.orders.length->j9 r b q l=true:=by
 unfold j9 at h ⊢;rw[av] at h;obtain⟨h1,h2⟩:=h;simp at h1;refine⟨by omega,h1.2,λx hx=>?_,λb ij cW=>?_⟩
 .obtain⟨k,hk,rfl⟩:=jV hx;simp[Gx] at h2;have:=h2 k hk;simp[hk] at this;omega
 .rw[h2];simp;omega
def xN (r:Realm):Prop:=∀o,o∈r.orders->o.choices.length<=100000/\∀ch,ch∈o.choices->0<=ch.by_/\ch.by_<5
def mO (q:Int)(ch:Choice):Bool:=decide (ch.ask=q)&&decide (ch.by_≠0)
def jR (r:Realm)(a:Int):Order:=r.orders.getD a.toNat default
def fG (r:Realm)(a q:Int)(l:List Int):Int×Bool:=
 (match(jR r a).choices.find? (mO q) with|some ch=>l.getD ch.by_.toNat 0|none=>a,match(jR r a).choices.find? (mO q) with|some ch=>ch.whole|none=>false)
def Ou (r:Realm)(kg:xN r)(a q:Int)(l:List Int)(hl:l.length<=100000)(hf:j9 r a q l=true):
 aq T 129 [aX r,.int a,.int q,ints l] (.tup [.int (fG r a q l).1,.bool (fG r a q l).2])/\0<=(fG r a q l).1/\(fG r a q l).1<r.orders.length:=by
 obtain⟨ha,wy,hx,_⟩:=BO hf;have iS:a.toNat<r.orders.length:=by omega
 obtain⟨bo,lX⟩:=kg _ (cG iS);obtain⟨o,ho⟩:∃o,o=r.orders[a.toNat]:=⟨_,rfl⟩
 rw[<-ho] at bo lX;have yZ:jR r a=o:=by rw[ho];simp[jR,iS]
 unfold fG;rw[yZ];refine⟨?_,?_⟩
 .refine zyw 69 aye ?_;simp[Ww];refine⟨_,aa5 r a q l hl,?_⟩;simp[hf,iS,<-ho,ha];refine aN.scan o.choices.length (λk=>mO q (o.choices.getD k default)=false) (λk=>[.int 0,.bool false,.int k]) (λ_=>[]) ?_ (λk hk hj aC=>?_) (λk hk hj aC=>?_) (λhj=>?_)
  .simp
  .have hw:=aV hk (by omega);have hn:¬(o.choices[k].ask=q/\¬o.choices[k].by_=0):=by simpa [mO,hk] using aC
   simp[UW,GU,iS,<-ho,hk,hw,hn]
  .have eJ:=v5 hk (by simpa [hk] using aC) (λj bR=>by have:=hj j bR;simpa [show j<o.choices.length by omega] using this);rw[eJ];have hc:o.choices[k].ask=q/\¬o.choices[k].by_=0:=by simpa [mO,hk] using aC
   have hb:=lX _ (cG hk);have B1:o.choices[k].by_.toNat<l.length:=by omega
   simp[UW,GU,iS,<-ho,hk,hc,ints,B1];omega
  .have eJ:=yr (l:=o.choices) (p:=mO q) (λj bR=>by have:=hj j bR;simpa [bR] using this);rw[eJ];simp[UW,GU,iS,<-ho]
 .cases eJ:o.choices.find? (mO q) with
  |none=>exact ha
  |some ch=>
   have hb:=lX _ (vN eJ);have B1:ch.by_.toNat<l.length:=by omega
   simp[B1];exact hx _ (cG B1)
def MD:∀(N:Nat) (l:List Int),l.Nodup->(∀x,x∈l->0<=x/\x<(N:Int))->l.length<=N
 |0,l,hn,h=>by
  cases l with
  |nil=>simp
  |cons a l=>have:=h a (by simp);omega
 |N+1,l,hn,h=>by
  by_cases hm:(N:Int)∈l
  .have h1:=MD N (l.erase (N:Int)) (hn.erase _) (λx hx=>by
    have dC:=(hn.mem_erase_iff).mp hx;have:=h x dC.2;have aF:=dC.1;omega)
   rw[List.length_erase_of_mem hm] at h1;omega
  .have h1:=MD N l hn (λx hx=>by
    have:=h x hx;have aF:x≠(N:Int):=λe=>hm (e▸hx);omega)
   omega
def cE (l:List Int):Int:=l.getD (l.length-1) 0
def jo (r:Realm)(q:Int)(l:List Int):Nat->List Int->List Int×Int
 |0,p=>(p,0)
 |n+1,p=>
  if(fG r (cE p) q l).1=cE p then(p,0)
  else if(fG r (cE p) q l).2=false\/(hasB p (fG r (cE p) q l).1=true/\(jR r (fG r (cE p) q l).1).accepts=true) then(p++[(fG r (cE p) q l).1],0)
  else if hasB p (fG r (cE p) q l).1=true then(p++[(fG r (cE p) q l).1],12)
  else jo r q l n (p++[(fG r (cE p) q l).1])
def Gf (r:Realm)(q:Int)(l:List Int)(n:Nat)(p:List Int):jo r q l (n+1) p=
 if(fG r (cE p) q l).1=cE p then(p,0)
 else if(fG r (cE p) q l).2=false\/(hasB p (fG r (cE p) q l).1=true/\(jR r (fG r (cE p) q l).1).accepts=true) then(p++[(fG r (cE p) q l).1],0)
 else if hasB p (fG r (cE p) q l).1=true then(p++[(fG r (cE p) q l).1],12)
 else jo r q l n (p++[(fG r (cE p) q l).1]):=rfl
def dc (r:Realm)(a q:Int)(l:List Int):List Int×Int:=if j9 r a q l=true/\l.getD 0 0=a then jo r q l r.orders.length [a] else([],1)
def ajV (r:Realm)(kg:xN r)(hn:r.orders.length<=100000)(a q:Int)(l:List Int)(hl:l.length<=100000):aq T 115 [aX r,.int a,.int q,ints l] (.tup [ints (dc r a q l).1,.int (dc r a q l).2]):=by
 refine zyw 64 ayd ?_;simp[Wv];refine⟨_,aa5 r a q l hl,?_⟩;cases hf:j9 r a q l
 .simp[dc,hf];rfl
 obtain⟨ha,wy,hx,q7⟩:=BO hf;have h0:0<l.length:=by omega
 by_cases uF:l[0]=a
 .have hE:dc r a q l=jo r q l r.orders.length [a]:=by unfold dc;rw[if_pos ⟨hf,by simp[h0,uF]⟩]
  rw[hE];simp[h0,uF,ints];refine aN.forLoop (α:=Nat×List Int) (λs vr vo=>vr=[.list [],.int 0,.none]/\vo=[ints s.2]/\s.2.Nodup/\(∀x,x∈s.2->0<=x/\x<(r.orders.length:Int))/\s.2≠[]/\s.1+s.2.length=r.orders.length+1/\jo r q l s.1 s.2=jo r q l r.orders.length [a]) (λs=>s.1) (r.orders.length,[a]) ?_ ?_
  .simp[ints];exact ha
  .rintro⟨n,p⟩ vr vo ⟨rfl,rfl,bz,bE,aF,hlen,uH⟩;simp only at*;have dB:p.length<=r.orders.length:=MD _ p bz bE;have LM:0<p.length:=Am.mpr aF;obtain⟨m,rfl⟩:∃m,n=m+1:=⟨n-1,by omega⟩
   have ao:p.length-1<p.length:=by omega
   have gR:cE p=p[p.length-1]:=by simp[cE,ao]
   have oE:=bE _ (cG ao);rw[<-gR] at oE;obtain⟨yz,fc,fe⟩:=Ou r kg (cE p) q l hl (q7 _ oE.1 oE.2);have yU:((p.length:Int)-1).toNat=p.length-1:=by omega
   have zd:i64.wrap ((p.length:Int)-1)=(p.length:Int)-1:=bn (by omega);rw[<-uH,Gf];obtain⟨L,hL⟩:∃L,L=fG r (cE p) q l:=⟨_,rfl⟩
   rw[<-hL] at yz fc fe ⊢;obtain⟨to,whole⟩:=L;simp only at yz fc fe;have rp:to.toNat<r.orders.length:=by omega
   have yZ:jR r to=r.orders[to.toNat]:=by simp[jR,rp]
   simp only[yZ];simp[awL,UU,zd,yU,ao,<-gR,ints];refine⟨by omega,_,yz,?_⟩;by_cases h1:to=cE p
   .simp[h1]
   simp[h1];refine⟨_,DR p to (by omega),by omega,?_⟩;cases whole
   .simp
   cases h2:hasB p to
   .have cS:to∉p:=λhm=>by
     have:hasB p to=true:=by simp[hasB,hm]
     rw[h2] at this;cases this
    simp[h2];refine⟨m,by omega,p++[to],by simp,?_,?_,by simp,by simp;omega,rfl⟩
    .exact An.mpr ⟨bz,by simp,λx hx y hy=>by simp at hy;subst hy;exact λe=>cS (e▸hx)⟩
    .intro x hx;rcases dR.mp hx with h|h
     .exact bE x h
     .simp at h;subst h;exact⟨fc,fe⟩
   .cases h3:r.orders[to.toNat].accepts<;>simp[h2,h3,rp]<;>omega
 .have hE:dc r a q l=([],1):=by unfold dc;rw[if_neg (by simp[h0,uF])]
  rw[hE];simp[h0,uF];rfl
def cl (f:File)(i:Int):Sign:=f.signs.getD i.toNat default
def fg (r:Realm)(ak:Int)(c:Case):List Int:=[ak,dZ r (cl c.file c.sign).city,dZ r c.file.bill.pay,dZ r c.file.bill.city,dZ r (r.firms.getD (cl c.file c.sign).who.toNat default).city]
def lg (r:Realm)(ak:Int)(c:Case):Prop:=(cl c.file c.sign).who<0\/(r.firms.length:Int)<=(cl c.file c.sign).who\/ak<0\/(r.orders.length:Int)<=ak
instance (r:Realm) (ak:Int) (c:Case):Decidable (lg r ak c):=by unfold lg;infer_instance
def gF (r:Realm)(ak:Int)(c:Case):List Int:=if lg r ak c then[] else if hasB (fg r ak c) (-1)=true then[] else fg r ak c
@[simp] def aEh (r:Realm)(x:Int):Aq (aX r) x=dZ r x:=by
  unfold Aq dZ aw;by_cases h:0<=x/\x<(r.cities.length:Int)
  .have hx:x.toNat<r.cities.length:=by omega
   rw[if_pos (by simpa using h),if_pos (by simpa using h)];simp[hx]
  .rw[if_neg (by simpa using h),if_neg (by simpa using h)]
def agy (r:Realm)(ak:Int)(c:Case)(h1:c.sign.toNat<c.file.signs.length):T6 [aX r,.int ak,eZ c]=ints (gF r ak c):=by
 have hs:cl c.file c.sign=c.file.signs[c.sign.toNat]:=by simp[cl,h1]
 unfold T6 gF;simp[h1];by_cases hb:lg r ak c
 .rw[if_pos (by simpa [lg,hs] using hb),if_pos hb];rfl
 .rw[if_neg (by simpa [lg,hs] using hb),if_neg hb];have uO:(cl c.file c.sign).who.toNat<r.firms.length:=by unfold lg at hb;omega
  have acV:c.file.signs[c.sign.toNat].who.toNat<r.firms.length:=by rw[<-hs];exact uO
  have ls:fg r ak c=[ak,dZ r c.file.signs[c.sign.toNat].city,dZ r c.file.bill.pay,dZ r c.file.bill.city,dZ r r.firms[c.file.signs[c.sign.toNat].who.toNat].city]:=by
   simp[fg,hs,acV]
  have cO:∀l:List Int,hasB l (-1)=true↔-1∈l:=λl=>by simp[hasB]
  rw[ls];simp[acV];split
  .rename_i h;rw[if_pos ((cO _).mpr (by simpa using h))];rfl
  .rename_i h;rw[if_neg (λh'=>h (by simpa using(cO _).mp h'))]
def avt (r:Realm)(ak:Int)(c:Case)(h1:0<=c.sign/\c.sign<c.file.signs.length):aq T 114 [aX r,.int ak,eZ c] (ints (gF r ak c)):=by
 have cD:c.sign.toNat<c.file.signs.length:=by omega
 rw[<-agy r ak c cD];have hs:cl c.file c.sign=c.file.signs[c.sign.toNat]:=by simp[cl,cD]
 refine aq.of_nsl rfl ax7 ax8 ?_;rw[agy r ak c cD];by_cases hb:lg r ak c
 .refine .inr ⟨by simp[gF,hb];rfl,?_⟩;have eR:=hb;simp[lg,hs] at eR;simp[N5,h1,cD]
  intros;omega
 have sM:gF r ak c=if hasB (fg r ak c) (-1)=true then[] else fg r ak c:=by unfold gF;rw[if_neg hb]
 have eR:=hb;simp[lg,hs] at eR;have hw:c.file.signs[c.sign.toNat].who.toNat<r.firms.length:=by omega
 have hC:=DR (fg r ak c) (-1) (by simp[fg]);cases hh:hasB (fg r ak c) (-1)<;>rw[hh] at hC<;>simp[fg,ints,hs,hw] at hC
 .refine .inl ⟨(fg r ak c).map .int,by simp[fg],by rw[sM,hh];rfl,?_⟩;simp[Wq,h1,cD,hw];rw[if_neg (by omega)];refine⟨_,tA r _,_,tA r _,_,tA r _,by omega,_,tA r _,_,by simpa using hC,?_⟩;simp[fg,hs,hw]
 .refine .inr ⟨by rw[sM,hh];rfl,?_⟩;simp[N5,h1,cD,hw]
  intros
  refine⟨_,tA r _,_,tA r _,_,tA r _,by omega,_,tA r _,_,by simpa using hC,?_⟩;simp
structure Right (r:Realm):Prop where
 by_:xN r
 len:r.orders.length<=100000
 ok:∀o,o∈r.orders->o.OK/\o.rules.length<=100000
structure FewS (f:File):Prop where
 signs:f.signs.length<=1000
 alters:f.alters.length<=1000
 acts:f.acts.length<=1000
 facts:f.facts.length<=1000
def ai0 {α:Type}(p:α->Bool)(l:List α):(l.takeWhile p).length<=l.length:=by
 obtain⟨m,h1,h2,_⟩:=Ad p l;rw[h2,ed];omega
def FewS.at_ {f:File}(h:FewS f)(day:Int):FewS (cm f day):=
 ⟨my (ai0 _ _) h.1,my (tQ _ _) h.2,my (ai0 _ _) h.3,my (tQ _ _) h.4⟩
def bW (c:Case):Case:={c with file:=cm c.file c.day}
@[simp] def aD8 (x:File)(a0 a1 a2 a3 a4 a5 a6 a7 a8 a9 nv pz pA pB pC sA sB sC tR:D)(s h d u y:Int):lf 24 (D.agg (bH [a0,a1,a2,a3,a4,a5,a6,a7,a8,a9,nv,pz,pA,pB,pC,sA,sB,sC,tR,.int s,.int h,.int d,.int u,.int y] 0 [.int x.bill.drawer,.int x.bill.drawee,.int x.bill.payee,.int x.bill.sum,.int x.bill.currency,.int x.bill.tenor.kind,.int x.bill.tenor.n,.int x.bill.tenor.unit,.int x.bill.day,.int x.bill.city,.int x.bill.pay,.int x.bill.need,.int x.bill.rate,.int x.bill.flags,.int x.bill.parts,signs x.signs,alters x.alters,acts x.acts,facts x.facts]))=eZ ⟨x,s,h,d,u,y⟩:=zyz
def aku (r:Realm)(c:Case)(hf:FewS c.file):aq T 112 [aX r,eZ c] (.tup [eZ (bW c),cells (eF r (bW c))]):=by
 refine zyw 53 ax6 ?_;simp[Wp];have h1:=hf.1;have h2:=hf.2;have h3:=hf.3;have h4:=hf.4;refine⟨_,ah4 c.file c.day (by omega) (by omega) (by omega) (by omega),?_⟩;have Li:=hf.at_ c.day;have h5:=Li.4;have h6:=Li.2;simp;exact⟨awY r (bW c) (by show(cm c.file c.day).facts.length<=_;omega) (by show(cm c.file c.day).alters.length<=_;omega),(congrArg (lf 24) (avb (bW c) _ _ _ _ _ _ _ _ _ _ _ _ _ _ _ _ _ _ _ _ _ _ _ _)).trans (aki (bW c))⟩
def Zp {r:Realm}{c:Case}(h:eF r c≠[]):0<=c.sign/\c.sign<c.file.signs.length:=by
 unfold eF at h;split at h
 .rename_i hh;have h1:=hh.1;unfold oq at h1;simp[aw] at h1;omega
 .exact absurd rfl h
def adl (r:Realm)(kg:xN r)(q:Int)(l:List Int)(hl:l.length<=100000)(q7:∀b:Int,0<=b->b<r.orders.length->j9 r b q l=true):∀(n:Nat) (p:List Int),p≠[]->(∀x,x∈p->0<=x/\x<(r.orders.length:Int))->
 (jo r q l n p).1≠[]/\∀x,x∈(jo r q l n p).1->0<=x/\x<(r.orders.length:Int)
 |0,p,aF,hp=>⟨aF,hp⟩
 |n+1,p,aF,hp=>by
  have ao:p.length-1<p.length:=by have:=Am.mpr aF;omega
  have gR:cE p=p[p.length-1]:=by simp[cE,ao]
  have oE:=hp _ (cG ao);rw[<-gR] at oE;obtain⟨_,ht⟩:=Ou r kg (cE p) q l hl (q7 _ oE.1 oE.2)
  have ba:∀x,x∈p++[(fG r (cE p) q l).1]->0<=x/\x<(r.orders.length:Int):=λx hx=>by
   rcases dR.mp hx with h|h
   .exact hp x h
   .simp at h;subst h;exact ht
  rw[Gf];split
  .exact⟨aF,hp⟩
  split
  .exact⟨by simp,ba⟩
  split
  .exact⟨by simp,ba⟩
  .exact adl r kg q l hl q7 n _ (by simp) ba
def LY {r:Realm}(hr:Right r){a q:Int}{l:List Int}(hl:l.length<=100000)(h:(dc r a q l).2=0):(dc r a q l).1≠[]/\0<=cE (dc r a q l).1/\cE (dc r a q l).1<r.orders.length:=by
 unfold dc at h ⊢;split at h
 .rename_i hh;rw[if_pos hh];obtain⟨ha,wy,hx,q7⟩:=BO hh.1;obtain⟨h1,h2⟩:=adl r hr.by_ q l hl q7 r.orders.length [a] (by simp) (λx hx=>by simp at hx;subst hx;exact ha);refine⟨h1,?_⟩;have ao:(jo r q l r.orders.length [a]).1.length-1<(jo r q l r.orders.length [a]).1.length:=by have:=Am.mpr h1;omega
  have gR:cE (jo r q l r.orders.length [a]).1=(jo r q l r.orders.length [a]).1[(jo r q l r.orders.length [a]).1.length-1]:=by simp[cE,ao]
  rw[gR];exact h2 _ (cG ao)
 .cases h
def adm (r:Realm)(q:Int)(l:List Int):∀(n:Nat) (p:List Int),(jo r q l n p).1.length<=p.length+n
 |0,p=>by simp[jo]
 |n+1,p=>by
  rw[Gf];split
  .simp
  split
  .simp
  split
  .simp
  .have:=adm r q l n (p++[(fG r (cE p) q l).1]);simp at this;omega
def adk (r:Realm)(a q:Int)(l:List Int):(dc r a q l).1.length<=1+r.orders.length:=by
 unfold dc;split
 .exact adm r q l _ [a]
 .simp
@[simp] def aHI (a b c d e x:D):bH [a,b,c,d,e] 2 [x]=[a,b,x,d,e]:=zyz
@[simp] def aHJ (a b c d e x:D):bH [a,b,c,d,e] 3 [x]=[a,b,c,x,e]:=zyz
@[simp] def aHK (a b c d e x:D):bH [a,b,c,d,e] 4 [x]=[a,b,c,d,x]:=zyz
def Gn:Said:=⟨cX,-1,[],1⟩
def hH (r:Realm)(ak q:Int)(c:Case):Said×List Cell:=
 if eF r (bW c)=[] then(Gn,[]) else if(eE q).2=false then(Gn,[]) else if gF r ak (bW c)=[] then(Gn,[]) else
    (⟨cX,if(dc r ak q (gF r ak (bW c))).2=0 then cE (dc r ak q (gF r ak (bW c))).1 else-1,(dc r ak q (gF r ak (bW c))).1,(dc r ak q (gF r ak (bW c))).2⟩,eF r (bW c))
def agz (r:Realm)(ak:Int)(c:Case):(gF r ak c).length<=5:=by
 unfold gF;split
 .simp
 split<;>simp[fg]
def akt (r:Realm)(hr:Right r)(ak q:Int)(c:Case)(hf:FewS c.file):aq T 89 [aX r,.int ak,.int q,eZ c] (.tup [nB (hH r ak q c).1,cells (hH r ak q c).2]):=by
 refine zyw 52 ax5 ?_;simp[Wo];refine⟨_,aku r c hf,?_⟩;by_cases hv:eF r (bW c)=[]
 .simp[hv,hH];exact⟨rfl,rfl⟩
 simp[hv,hH];refine⟨_,TZ q,?_⟩;cases hq:(eE q).2
 .simp[hq];exact⟨rfl,rfl⟩
 simp[hq];refine⟨_,avt r ak (bW c) (Zp hv),?_⟩;by_cases hp:gF r ak (bW c)=[]
 .simp[hp];exact⟨rfl,rfl⟩
 have dB:=agz r ak (bW c);have aF:ints (gF r ak (bW c))≠.list []:=λe=>hp (by simpa [ints] using e);simp[hp];generalize gF r ak (bW c)=l at*;refine⟨_,ajV r hr.by_ hr.len ak q l (by omega),?_⟩;have hlen:=adk r ak q l;have uH:=LY hr (a:=ak) (q:=q) (l:=l) (by omega);have LJ:=hr.len;generalize dc r ak q l=L at*;obtain⟨path,err⟩:=L;simp only at*;by_cases he:err=0
 .obtain⟨h1,h2⟩:=uH he;have LM:=Am.mpr h1;have zd:i64.wrap ((path.length:Int)-1)=(path.length:Int)-1:=bn (by omega);have yU:((path.length:Int)-1).toNat=path.length-1:=by omega
  have ao:path.length-1<path.length:=by omega
  have gR:cE path=path[path.length-1]:=by simp[cE,ao]
  simp[he,zd,yU,ao,<-gR];exact⟨by omega,rfl⟩
 .simp[he];rfl
def lT (r:Realm)(ak q:Int)(c:Case):Said:=
 if(hH r ak q c).1.order=-1 then(hH r ak q c).1
 else⟨(lS (jR r (hH r ak q c).1.order) q (hH r ak q c).2).1,(hH r ak q c).1.order,(hH r ak q c).1.path,(lS (jR r (hH r ak q c).1.order) q (hH r ak q c).2).2⟩
def akp {r:Realm}(hr:Right r)(ak q:Int)(c:Case):(hH r ak q c).1.order=-1\/(0<=(hH r ak q c).1.order/\(hH r ak q c).1.order<r.orders.length):=by
 unfold hH;split
 .exact .inl rfl
 split
 .exact .inl rfl
 split
 .exact .inl rfl
 .have dB:=agz r ak (bW c);have uH:=LY hr (a:=ak) (q:=q) (l:=gF r ak (bW c)) (by omega);show(if _ then _ else _)=_\/_;split
  .rename_i h;exact .inr (uH h).2
  .exact .inl rfl
def akq (r:Realm)(hr:Right r)(ak q:Int)(c:Case)(hf:FewS c.file):aq T 66 [aX r,.int ak,.int q,eZ c] (nB (lT r ak q c)):=by
 refine zyw 51 ax2 ?_;simp[Wl];refine⟨_,akt r hr ak q c hf,?_⟩;have ho:=akp hr ak q c;unfold lT;generalize hH r ak q c=S at*;obtain⟨s,cs⟩:=S;simp only at*;by_cases h:s.order=-1
 .obtain⟨⟨kn,n⟩,o,pth,e⟩:=s;simp only at h;subst h;simp;rfl
 .have h1:0<=s.order/\s.order<r.orders.length:=by omega
  have h2:s.order.toNat<r.orders.length:=by omega
  have h3:jR r s.order=r.orders[s.order.toNat]:=by simp[jR,h2]
  obtain⟨aC,hlen⟩:=hr.ok _ (cG h2);simp[h,h1,h2,h3];refine⟨_,au6 _ q cs aC (by omega),?_⟩;simp;rfl
def As (r:Realm)(ak q:Int)(f:File)(day:Int):Said:=lT r ak q ⟨{f with facts:=[]},0,-1,-1,-1,day⟩
def akr (r:Realm)(hr:Right r)(ak q:Int)(f:File)(day:Int)(hf:FewS f):aq T 36 [aX r,.int ak,.int q,aS f,.int day] (nB (As r ak q f day)):=by
 refine zyw 50 ax3 ?_;simp[Wm];refine⟨nB (As r ak q f day),akq r hr ak q ⟨{f with facts:=[]},0,-1,-1,-1,day⟩ ⟨hf.1,hf.2,hf.3,by simp⟩,?_⟩;simp
 try rfl
def tg (s:Said):Int:=if s.err≠0\/s.cell.known=false then-1 else s.cell.n
def aks (s:Said):aq T 35 [nB s] (.int (tg s)):=by
 refine zyw 90 ax4 ?_;unfold tg;by_cases h1:s.err=0<;>cases h2:s.cell.known<;>simp[Wn,h1,h2]
def jy (day:Int)(l:List Act)(es:List (D×D)):List (D×D):=l.foldl (λes a=>if a.kind=7/\a.day<=day then dj (.int a.at_) (.bool true) es else es) es
def axH (day:Int)(l:List Act){k:Nat}(hk:k<l.length):jy day (l.take (k+1)) []=if l[k].kind=7/\l[k].day<=day then dj (.int l[k].at_) (.bool true) (jy day (l.take k) []) else jy day (l.take k) []:=by
 unfold jy;rw[lR hk,Iq];rfl
def agF (k v:D):∀es:List (D×D),(dj k v es).length<=es.length+1
 |[]=>by simp[dj]
 |e::es=>by
  unfold dj;split
  .simp
  .have:=agF k v es;simp;omega
def aiH (day:Int):∀(l:List Act) (es:List (D×D)),(jy day l es).length<=es.length+l.length
 |[],es=>by simp[jy]
 |a::l,es=>by
  have h:=aiH day l (if a.kind=7/\a.day<=day then dj (.int a.at_) (.bool true) es else es);have hp:=agF (.int a.at_) (.bool true) es;show(jy day l (if a.kind=7/\a.day<=day then dj (.int a.at_) (.bool true) es else es)).length<=_;split at h
  .rename_i hc;rw[if_pos hc];simp;omega
  .rename_i hc;rw[if_neg hc];simp;omega
def aiQ (f:File)(day:Int)(hl:f.acts.length<=100000):aq T 51 [aS f,.int day] (.map (jy day f.acts [])):=by
 refine zyw 94 aAT ?_;simp[YU];refine aN.forRounds f.acts.length (λk=>[.int k]) (λk=>[.map (jy day (f.acts.take k) [])]) ?_ (λk hk=>?_) ?_
 .simp[jy]
 .have hw:=aV hk (by omega);have hs:=axH day f.acts hk;have hlen:=aiH day (f.acts.take k) [];rw[hs];simp at hlen;generalize jy day (f.acts.take k) []=es at*;by_cases hc:f.acts[k].kind=7/\f.acts[k].day<=day
  .simp[VU,HP,hk,hw,hc];omega
  .simp[VU,HP,hk,hw,hc]
 .simp[VU,HP]
def agG {k v:D}:∀{es:List (D×D)} {e:D×D},e∈dj k v es->e.2=v\/e∈es
 |[],e,h=>by simp[dj] at h;exact .inl (by rw[h])
 |x::es,e,h=>by
  unfold dj at h;split at h
  .rcases cQ.mp h with rfl|h
   .exact .inl rfl
   .exact .inr (by simp[h])
  .rcases cQ.mp h with rfl|h
   .exact .inr (by simp)
   .rcases agG h with h|h
    .exact .inl h
    .exact .inr (by simp[h])
def aiJ (day:Int):∀(l:List Act) (es:List (D×D)),(∀e,e∈es->e.2=.bool true)->∀e,e∈jy day l es->e.2=.bool true
 |[],es,h,e,he=>h e he
 |a::l,es,h,e,he=>by
  refine aiJ day l (if a.kind=7/\a.day<=day then dj (.int a.at_) (.bool true) es else es) (λx hx=>?_) e he;split at hx
  .rcases agG hx with h'|h'
   .exact h'
   .exact h x h'
  .exact h x hx
def adB {k d:D}:∀{es:List (D×D)},eu k es=some d->∃e,e∈es/\e.2=d
 |x::es,h=>by
  unfold eu at h;split at h
  .exact⟨x,by simp,by simpa using h⟩
  .obtain⟨e,h1,h2⟩:=adB h;exact⟨e,by simp[h1],h2⟩
def axG (day:Int)(l:List Act)(k:D):(eu k (jy day l [])).getD (.bool false)=.bool ((eu k (jy day l [])).getD (.bool false)).b:=by
 cases h:eu k (jy day l []) with
 |none=>rfl
 |some d=>
  obtain⟨e,h1,h2⟩:=adB h;have:=aiJ day l [] (λe h=>by cases h) e h1;rw[h2] at this;rw[this];rfl
def Aa (f:File)(sign day:Int):Bool:=aw sign f.signs.length&&((eu (.int sign) (jy day f.acts [])).getD (.bool false)).b
def axZ (f:File)(sign day:Int)(hl:f.acts.length<=100000):aq T 19 [aS f,.int sign,.int day] (.bool (Aa f sign day)):=by
 refine zyw 97 aAO ?_;by_cases h1:0<=sign<;>by_cases h2:sign<f.signs.length<;>simp[YP,h1,h2,Aa,aw];refine⟨_,aiQ f day hl,?_⟩;exact axG day f.acts (.int sign)
def BI (n:Int):Bool:=decide (0<=n)&&decide (n<=100000)
def aj3 (r:Realm)(fr to:Int)(hl:r.usances.length<=100000):∃n e:Int,aq T 77 [aX r,.int fr,.int to] (.tup [.int n,.int e])/\(e=0->∃u,u∈r.usances/\n=u.days)/\(e=0↔∃u,u∈r.usances/\u.fr=fr/\u.to=to):=by
 let p:Usance->Bool:=λu=>decide (u.fr=fr)&&decide (u.to=to)
 refine⟨match r.usances.find? p with|some u=>u.days|none=>0,match r.usances.find? p with|some u=>0|none=>4,?_,?_⟩
 .refine .of_tree rfl aab aiV ?_;simp[Oi];refine aN.scan r.usances.length (λk=>p (r.usances.getD k default)=false) (λk=>[.int 0,.int 0,.int k]) (λ_=>[]) ?_ (λk hk hj aC=>?_) (λk hk hj aC=>?_) (λhj=>?_)
  .simp
  .have hw:=aV hk (by omega);have hn:¬(r.usances[k].fr=fr/\r.usances[k].to=to):=by simpa [p,hk] using aC
   simp[Dp,xm,hk,hw,hn]
  .have eJ:=v5 hk (by simpa [hk] using aC) (λj bR=>by have:=hj j bR;simpa [show j<r.usances.length by omega] using this);have hc:r.usances[k].fr=fr/\r.usances[k].to=to:=by simpa [p,hk] using aC
   rw[eJ];simp[Dp,xm,hk,hc]
  .have eJ:=yr (l:=r.usances) (p:=p) (λj bR=>by have:=hj j bR;simpa [bR] using this);rw[eJ];simp[Dp,xm]
 .cases h:r.usances.find? p with
  |none=>
   refine⟨λh=>(by cases h),λh=>(by cases h),λ⟨u,hu,h1,h2⟩=>?_⟩;have:=xP.1 h u hu;simp[p,h1,h2] at this
  |some u=>
   have h2:u.fr=fr/\u.to=to:=by simpa [p] using OA h
   exact⟨λ_=>⟨u,vN h,rfl⟩,λ_=>⟨u,vN h,h2⟩,λ_=>rfl⟩
def ZH (r:Realm):Prop:=r.halts.length<=100000/\∀h,h∈r.halts->0<=h.fr/\h.to<=100000
structure RightD (r:Realm):Prop where
 small:Small r
 halts:ZH r
def aq.ex_of_tree {tab:Nat->Option PC}{ext:Nat->Option (aW->List D->Option D)}{f:Nat}{pc:PC}{t:PT}{ds:List D}{P:D->Prop}(hx:ext f=none)(ht:tab f=some pc)(he:tree pc=t)
 (h:aK (eH tab ext) t (lV ds) (λx=>∃d,x=.ret d/\P d)):∃d,aq (eH tab ext) f ds d/\P d:=by
 subst he;obtain⟨x,⟨d,rfl,hd⟩,n0,hn⟩:=aiZ (MF ⟨λ_ _ _ h=>(by obtain⟨_,h,_⟩:=h;cases h),λ_ _ _ _ _ _ h=>(by obtain⟨_,h,_⟩:=h;cases h),λ_ h=>h⟩ h);exact⟨d,.of_pc hx ht ⟨.ret d,rfl,n0,hn⟩,hd⟩
@[simp] def aHg (x:File)(a0 a1 a2 a3 a4 a5 a6 a7 a8 a9 nv pz pA pB pC sA sB sC tR:D):(bH [a0,a1,a2,a3,a4,a5,a6,a7,a8,a9,nv,pz,pA,pB,pC,sA,sB,sC,tR] 0 [.int x.bill.drawer,.int x.bill.drawee,.int x.bill.payee,.int x.bill.sum,.int x.bill.currency,.int x.bill.tenor.kind,.int x.bill.tenor.n,.int x.bill.tenor.unit,.int x.bill.day,.int x.bill.city,.int x.bill.pay,.int x.bill.need,.int x.bill.rate,.int x.bill.flags,.int x.bill.parts,signs x.signs,alters x.alters,acts x.acts,facts x.facts])[15]?.getD D.none=signs x.signs:=zyz
def aa6 {n:Nat}{f:Nat->Int}(h:da n f=0)(k:Nat)(hk:k<n):f k=0:=QA.1 h k hk
def aaz {r:Realm}(h:eO r=0)(k:Nat)(hk:k<r.orders.length):qh r.orders[k]=true:=by
 unfold eO at h;rw[NP] at h;have h1:=h (fa (fI r) 20 (oT r)) (by simp);unfold fa at h1;split at h1
 .cases h1
 have h2:=aa6 h1 k (by simpa [fI] using hk);have h3:=(BP h2).2;unfold oT at h3;simpa [hk] using h3
def aot {r:Realm}(hs:Small r)(h:eO r=0):xN r:=by
 intro o ho;obtain⟨k,hk,rfl⟩:=jV ho;have h1:=aaz h k hk;obtain⟨hc,_⟩:=hs.order _ ho;refine⟨by omega,λch lX=>?_⟩;unfold qh at h1;simp only[av] at h1;obtain⟨j,hj,rfl⟩:=jV lX;have h2:=xX.1 h1.1 j hj;simpa [aw,hj] using h2
def aou {r:Realm}(hs:Small r)(h:eO r=0):ZH r:=by
 refine⟨by have:=hs.halts;omega,λx hx=>?_⟩;obtain⟨k,hk,rfl⟩:=jV hx;unfold eO at h;rw[NP] at h;have h1:=h (qu r) (by simp);unfold qu at h1;split at h1
 .cases h1
 split at h1
 .cases h1
 split at h1
 .cases h1
 split at h1
 .rename_i aU;have h2:=xX.1 aU k hk;simp[wg,wi,aw,hk] at h2;omega
 .cases h1
structure Good (r:Realm) (f:File):Prop where
 right:Right r
 rightD:RightD r
 few:FewS f
def aov {r:Realm}{f:File}(hr:r.OK)(h:E6 r f=true):Good r f:=by
 unfold E6 uq at h;simp only[av,decide_eq_true_eq] at h;obtain⟨⟨⟨h1,h2⟩,h3⟩,h4⟩:=h;have hs:=Qy hr h1;refine⟨⟨aot hs h4,by have:=hs.orders;omega,λo ho=>?_⟩,⟨hs,aou hs h4⟩,?_⟩
 .have:=hs.order o ho;refine⟨?_,by omega⟩;exact hr.2.2.2.2.1.2 o ho
 .simp[ET] at h2;exact⟨by omega,by omega,by omega,by omega⟩
def av9 (f:File)(kind sign:Int)(hl:f.facts.length<=4294967295):aq T 162 [aS f,.int kind,.int sign] (cv (jE f kind sign)):=by
 refine zyw 147 azk ?_;simp[Xy];refine .scan f.facts.length (λk=>yq kind sign (f.facts.getD k default)=false) (λk=>[.int k]) (λ_=>[cv cX]) ?_ (λk hk hj ho=>?_) (λk hk hj ho=>?_) (λhj=>?_)
 .simp
 .have hw:=aV hk (by omega);simp[hk,yq] at ho;by_cases h1:f.facts[k].kind=kind<;>by_cases h2:f.facts[k].at_=sign
  .exact absurd h2 (ho h1)
  all_goals simp[Nr,Dn,hk,hw,h1,h2]
 .have hf:jE f kind sign=fm (decide (f.facts[k].n≠0)):=by
   unfold jE;rw[v5 hk (by simpa [hk] using ho) (λj bR=>by have:=hj j bR;simpa [show j<f.facts.length by omega] using this)]
  simp[hk,yq] at ho;by_cases hn:f.facts[k].n=0
  .simp[Nr,Dn,hk,ho,hf,hn];rfl
  .simp[Nr,Dn,hk,ho,hf,hn];rfl
 .have hf:jE f kind sign=cX:=by
   unfold jE;rw[yr (λj bR=>by have:=hj j bR;simpa [bR] using this)]
  simp[Nr,Dn,hf]
@[simp] def aHH (a0 a1 a2 a3 a4 a5 a6 a7 a8 a9 nv pz pA pB pC sA sB sC tR x:D):bH [a0,a1,a2,a3,a4,a5,a6,a7,a8,a9,nv,pz,pA,pB,pC,sA,sB,sC,tR] 18 [x]=[a0,a1,a2,a3,a4,a5,a6,a7,a8,a9,nv,pz,pA,pB,pC,sA,sB,sC,x]:=zyz
@[simp] def aHa:D.none.cells=[D.none]:=zyz
end Rm
namespace Rm
open Go Cx
structure Chain where
 signs:List Int
 holder:Int
 broken:Int
 bearer:Bool
 agent:Int
 late:List Int
 deriving Inhabited
def uf (x:Chain):D:=.agg [ints x.signs,.int x.holder,.int x.broken,.bool x.bearer,.int x.agent,ints x.late]
@[simp] def aCa (x:Chain):(uf x).cells=[ints x.signs,.int x.holder,.int x.broken,.bool x.bearer,.int x.agent,ints x.late]:=zyz
@[simp] def aGN (x:Chain):D.agg [ints x.signs,.int x.holder,.int x.broken,.bool x.bearer,.int x.agent,ints x.late]=uf x:=zyz
@[simp] def aD1 (x:Chain):lf 6 (uf x)=uf x:=zyz
@[simp] def aB9 (x:Chain):(uf x).c 0=ints x.signs:=zyz
structure Objection where
 firm:Int
 day:Int
 shows:Bool
 deriving DecidableEq,Inhabited
def qV (x:Objection):D:=.agg [.int x.firm,.int x.day,.bool x.shows]
@[simp] def aC2 (x:Objection):(qV x).cells=[.int x.firm,.int x.day,.bool x.shows]:=zyz
@[simp] def aGW (x:Objection):D.agg [.int x.firm,.int x.day,.bool x.shows]=qV x:=zyz
@[simp] def aCZ (x:Objection):(qV x).c 0=.int x.firm:=zyz
@[simp] def aC0 (x:Objection):(qV x).c 1=.int x.day:=zyz
@[simp] def aC1 (x:Objection):(qV x).c 2=.bool x.shows:=zyz
def wZ (l:List Objection):D:=.list (l.map qV)
@[simp] def aHb (l:List Objection):(wZ l).l=l.map qV:=zyz
abbrev Zf:Ty:=.agg [.int .i64,.int .i64,.bool]
def Objection.OK (x:Objection):Prop:=aQ x.firm/\aQ x.day
def aup {d:D}(h:DTy Zf d):∃x:Objection,d=qV x/\x.OK:=by
 obtain⟨ds,rfl,hs⟩:=h.agg_inv;obtain⟨d0,ds,rfl,h0,hs⟩:=hs.cons_inv;obtain⟨d1,ds,rfl,h1,hs⟩:=hs.cons_inv;obtain⟨d2,ds,rfl,h2,hs⟩:=hs.cons_inv;obtain rfl:=hs.nil_inv;obtain⟨n0,rfl,b0⟩:=h0.i64_inv;obtain⟨n1,rfl,b1⟩:=h1.i64_inv;obtain⟨n2,rfl⟩:=h2.bool_inv;exact⟨⟨n0,n1,n2⟩,rfl,⟨b0,b1⟩⟩
def auq {d:D}(h:DTy (.slice Zf) d):∃l:List Objection,d=wZ l/\l.length<=maxLen/\∀y,y∈l->Objection.OK y:=by
 obtain⟨xs,rfl,hm,hx⟩:=h.slice_inv;obtain⟨l,rfl,hl⟩:=kQ (enc:=qV) (P:=Objection.OK) λx hh=>aup (hx x hh);exact⟨l,rfl,by simpa using hm,hl⟩
structure Lost where
 file:Int
 part:Int
 by_:Int
 day:Int
 notice:Int
 claims:List Objection
 deriving Inhabited
def eQ (x:Lost):D:=.agg [.int x.file,.int x.part,.int x.by_,.int x.day,.int x.notice,wZ x.claims]
@[simp] def aCY (x:Lost):(eQ x).cells=[.int x.file,.int x.part,.int x.by_,.int x.day,.int x.notice,wZ x.claims]:=zyz
@[simp] def aGV (x:Lost):D.agg [.int x.file,.int x.part,.int x.by_,.int x.day,.int x.notice,wZ x.claims]=eQ x:=zyz
@[simp] def aD3 (x:Lost):lf 6 (eQ x)=eQ x:=zyz
@[simp] def aCT (x:Lost):(eQ x).c 1=.int x.part:=zyz
@[simp] def aCU (x:Lost):(eQ x).c 2=.int x.by_:=zyz
@[simp] def aCV (x:Lost):(eQ x).c 3=.int x.day:=zyz
@[simp] def aCW (x:Lost):(eQ x).c 4=.int x.notice:=zyz
@[simp] def aCX (x:Lost):(eQ x).c 5=wZ x.claims:=zyz
abbrev aAY:Ty:=.agg [.int .i64,.int .i64,.int .i64,.int .i64,.int .i64,.slice Zf]
def Lost.OK (x:Lost):Prop:=aQ x.file/\aQ x.part/\aQ x.by_/\aQ x.day/\aQ x.notice/\(x.claims.length<=maxLen/\∀y,y∈x.claims->Objection.OK y)
def ar9 {d:D}(h:DTy aAY d):∃x:Lost,d=eQ x/\x.OK:=by
 obtain⟨ds,rfl,hs⟩:=h.agg_inv;obtain⟨d0,ds,rfl,h0,hs⟩:=hs.cons_inv;obtain⟨d1,ds,rfl,h1,hs⟩:=hs.cons_inv;obtain⟨d2,ds,rfl,h2,hs⟩:=hs.cons_inv;obtain⟨d3,ds,rfl,h3,hs⟩:=hs.cons_inv;obtain⟨d4,ds,rfl,h4,hs⟩:=hs.cons_inv;obtain⟨d5,ds,rfl,h5,hs⟩:=hs.cons_inv;obtain rfl:=hs.nil_inv;obtain⟨n0,rfl,b0⟩:=h0.i64_inv;obtain⟨n1,rfl,b1⟩:=h1.i64_inv;obtain⟨n2,rfl,b2⟩:=h2.i64_inv;obtain⟨n3,rfl,b3⟩:=h3.i64_inv;obtain⟨n4,rfl,b4⟩:=h4.i64_inv;obtain⟨n5,rfl,b5,c5⟩:=auq h5;exact⟨⟨n0,n1,n2,n3,n4,n5⟩,rfl,⟨b0,b1,b2,b3,b4,⟨b5,c5⟩⟩⟩
end Rm
namespace Rm
open Go Go.Proofs Cx
def ai1 {α:Type}{p:α->Bool}{l:List α}{x:α}(h:x∈l.takeWhile p):p x=true:=by
 induction l with
 |nil=>cases h
 |cons y l ih=>
  rw[List.takeWhile_cons] at h;split at h
  .rcases cQ.1 h with rfl|h
   .assumption
   .exact ih h
  .cases h
structure Stab (f:File) (day:Int):Prop where
 signs:∀s,s∈f.signs->s.day<=day
 acts:∀s,s∈f.acts->s.day<=day
 alters:∀a,a∈f.alters->jD f.signs.length a=true
 facts:∀a,a∈f.facts->j8 f.signs.length a=true
def axC (f:File)(day:Int):Stab (cm f day) day:=by
 refine⟨λs hs=>?_,λs hs=>?_,λa ha=>?_,λa ha=>?_⟩
 .simpa using ai1 hs
 .simpa using ai1 hs
 .exact(eg.1 ha).2
 .exact(eg.1 ha).2
def adK (k k':Int)(v:D):∀es:List (D×D),(∀e,e∈es->∃n:Int,e.1=.int n)->eu (.int k') (dj (.int k) v es)=if k'=k then some v else eu (.int k') es
 |[],_=>by
  simp[dj,eu]
 |e::es,h=>by
  have ih:=adK k k' v es λx hx=>h x (by simp[hx]);obtain⟨n,hn⟩:=h e (by simp);obtain⟨e1,e2⟩:=e;simp only at hn;subst hn;by_cases hk:k=n
  .subst hk;by_cases kJ:k'=k
   .simp[dj,eu,kJ]
   .simp[dj,eu,kJ]
  .by_cases kJ:k'=n
   .subst kJ;simp[dj,eu,hk,vP hk]
   .simp[dj,eu,hk,kJ,ih]
def agD (k v:D):∀es:List (D×D),∀e,e∈dj k v es->e.1=k\/e∈es
 |[],e,h=>by
  simp[dj] at h;exact .inl (by rw[h])
 |x::es,e,h=>by
  unfold dj at h;split at h
  .rcases cQ.1 h with rfl|h
   .exact .inl rfl
   .exact .inr (by simp[h])
  .rcases cQ.1 h with rfl|h
   .exact .inr (by simp)
   .rcases agD k v es e h with h|h
    .exact .inl h
    .exact .inr (by simp[h])
end Rm
