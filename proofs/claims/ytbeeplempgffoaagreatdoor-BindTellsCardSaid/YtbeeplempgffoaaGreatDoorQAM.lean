/-
  Shared texts of this claim.
-/
import Derived.Test.YtbeeplempgffoaaGreatDoorQAL
import Derived.Lib.Mul64
set_option linter.unusedSimpArgs false
set_option linter.unusedVariables false
noncomputable section
namespace Rm
open Go Go.Proofs Cx
abbrev u (n:Nat):D:=.v (.int .u64 n)
theorem afV (n:Int):IntKind.u64.wrap n=n%18446744073709551616:=rfl
theorem FB {n:Int}(h:0≤n∧n<18446744073709551616):IntKind.u64.wrap n=n:=by
 rw[afV];omega
theorem xr {n:Nat}(h:n<18446744073709551616):IntKind.u64.wrap (n:Int)=n:=FB (by omega)
theorem asy (a s:Nat)(h:s≤64):cW .shr .u64 a s=((a/2^s:Nat):Int):=by
 show Int.fdiv (a:Int) (2^(min (s:Int).toNat 64))=_;have:min (s:Int).toNat 64=s:=by simp;omega
 rw[this,agc _ (Int.le_of_lt (Int.pow_pos (by decide)))];rw[Int.natCast_ediv,Int.natCast_pow];rfl
theorem Ml (a:Nat)(h:a<18446744073709551616):cW .and .u64 a 4294967295=((a%4294967296:Nat):Int):=by
 show IntKind.u64.wrap ((BitVec.ofInt 64 (a:Int)&&& BitVec.ofInt 64 4294967295).toNat:Nat)=_;have e:(BitVec.ofInt 64 (a:Int)&&& BitVec.ofInt 64 4294967295).toNat=a%4294967296:=by
  rw[BitVec.toNat_and];have e1:(BitVec.ofInt 64 (a:Int)).toNat=a:=by simp[BitVec.ofInt,BitVec.toNat_ofNat];omega
  have e2:(BitVec.ofInt 64 4294967295).toNat=2^32-1:=by decide
  rw[e1,e2,Nat.and_two_pow_sub_one_eq_mod]
 rw[e,xr (by omega)]
@[simp] theorem A0 (a:Nat):cW .shr .u64 a 32=((a/4294967296:Nat):Int):=asy a 32 (by decide)
set_option maxHeartbeats 2000000 in
theorem apz (a b:Nat)(ha:a<18446744073709551616)(hb:b<18446744073709551616):aj T 226 [u a,u b] (.tup [u (a*b/18446744073709551616),u (a*b%18446744073709551616)]):=by
 refine .of_tree rfl (lA 47 (by kernel_rfl)) atq ?_;obtain⟨h1,h2,h3,h4⟩:=Go.Lib.mul64_hi a b ha hb;have elo:IntKind.u64.wrap ((a:Int)*(b:Int))=((a*b%18446744073709551616:Nat):Int):=by rw[afV,Int.natCast_emod,Int.natCast_mul];rfl
 have Ny:cW .shr .u64 (a:Int) 32=((a/4294967296:Nat):Int):=A0 a;have ea0:cW .and .u64 (a:Int) 4294967295=((a%4294967296:Nat):Int):=Ml a ha;have Nz:cW .shr .u64 (b:Int) 32=((b/4294967296:Nat):Int):=A0 b;have eb0:cW .and .u64 (b:Int) 4294967295=((b%4294967296:Nat):Int):=Ml b hb;have aBo:=Go.Lib.half_mul_le (a:=a/4294967296) (b:=b/4294967296) (by omega) (by omega);have aBn:=Go.Lib.half_mul_le (a:=a/4294967296) (b:=b%4294967296) (by omega) (by omega);have aBm:=Go.Lib.half_mul_le (a:=a%4294967296) (b:=b/4294967296) (by omega) (by omega);have aBl:=Go.Lib.half_mul_le (a:=a%4294967296) (b:=b%4294967296) (by omega) (by omega);have On:a*b/18446744073709551616<18446744073709551616:=by
  have:a*b<18446744073709551616*18446744073709551616:=Nat.mul_lt_mul'' ha hb;exact Nat.div_lt_of_lt_mul this
 simp only[TF];generalize a/4294967296=a1 at*;generalize a%4294967296=a0 at*;generalize b/4294967296=b1 at*;generalize b%4294967296=b0 at*;have p11:IntKind.u64.wrap ((a1:Int)*(b1:Int))=((a1*b1:Nat):Int):=by rw[←Int.natCast_mul];exact xr (by omega)
 have p10:IntKind.u64.wrap ((a1:Int)*(b0:Int))=((a1*b0:Nat):Int):=by rw[←Int.natCast_mul];exact xr (by omega)
 have p01:IntKind.u64.wrap ((a0:Int)*(b1:Int))=((a0*b1:Nat):Int):=by rw[←Int.natCast_mul];exact xr (by omega)
 have p00:IntKind.u64.wrap ((a0:Int)*(b0:Int))=((a0*b0:Nat):Int):=by rw[←Int.natCast_mul];exact xr (by omega)
 rw[←h4] at On ⊢;generalize a1*b1=P at*;generalize a1*b0=Q at*;generalize a0*b1=R at*;generalize a0*b0=S at*;have s1:cW .shr .u64 (S:Int) 32=((S/4294967296:Nat):Int):=A0 S;have s2:IntKind.u64.wrap ((Q:Int)+((S/4294967296:Nat):Int))=((Q+S/4294967296:Nat):Int):=by rw[FB (by omega)];omega
 generalize S/4294967296=S1 at*;generalize hT:Q+S1=TT at*;have s3:cW .shr .u64 (TT:Int) 32=((TT/4294967296:Nat):Int):=A0 TT;have s4:cW .and .u64 (TT:Int) 4294967295=((TT%4294967296:Nat):Int):=Ml TT (by omega);have s5:IntKind.u64.wrap (((TT%4294967296:Nat):Int)+(R:Int))=((TT%4294967296+R:Nat):Int):=by rw[FB (by omega)];omega
 generalize hU:TT%4294967296+R=U at*;have s6:cW .shr .u64 (U:Int) 32=((U/4294967296:Nat):Int):=A0 U;have s7:IntKind.u64.wrap ((P:Int)+((TT/4294967296:Nat):Int))=((P+TT/4294967296:Nat):Int):=by rw[FB (by omega)];omega
 have s8:IntKind.u64.wrap (((P+TT/4294967296:Nat):Int)+((U/4294967296:Nat):Int))=((P+TT/4294967296+U/4294967296:Nat):Int):=by rw[FB (by omega)];omega
 simp[-A0,-Int.natCast_add,-Int.natCast_mul,-Int.natCast_ediv,-Int.natCast_emod,elo,Ny,ea0,Nz,eb0,p11,p10,p01,p00,s1,s2,s3,s4,s5,s6,s7,s8]
def lG (m:Nat):Int:=if m<1099511627776 then m else 1099511627776
def oQ (a b:Int):Int:=if(decide (a<0)!=decide (b<0))=true then-lG (a.natAbs*b.natAbs) else lG (a.natAbs*b.natAbs)
theorem ade (m:Nat):0≤lG m∧lG m≤1099511627776:=by unfold lG;split<;>omega
set_option maxHeartbeats 1000000 in
theorem asZ (a b:Int)(ha:-1099511627776≤a∧a≤1099511627776)(hb:-1099511627776≤b∧b≤1099511627776):aj T 225 [.int a,.int b] (.int (oQ a b)):=by
 refine .of_tree rfl (lA 46 (by kernel_rfl)) av2 ?_;have wa:IntKind.u64.wrap (a.natAbs:Int)=a.natAbs:=xr (by omega);have wb:IntKind.u64.wrap (b.natAbs:Int)=b.natAbs:=xr (by omega);have w0a:IntKind.i64.wrap (0-a)=-a:=by rw[aN (by omega)];omega
 have w0b:IntKind.i64.wrap (0-b)=-b:=by rw[aN (by omega)];omega
 have awo:IntKind.i64.wrap (-a)=-a:=aN (by omega);have awp:IntKind.i64.wrap (-b)=-b:=aN (by omega);have ea:(if a< -a then D.int (-a) else D.int a)=D.int a.natAbs:=by split<;>congr 1<;>omega
 have eb:(if b< -b then D.int (-b) else D.int b)=D.int b.natAbs:=by split<;>congr 1<;>omega
 have ea':(if a< -a then-a else a)=(a.natAbs:Int):=by split<;>omega
 have eb':(if b< -b then-b else b)=(b.natAbs:Int):=by split<;>omega
 simp[VV,awo,awp,ea,eb,ea',eb'];rw[wa,wb];refine⟨_,apz a.natAbs b.natAbs (by omega) (by omega),?_⟩;unfold oQ;generalize a.natAbs*b.natAbs=m;have hs:(decide (a<0)!=decide (b<0))=false↔(a<0↔b<0):=by
  by_cases h1:a<0<;>by_cases h2:b<0<;>simp[h1,h2]
 have key:((if((m/18446744073709551616:Nat):Int)=0∧((m%18446744073709551616:Nat):Int)<1099511627776 then IntKind.i64.wrap ((m%18446744073709551616:Nat):Int) else 1099511627776):Int)=lG m:=by
  unfold lG;by_cases hm:m<1099511627776
  ·have h1:m/18446744073709551616=0:=by omega
   have h2:m%18446744073709551616=m:=by omega
   rw[h1,h2,if_pos ⟨rfl,by omega⟩,if_pos hm,aN (by omega)]
  ·rw[if_neg hm,if_neg];rintro⟨h1,h2⟩;omega
 have dS:=ade m;have anC:(if((m/18446744073709551616:Nat):Int)=0∧((m%18446744073709551616:Nat):Int)<1099511627776 then D.int (IntKind.i64.wrap ((m%18446744073709551616:Nat):Int)) else D.int 1099511627776)=D.int (lG m):=by
  rw[←key];split<;>rfl
 show(if a<0↔b<0 then(if((m/18446744073709551616:Nat):Int)=0∧((m%18446744073709551616:Nat):Int)<1099511627776 then D.int (IntKind.i64.wrap ((m%18446744073709551616:Nat):Int)) else D.int 1099511627776)=_ else
  IntKind.i64.wrap (-(if((m/18446744073709551616:Nat):Int)=0∧((m%18446744073709551616:Nat):Int)<1099511627776 then IntKind.i64.wrap ((m%18446744073709551616:Nat):Int) else 1099511627776))=_)
 rw[anC,key];generalize lG m=n at*;split
 ·rename_i h;rw[hs.2 h];simp
 ·rename_i h;have:(decide (a<0)!=decide (b<0))=true:=by
   cases e:(decide (a<0)!=decide (b<0)) with
   |true=>rfl
   |false=>exact absurd (hs.1 e) h
  rw[this,aN (by omega)];simp
def qT (op a b:Int):Int:=if op=9 then kp (a+b) else if op=10 then kp (a-b) else if op=11 then oQ a b else if op=12 then min a b else max a b
theorem asW (op a b:Int)(ha:-1099511627776≤a∧a≤1099511627776)(hb:-1099511627776≤b∧b≤1099511627776):aj T 223 [.int op,.int a,.int b] (.int (qT op a b)):=by
 refine .of_tree rfl (lA 45 (by kernel_rfl)) avV ?_;have w1:IntKind.i64.wrap (a+b)=a+b:=aN (by omega);have w2:IntKind.i64.wrap (a-b)=a-b:=aN (by omega);simp[VP,qT,w1,w2];by_cases h1:op=9
 ·simp[h1];exact Lh _
 by_cases h2:op=10
 ·simp[h1,h2];exact Lh _
 by_cases h3:op=11
 ·simp[h1,h2,h3];exact asZ a b ha hb
 by_cases h4:op=12
 ·simp[h1,h2,h3,h4];by_cases h5:b<a<;>simp[h5]<;>omega
 simp[h1,h2,h3,h4];by_cases h5:b>a<;>simp[h5]<;>omega
def eE (b:Bool):Cell:=if b then⟨true,1⟩ else⟨true,0⟩
theorem uB (b:Bool):aj T 221 [.bool b] (bX (eE b)):=by
 refine .of_tree rfl (lA 43 (by kernel_rfl)) av4 ?_;cases b<;>simp[VX,eE]<;>rfl
def cP:Cell:=⟨false,0⟩
@[simp] theorem aCh:D.agg [.bool false,.int 0]=bX cP:=_root_.id rfl
@[simp] theorem aCi:cP.known=false:=rfl
@[simp] theorem aCj:cP.n=0:=rfl
def cellAt (cs:List Cell)(v:Int):Cell:=cs.getD v.toNat default
def jm (cs:List Cell)(v:Int):Cell:=if cs.length≤v.toNat∨(cellAt cs v).known=false then cP else if(jn v).1=1 then eE (decide ((cellAt cs v).n≠0)) else⟨true,kp (cellAt cs v).n⟩
abbrev NB (cs:List Cell):D:=.agg [cells cs]
theorem as1 (cs:List Cell)(v:Int)(hv:0≤v):aj T 203 [NB cs,.int v] (bX (jm cs v)):=by
 refine .of_tree rfl (lA 42 (by kernel_rfl)) av1 ?_;obtain⟨k,rfl⟩:=mT hv;simp[VU,jm,cellAt];by_cases h1:cs.length≤k
 ·simp[h1]
 have cr:k<cs.length:=by omega
 simp[h1,cr];cases h2:cs[k].known
 ·simp[h2]
 simp[h2];refine⟨_,ae8 _,?_⟩;by_cases h3:(jn k).1=1
 ·simp[h3,cr];refine⟨_,uB _,?_⟩;simp;rfl
 ·simp[h3,cr];refine⟨_,Lh _,?_⟩;simp;rfl
@[simp] theorem aBD (a b:Int):(a==b)=decide (a=b):=_root_.id rfl
@[simp] theorem aBE (a b:Int):(a !=b)= !decide (a=b):=_root_.id rfl
def bl (l:List Cell)(k:Nat):Cell:=l.getD k default
def dR (op:Int)(l:List Cell):Cell:=
 if op=3 then(if(bl l 0).known=true then eE (decide ((bl l 0).n=0)) else cP)
 else if(op=4∨op=5)∧(bl l 0=eE (decide (op=5))∨bl l 1=eE (decide (op=5))) then eE (decide (op=5))
 else if op=6 then(if(bl l 1).known=true∧bl l 1=bl l 2 then bl l 1 else cP)
 else if(bl l 0).known=false∨(bl l 1).known=false then cP
 else if op=4∨op=5 then eE (decide (op=4))
 else if op=7 then eE (decide ((bl l 0).n<(bl l 1).n)) else if op=8 then eE (decide ((bl l 0).n=(bl l 1).n)) else⟨true,qT op (bl l 0).n (bl l 1).n⟩
theorem Gd (a b:Cell):a=b↔a.known=b.known∧a.n=b.n:=by cases a;cases b;simp
theorem asX (op:Int)(l:List Cell)(h1:1≤l.length)(h2:op≠3→2≤l.length)(h3:op=6→3≤l.length)
 (hb:9≤op→(-1099511627776≤(bl l 0).n∧(bl l 0).n≤1099511627776)∧(-1099511627776≤(bl l 1).n∧(bl l 1).n≤1099511627776)) (h9:op<3∨8<op→9≤op):
 aj T 204 [.int op,cells l] (bX (dR op l)):=by
 refine .of_tree rfl (lA 44 (by kernel_rfl)) avX ?_;have g0:0<l.length:=by omega
 have vt:l[0]=bl l 0:=by simp[bl,g0]
 simp[VR];unfold dR;by_cases o3:op=3
 ·simp[o3,g0,vt];cases e:(bl l 0).known
  ·simp
  ·simp[g0];refine⟨_,uB _,?_⟩;simp
 have g1:1<l.length:=by have:=h2 o3;omega
 have Ct:l[1]=bl l 1:=by simp[bl,g1]
 have eH:(1:Int)<l.length:=by omega
 simp[o3];have fin:∀a b:Cell,(a=b)=(a.known=b.known∧a.n=b.n):=fun a b=>propext (Gd a b);rcases FG (op=4) with o4|o4
 ·subst o4;simp;refine⟨_,uB _,?_⟩;simp[g0,g1,eH,vt,Ct,fin];split
  ·rfl
  ·split
   ·rfl
   ·refine⟨_,uB _,?_⟩;simp
 rcases FG (op=5) with o5|o5
 ·subst o5;simp;refine⟨_,uB _,?_⟩;simp[g0,g1,eH,vt,Ct,fin];split
  ·rfl
  ·split
   ·rfl
   ·refine⟨_,uB _,?_⟩;simp
 rcases FG (op=6) with o6|o6
 ·subst o6;have g2:2<l.length:=by have:=h3 rfl;omega
  have gg2:l[2]=bl l 2:=by simp[bl,g2]
  have ma:(2:Int)<l.length:=by omega
  simp[g1,g2,eH,ma,Ct,gg2,fin];cases e1:(bl l 1).known
  ·simp
  by_cases e2:(bl l 1).known=(bl l 2).known∧(bl l 1).n=(bl l 2).n
  ·rw[e1] at e2;simp[e1,e2]
  ·rw[e1] at e2;have sU:¬((bl l 2).known=true∧(bl l 1).n=(bl l 2).n):=fun h=>e2 ⟨h.1.symm,h.2⟩;simp only[e1,true_and,if_true]
   first|(rw[if_neg sU,if_neg sU])|(simp[sU])
 simp[o4,o5,o6,g0,g1,eH,vt,Ct];cases e1:(bl l 0).known
 ·simp
 cases e2:(bl l 1).known
 ·simp
 simp[g1,eH,Ct];rcases FG (op=7) with o7|o7
 ·subst o7;simp;refine⟨_,uB _,?_⟩;simp
 rcases FG (op=8) with o8|o8
 ·subst o8;simp;refine⟨_,uB _,?_⟩;simp
 simp[o7,o8];obtain⟨b1,b2⟩:=hb (h9 (by omega));refine⟨_,asW op _ _ b1 b2,?_⟩;simp;rfl
end Rm
namespace Rm
open Go Go.Proofs Cx
def aZ:Nat→List Cell→Tm→Cell
 |0,_,_=>cP
 |L+1,cs,t=>if t.op=0∨t.op=1 then⟨true,t.n⟩ else if t.op=2 then jm cs t.n else
   if t.op=6∧(bl (t.args.map (aZ L cs)) 0).known=true then bl (t.args.map (aZ L cs)) (2-(bl (t.args.map (aZ L cs)) 0).n).toNat else dR t.op (t.args.map (aZ L cs))
def dY:Nat→List Cell→Tm→List Int
 |0,_,_=>[]
 |L+1,cs,t=>if t.op=0∨t.op=1 then[] else if t.op=2 then(if(jm cs t.n).known=true then[] else[t.n]) else
   if t.op=6∧(bl (t.args.map (aZ L cs)) 0).known=true then(t.args.map (dY L cs)).getD (2-(bl (t.args.map (aZ L cs)) 0).n).toNat [] else
   if(dR t.op (t.args.map (aZ L cs))).known=true then[] else(t.args.map (dY L cs)).flatten
theorem vn (L:Nat)(cs:List Cell)(t:Tm):aZ (L+1) cs t=if t.op=0∨t.op=1 then⟨true,t.n⟩ else if t.op=2 then jm cs t.n else
 if t.op=6∧(bl (t.args.map (aZ L cs)) 0).known=true then bl (t.args.map (aZ L cs)) (2-(bl (t.args.map (aZ L cs)) 0).n).toNat else dR t.op (t.args.map (aZ L cs)):=rfl
theorem Js (L:Nat)(cs:List Cell)(t:Tm):dY (L+1) cs t=if t.op=0∨t.op=1 then[] else if t.op=2 then(if(jm cs t.n).known=true then[] else[t.n]) else
 if t.op=6∧(bl (t.args.map (aZ L cs)) 0).known=true then(t.args.map (dY L cs)).getD (2-(bl (t.args.map (aZ L cs)) 0).n).toNat [] else
 if(dR t.op (t.args.map (aZ L cs))).known=true then[] else(t.args.map (dY L cs)).flatten:=rfl
theorem H3 {L:Nat}{t:Tm}{k:Int}(h:bt (L+1) t=(k,0)):(∀a,a∈t.args→(bt L a).2=0)∧p7 t (t.args.map fun a=>(bt L a).1)=(k,0):=by
 rw[B1] at h;by_cases e:kq t.args.length (fun k=>(bt L (t.args.getD k default)).2)=0
 ·rw[if_neg (by simpa using e)] at h;refine⟨fun a ha=>?_,h⟩;obtain⟨j,hj,rfl⟩:=jt ha;have:=NJ.1 e j hj;simpa [hj] using this
 ·rw[if_pos e] at h;injection h with _ h
  exact absurd h e
inductive Node (ks:List Int) (t:Tm):Int→Prop where
 |int (h:t.op=0) (ha:t.args=[]) (hn:-1099511627776≤t.n∧t.n≤1099511627776):Node ks t 0
 |bool (h:t.op=1) (ha:t.args=[]) (hn:t.n=0∨t.n=1):Node ks t 1
 |var (h:t.op=2) (ha:t.args=[]) (hn:0≤t.n∧t.n≤19):Node ks t (jn t.n).1
 |not (h:t.op=3) (hk:ks=[1]):Node ks t 1
 |log (h:t.op=4∨t.op=5) (hk:ks=[1,1]):Node ks t 1
 |ite (k:Int) (h:t.op=6) (hk:ks=[1,k,k]):Node ks t k
 |less (h:t.op=7) (hk:ks=[0,0]):Node ks t 1
 |equal (k:Int) (h:t.op=8) (hk:ks=[k,k]):Node ks t 1
 |num (h:9≤t.op∧t.op≤13) (hk:ks=[0,0]):Node ks t 0
theorem afS (v:Int):(jn v).1=0∨(jn v).1=1:=by
 unfold jn;repeat' split
 all_goals simp
theorem apP {t:Tm}{ks:List Int}{k:Int}(hl:ks.length=t.args.length)(dc:∀x,x∈ks→x=0∨x=1)(h:p7 t ks=(k,0)):Node ks t k:=by
 unfold p7 at h;split at h
 ·injection h with _ h;cases h
 rename_i cZ;split at h
 ·rename_i h3;unfold p5 at h;split at h
  ·injection h with _ h;cases h
  rename_i ha0;have ha:t.args=[]:=Wz (by omega);split at h
  ·rename_i h0;split at h
   ·injection h with _ h;cases h
   ·rename_i hc;injection h with h _
    subst h;refine .int h0 ha ?_;unfold kp at hc;omega
  split at h
  ·rename_i h0;split at h
   ·injection h with _ h;cases h
   ·rename_i hc;injection h with h _
    subst h;exact .bool h0 ha (by omega)
  split at h
  ·injection h with _ h;cases h
  ·rename_i g0 g1 hc;injection h with h _
   subst h;refine .var (by omega) ha ?_;unfold jn at hc;split at hc
   ·simp at hc
   ·omega
 rename_i h3;split at h
 ·injection h with _ h;cases h
 rename_i hlen;have ng:ks.length=(dh t.op).1.length:=by
  refine Bf fun hh=>hlen (.inl hh)
 split at h
 ·injection h with _ h;cases h
 rename_i az;have jh:∀j,j<(dh t.op).1.length→nq (dh t.op).1 ks j=true:=uW.1 (by simpa using az)
 have two:∀{n:Nat},ks.length=2→∃a b,ks=[a,b]:=fun h=>by
  match ks,h with
  |[a,b],_=>exact⟨a,b,rfl⟩
 by_cases o3:t.op=3
 ·have e:dh t.op=([1],1):=by simp[dh,o3]
  rw[e] at ng jh h
  match ks,ng with
  |[a],_=>
   have:=jh 0 (by simp);simp[nq] at this;simp at h;subst h this;exact .not o3 rfl
 by_cases Ao:t.op=4∨t.op=5
 ·have e:dh t.op=([1,1],1):=by simp[dh,o3,Ao]
  rw[e] at ng jh h
  match ks,ng with
  |[a,b],_=>
   have t1:=jh 0 (by simp);have t2:=jh 1 (by simp);simp[nq] at t1 t2;simp at h;subst h t1 t2;exact .log Ao rfl
 by_cases o6:t.op=6
 ·have e:dh t.op=([1,-1,-1],-1):=by simp[dh,o6]
  rw[e] at ng jh h
  match ks,ng,dc with
  |[a,b,c],_,dc=>
   have t1:=jh 0 (by simp);have t3:=jh 2 (by simp);have hb:=dc b (by simp);have pK:¬b=-1:=by omega
   simp[nq] at t1;simp[nq,mC,pK] at t3;simp[mC,pK] at h;subst h t1 t3;exact .ite _ o6 rfl
 by_cases o7:t.op=7
 ·have e:dh t.op=([0,0],1):=by simp[dh,o7]
  rw[e] at ng jh h
  match ks,ng with
  |[a,b],_=>
   have t1:=jh 0 (by simp);have t2:=jh 1 (by simp);simp[nq] at t1 t2;simp at h;subst h t1 t2;exact .less o7 rfl
 by_cases o8:t.op=8
 ·have e:dh t.op=([-1,-1],1):=by simp[dh,o8]
  rw[e] at ng jh h
  match ks,ng,dc with
  |[a,b],_,dc=>
   have t2:=jh 1 (by simp);have ha:=dc a (by simp);have han:¬a=-1:=by omega
   simp[nq,mC,han] at t2;simp at h;subst h t2;exact .equal _ o8 rfl
 have e:dh t.op=([0,0],0):=by simp[dh,o3,Ao,o6,o7,o8]
 rw[e] at ng jh h
 match ks,ng with
 |[a,b],_=>
  have t1:=jh 0 (by simp);have t2:=jh 1 (by simp);simp[nq] at t1 t2;simp at h;subst h t1 t2;exact .num (by omega) rfl
theorem B2:∀{L:Nat} {t:Tm} {k:Int},bt (L+1) t=(k,0)→Node (t.args.map fun a=>(bt L a).1) t k∧(k=0∨k=1)
 |L,t,k,h=>by
  obtain⟨h1,h2⟩:=H3 h
  have dc:∀x,x∈(t.args.map fun a=>(bt L a).1)→x=0∨x=1:=by
   intro x hx;obtain⟨a,ha,rfl⟩:=eR.1 hx;cases L with
   |zero=>exact .inl rfl
   |succ L=>exact(B2 (L:=L) (t:=a) (k:=(bt (L+1) a).1) (by rw[←h1 a ha])).2
  have hn:=apP (by simp) dc h2;refine⟨hn,?_⟩;cases hn with
  |int=>simp
  |bool=>simp
  |var=>exact afS _
  |not=>simp
  |log=>simp
  |ite k _ hk=>exact dc k (by rw[hk];simp)
  |less=>simp
  |equal=>simp
  |num=>simp
end Rm
namespace Rm
open Go Go.Proofs Cx
def pz (k:Int)(c:Cell):Prop:=(c.known=false→c=cP)∧(c.known=true→(k=1→c.n=0∨c.n=1)∧(k=0→-1099511627776≤c.n∧c.n≤1099511627776))
theorem uq (k:Int):pz k cP:=⟨fun _=>rfl,fun h=>by cases h⟩
theorem AY (b:Bool):pz 1 (eE b):=⟨fun h=>(by cases b<;>cases h),fun _=>⟨fun _=>(by cases b<;>simp[eE]),fun h=>by cases h⟩⟩
theorem Nu (n:Int):-1099511627776≤kp n∧kp n≤1099511627776:=by unfold kp;omega
theorem ar6 (cs:List Cell)(v:Int)(hv:0≤v∧v≤19):pz (jn v).1 (jm cs v):=by
 unfold jm;split
 ·exact uq _
 ·split
  ·rename_i h;rw[h];exact AY _
  ·rename_i h;refine⟨fun h=>(by cases h),fun _=>⟨fun h'=>absurd h' h,fun _=>Nu _⟩⟩
theorem aqD (a b:Int):-1099511627776≤oQ a b∧oQ a b≤1099511627776:=by
 unfold oQ;have:=ade (a.natAbs*b.natAbs);split<;>omega
theorem agD (op a b:Int)(ha:-1099511627776≤a∧a≤1099511627776)(hb:-1099511627776≤b∧b≤1099511627776):-1099511627776≤qT op a b∧qT op a b≤1099511627776:=by
 unfold qT;split
 ·exact Nu _
 split
 ·exact Nu _
 split
 ·exact aqD _ _
 split<;>omega
theorem aaB {α β:Type}{f:α→β}{l:List α}{x:β}(h:l.map f=[x]):∃a,l=[a]∧f a=x:=by
 match l,h with
 |[a],h=>exact⟨a,rfl,by simpa using h⟩
theorem tS {α β:Type}{f:α→β}{l:List α}{x y:β}(h:l.map f=[x,y]):∃a b,l=[a,b]∧f a=x∧f b=y:=by
 match l,h with
 |[a,b],h=>exact⟨a,b,rfl,by simpa using h⟩
theorem Jm {α β:Type}{f:α→β}{l:List α}{x y z:β}(h:l.map f=[x,y,z]):∃a b c,l=[a,b,c]∧f a=x∧f b=y∧f c=z:=by
 match l,h with
 |[a,b,c],h=>exact⟨a,b,c,rfl,by simpa using h⟩
theorem NG:∀{L:Nat} {t:Tm} {k:Int} (cs:List Cell),bt L t=(k,0)→pz k (aZ L cs t)
 |0,t,k,cs,h=>uq _
 |L+1,t,k,cs,h=>by
  obtain⟨hn,hk⟩:=B2 h;obtain⟨ha,_⟩:=H3 h;have ih:∀a,a∈t.args→pz (bt L a).1 (aZ L cs a):=fun a hm=>NG cs (show bt L a=((bt L a).1,0) by rw[←ha a hm]);rw[vn];cases hn with
  |int h0 ha hn=>rw[if_pos (.inl h0)];exact⟨fun h=>(by cases h),fun _=>⟨fun h=>(by cases h),fun _=>hn⟩⟩
  |bool h0 ha hn=>rw[if_pos (.inr h0)];exact⟨fun h=>(by cases h),fun _=>⟨fun _=>hn,fun h=>by cases h⟩⟩
  |var h0 ha hn=>rw[if_neg (by omega),if_pos h0];exact ar6 cs _ hn
  |not h0 hk=>
   rw[if_neg (by omega),if_neg (by omega),if_neg (by omega)];unfold dR;rw[if_pos h0];split
   ·exact AY _
   ·exact uq _
  |log h0 hk=>
   rw[if_neg (by omega),if_neg (by omega),if_neg (by omega)];unfold dR;rw[if_neg (by omega)];split
   ·exact AY _
   rw[if_neg (by omega)];split
   ·exact uq _
   exact AY _
  |ite k h0 de=>
   obtain⟨a,b,c,hl,e1,e2,e3⟩:=Jm de;rw[hl] at ih ⊢;have r1:=ih a (by simp);have r2:=ih b (by simp);have r3:=ih c (by simp);rw[e1] at r1;rw[e2] at r2;rw[e3] at r3;rw[if_neg (by omega),if_neg (by omega)];simp only[iX,Bl,bl,uS];split
   ·rename_i hh;rcases(r1.2 hh.2).1 rfl with h1|h1<;>rw[h1]
    ·exact r3
    ·exact r2
   ·unfold dR;rw[if_neg (by omega),if_neg (by omega),if_pos h0];simp only[bl,uS,FJ];split
    ·exact r2
    ·exact uq _
  |less h0 hk=>
   rw[if_neg (by omega),if_neg (by omega),if_neg (by omega)];unfold dR;rw[if_neg (by omega),if_neg (by omega),if_neg (by omega)];split
   ·exact uq _
   repeat' split
   all_goals exact AY _
  |equal k h0 hk=>
   rw[if_neg (by omega),if_neg (by omega),if_neg (by omega)];unfold dR;rw[if_neg (by omega),if_neg (by omega),if_neg (by omega)];split
   ·exact uq _
   repeat' split
   all_goals exact AY _
  |num h0 de=>
   obtain⟨a,b,hl,e1,e2⟩:=tS de;rw[hl] at ih ⊢;have r1:=ih a (by simp);have r2:=ih b (by simp);rw[e1] at r1;rw[e2] at r2;rw[if_neg (by omega),if_neg (by omega),if_neg (by omega)];unfold dR;rw[if_neg (by omega),if_neg (by omega),if_neg (by omega)];simp only[iX,Bl,bl,uS,FJ];split
   ·exact uq _
   rename_i CR;rw[if_neg (by omega),if_neg (by omega),if_neg (by omega)];have k1:(aZ L cs a).known=true:=by
    cases e:(aZ L cs a).known with
    |true=>rfl
    |false=>exact absurd (.inl e) CR
   have k2:(aZ L cs b).known=true:=by
    cases e:(aZ L cs b).known with
    |true=>rfl
    |false=>exact absurd (.inr e) CR
   exact⟨fun h=>(by cases h),fun _=>⟨fun h=>(by cases h),fun _=>agD _ _ _ ((r1.2 k1).2 rfl) ((r2.2 k2).2 rfl)⟩⟩
theorem aaX:∀(L:Nat) (cs:List Cell) (t:Tm),bo L t≤60→((dY L cs t).length:Int)≤bo L t
 |0,cs,t,h=>by simp[bo] at h
 |L+1,cs,t,h=>by
  have h1:=tU (L+1) t;obtain⟨hl,hp⟩:=Dz h;have hs:∀(l:List Tm) (n:Int),(∀a,a∈l→bo L a≤60)→cO (bo L) l n≤60→((l.map (dY L cs)).flatten.length:Int)+n≤cO (bo L) l n∧∀j,(((l.map (dY L cs)).getD j []).length:Int)+n≤cO (bo L) l n:=by
   intro l
   induction l with
   |nil=>intro n _ _;simp[cO]
   |cons a l ih=>
    intro n hp hm;have ha:=aaX L cs a (hp a (by simp));unfold cO at hm ⊢;split at hm
    ·omega
    ·rename_i h60;rw[if_neg h60];obtain⟨i1,i2⟩:=ih (n+bo L a) (fun b hb=>hp b (by simp[hb])) hm;refine⟨by rw[iX,WB,lT];omega,fun j=>?_⟩;cases j with
     |zero=>simp;omega
     |succ j=>have:=i2 j;simp at this ⊢;omega
  obtain⟨ZG,fg⟩:=hs t.args 1 hp h;rw[Js];split
  ·simp;omega
  split
  ·split<;>simp<;>omega
  split
  ·have:=fg (2-(bl (t.args.map (aZ L cs)) 0).n).toNat;show _≤cO _ _ _;omega
  split
  ·simp;omega
  ·show _≤cO _ _ _;omega
@[simp] theorem aC5 (x y:List Int):sv (ints x) 0 (ints y)=ints y:=_root_.id rfl
@[simp] theorem asI (x y:Cell):sv (bX x) 0 (bX y)=bX y:=_root_.id rfl
@[simp] theorem aBF (a b:List Int):D.list (a.map D.int++b.map D.int)=ints (a++b):=by simp[ints]
def lists (l:List (List Int)):D:=.list (l.map ints)
@[simp] theorem aBS (l:List (List Int)):(lists l).l=l.map ints:=_root_.id rfl
theorem af0 (l:List (List Int))(hl:l.length≤1000)(hs:l.flatten.length≤1000000):aj T 205 [lists l] (ints l.flatten):=by
 refine .of_tree rfl (lA 48 (by kernel_rfl)) avC ?_;simp[Vv];have hb:∀k,(l.take k).flatten.length≤l.flatten.length:=by
  intro k
  conv=>rhs;rw[←L3 k l]
  rw[List.flatten_append,lT];omega
 have bE:∀k (hk:k<l.length),(l.take (k+1)).flatten=(l.take k).flatten++l[k]:=fun k hk=>by
  rw[gU hk,List.flatten_append];simp
 refine aH.forRounds l.length (fun k=>[.int ((l.take k).flatten.length:Nat),.int k]) (fun k=>[]) ?_ (fun k hk=>?_) ?_
 ·simp
 ·have hw:=ba hk (by omega);have h1:=bE k hk;have h2:=hb (k+1);rw[h1] at h2 ⊢;rw[lT] at h2 ⊢;generalize (l.take k).flatten.length=m at*;have rD:IntKind.i64.wrap ((m:Int)+(l[k].length:Int))=(m:Int)+l[k].length:=aN (by omega);have vO:¬((m:Int)+l[k].length<0):=by omega
  simp[aew,KL,hk,hw,rD,vO]
 ·simp[aew,KL];have YX:aj T 224 [.list [],.int (l.flatten.length:Nat)] (.list []):=by
   refine .of_ext (g:=fun _ ds=>Ii ds) rfl ⟨0,fun _ _=>?_⟩;show(if(0:Int)≤(l.flatten.length:Nat)∧((l.flatten.length:Nat):Int)≤4294967296 then some (D.list []) else none)=some (D.list []);rw[if_pos (by omega)]
  rw[List.length_flatten] at YX;refine⟨_,YX,?_⟩;refine aH.forRounds l.length (fun k=>[.none,.int k]) (fun k=>[ints (l.take k).flatten]) ?_ (fun k hk=>?_) ?_
  ·simp[ints]
  ·have hw:=ba hk (by omega);have h1:=bE k hk;have h2:=hb (k+1);rw[h1] at h2 ⊢;rw[lT] at h2;generalize (l.take k).flatten=m at*;simp[aex,KM,hk,hw];omega
  ·simp[aex,KM]
theorem ahu {op:Int}{l:List Cell}(h:(dR op l).known=false):dR op l=cP:=by
 have hy:∀b,(eE b).known=true:=fun b=>by cases b<;>simp[eE]
 unfold dR at h ⊢;split<;>rename_i c1
 ·rw[if_pos c1] at h;split<;>rename_i c2
  ·rw[if_pos c2,hy] at h;cases h
  ·rfl
 rw[if_neg c1] at h;split<;>rename_i c2
 ·rw[if_pos c2,hy] at h;cases h
 rw[if_neg c2] at h;split<;>rename_i c3
 ·rw[if_pos c3] at h;split<;>rename_i c4
  ·rw[if_pos c4,c4.1] at h;cases h
  ·rfl
 rw[if_neg c3] at h;split<;>rename_i c4
 ·rfl
 rw[if_neg c4] at h
 repeat' split at h
 all_goals first|(rw[hy] at h;cases h)|cases h
theorem ae9:∀(L:Nat) (cs:List Cell) (t:Tm) (k:Int),t.OK→bo L t≤60→bt L t=(k,0)→aj T 180 [NB cs,cR t] (.tup [bX (aZ L cs t),ints (dY L cs t)])
 |0,cs,t,k,ht,hm,hc=>by simp[bo] at hm
 |L+1,cs,t,k,ht,hm,hc=>by
  refine .of_tree rfl (lA 41 (by kernel_rfl)) av0 ?_;obtain⟨hl,hp⟩:=Dz hm;obtain⟨ha,_⟩:=H3 hc;obtain⟨hn,alE⟩:=B2 hc;have eV:∀a,a∈t.args→aj T 180 [NB cs,cR a] (.tup [bX (aZ L cs a),ints (dY L cs a)]):=fun a cA=>ae9 L cs a (bt L a).1 (ht.arg cA) (hp a cA) (by rw[←ha a cA]);have nk:∀a,a∈t.args→pz (bt L a).1 (aZ L cs a):=fun a cA=>NG cs (show bt L a=((bt L a).1,0) by rw[←ha a cA]);have OG:∀a,a∈t.args→(dY L cs a).length≤60:=fun a cA=>by have:=aaX L cs a (hp a cA);have:=hp a cA;omega
  by_cases dc:t.op=0∨t.op=1
  ·
   have e1:aZ (L+1) cs t=⟨true,t.n⟩:=by rw[vn,if_pos dc]
   have e2:dY (L+1) cs t=[]:=by rw[Js,if_pos dc]
   rw[e1,e2];rcases dc with h|h<;>simp[FA,h]<;>exact⟨rfl,rfl⟩
  have o0:t.op≠0:=fun h=>dc (.inl h);have o1:t.op≠1:=fun h=>dc (.inr h);by_cases o2:t.op=2
  ·have hv:0≤t.n:=by
    cases hn with
    |var h0 ha hn=>exact hn.1
    |_=>omega
   have e1:aZ (L+1) cs t=jm cs t.n:=by rw[vn,if_neg dc,if_pos o2]
   have e2:dY (L+1) cs t=if(jm cs t.n).known=true then[] else[t.n]:=by rw[Js,if_neg dc,if_pos o2]
   rw[e1,e2];simp[FA,o2];refine⟨_,as1 cs t.n hv,?_⟩;cases e:(jm cs t.n).known
   ·have:jm cs t.n=cP:=by
     unfold jm at e ⊢;split
     ·rfl
     ·rename_i h;rw[if_neg h] at e;split at e
      ·cases hb:decide ((cellAt cs t.n).n≠0)<;>rw[hb] at e<;>cases e
      ·cases e
    rw[this];simp[ints]
   ·have h:jm cs t.n=⟨true,(jm cs t.n).n⟩:=by rw[←e]
    rw[h];simp[ints]
    try rfl
  have hlen:1≤t.args.length∧(t.op≠3→2≤t.args.length)∧(t.op=6→3≤t.args.length):=by
   cases hn with
   |int h0 ha hn=>omega
   |bool h0 ha hn=>omega
   |var h0 ha hn=>omega
   |not h0 hk=>obtain⟨a,hl,_⟩:=aaB hk;rw[hl];simp;omega
   |log h0 hk=>obtain⟨a,b,hl,_⟩:=tS hk;rw[hl];simp;omega
   |ite k h0 hk=>obtain⟨a,b,c,hl,_⟩:=Jm hk;rw[hl];simp
   |less h0 hk=>obtain⟨a,b,hl,_⟩:=tS hk;rw[hl];simp;omega
   |equal k h0 hk=>obtain⟨a,b,hl,_⟩:=tS hk;rw[hl];simp;omega
   |num h0 hk=>obtain⟨a,b,hl,_⟩:=tS hk;rw[hl];simp;omega
  have hb9:9≤t.op→(-1099511627776≤(bl (t.args.map (aZ L cs)) 0).n∧(bl (t.args.map (aZ L cs)) 0).n≤1099511627776)∧(-1099511627776≤(bl (t.args.map (aZ L cs)) 1).n∧(bl (t.args.map (aZ L cs)) 1).n≤1099511627776):=by
   intro h9;have rb:∀c:Cell,pz 0 c→-1099511627776≤c.n∧c.n≤1099511627776:=by
    intro c hr;cases e:c.known with
    |false=>rw[hr.1 e];simp
    |true=>exact(hr.2 e).2 rfl
   cases hn with
   |num h0 hk=>
    obtain⟨a,b,hl,ea,eb⟩:=tS hk;rw[hl] at nk ⊢;have r1:=nk a (by simp);have r2:=nk b (by simp);rw[ea] at r1;rw[eb] at r2;exact⟨rb _ r1,rb _ r2⟩
   |log h0 hk=>omega
   |_=>omega
  have h6:t.op=6→(bl (t.args.map (aZ L cs)) 0).known=true→(bl (t.args.map (aZ L cs)) 0).n=0∨(bl (t.args.map (aZ L cs)) 0).n=1:=by
   intro o6 CR;cases hn with
   |ite k h0 hk=>
    obtain⟨a,b,c,hl,ea,_⟩:=Jm hk;rw[hl] at nk CR ⊢;have r1:=nk a (by simp);rw[ea] at r1;exact(r1.2 CR).1 rfl
   |log h0 hk=>omega
   |num h0 hk=>omega
   |_=>omega
  have cZ:t.op<3∨8<t.op→9≤t.op:=by
   cases hn with
   |log h0 hk=>omega
   |num h0 hk=>omega
   |_=>omega
  have e1:aZ (L+1) cs t=if t.op=6∧(bl (t.args.map (aZ L cs)) 0).known=true then bl (t.args.map (aZ L cs)) (2-(bl (t.args.map (aZ L cs)) 0).n).toNat else dR t.op (t.args.map (aZ L cs)):=by
   rw[vn,if_neg dc,if_neg o2]
  have e2:dY (L+1) cs t=if t.op=6∧(bl (t.args.map (aZ L cs)) 0).known=true then(t.args.map (dY L cs)).getD (2-(bl (t.args.map (aZ L cs)) 0).n).toNat [] else if(dR t.op (t.args.map (aZ L cs))).known=true then[] else(t.args.map (dY L cs)).flatten:=by
   rw[Js,if_neg dc,if_neg o2]
  rw[e1,e2];simp[FA,o0,o1,o2];refine⟨by omega,?_⟩;refine aH.forRounds t.args.length (fun k=>[.int k]) (fun k=>[cells ((t.args.map (aZ L cs)).take k++List.replicate (t.args.length-k) cP),lists ((t.args.map (dY L cs)).take k++List.replicate (t.args.length-k) [])]) ?_ (fun k hk=>?_) ?_
  ·simp[cells,lists,ints]
  ·have hw:=ba hk (by omega);have cI:=cq hk;have hr:=eV _ cI;have s1:=S8 (t.args.map (aZ L cs)) cP (n:=t.args.length) (by simp) hk;have s2:=S8 (t.args.map (dY L cs)) [] (n:=t.args.length) (by simp) hk;rw[←s1,←s2];have l1:((t.args.map (aZ L cs)).take k++List.replicate (t.args.length-k) cP).length=t.args.length:=by simp;omega
   have l2:((t.args.map (dY L cs)).take k++List.replicate (t.args.length-k) []).length=t.args.length:=by simp;omega
   have g1:(t.args.map (aZ L cs))[k]'(by simpa using hk)=aZ L cs t.args[k]:=by simp
   have g2:(t.args.map (dY L cs))[k]'(by simpa using hk)=dY L cs t.args[k]:=by simp
   rw[g1,g2];generalize (t.args.map (aZ L cs)).take k++List.replicate (t.args.length-k) cP=A at*;generalize (t.args.map (dY L cs)).take k++List.replicate (t.args.length-k) []=B at*;generalize aZ L cs t.args[k]=c at*;generalize dY L cs t.args[k]=d at*;simp[SO,Fb,hk];refine⟨_,hr,?_⟩;simp[hw,hk,l1,l2,cells,lists]
  ·have hA:(t.args.map (aZ L cs)).take t.args.length++List.replicate (t.args.length-t.args.length) cP=t.args.map (aZ L cs):=by rw[L5,List.replicate_zero,qG,Bn (by simp)]
   have hB:(t.args.map (dY L cs)).take t.args.length++List.replicate (t.args.length-t.args.length) []=t.args.map (dY L cs):=by rw[L5,List.replicate_zero,qG,Bn (by simp)]
   have lA:(t.args.map (aZ L cs)).length=t.args.length:=by simp
   have lB:(t.args.map (dY L cs)).length=t.args.length:=by simp
   have zC:∀l:List Tm,(∀a,a∈l→a∈t.args)→((l.map (dY L cs)).flatten.length≤l.length*60):=by
    intro l
    induction l with
    |nil=>intro _;simp
    |cons a l ih=>
     intro h;have h1:=OG a (h a (by simp));have h2:=ih (fun b hb=>h b (by simp[hb]));rw[iX,WB,lT,mU];omega
   have zC:=zC t.args (fun a h=>h);have hBg:∀m:Nat,(Option.map (dY L cs) t.args[m]?).getD []=(t.args.map (dY L cs)).getD m []:=fun m=>by simp[be]
   rw[hA,hB];generalize t.args.map (aZ L cs)=A at*;generalize t.args.map (dY L cs)=B at*;have g0:0<A.length:=by omega
   have vt:A[0]=bl A 0:=by simp[bl,g0]
   by_cases It:t.op=6∧(bl A 0).known=true
   ·obtain⟨o6,kn⟩:=It;have hv:=h6 o6 kn;have hw:IntKind.i64.wrap (2-(bl A 0).n)=2-(bl A 0).n:=aN (by omega);have h3:3≤t.args.length:=hlen.2.2 o6;rw[if_pos ⟨o6,kn⟩,if_pos ⟨o6,kn⟩];obtain⟨m,cA⟩:∃m:Nat,m=(2-(bl A 0).n).toNat:=⟨_,rfl⟩
    have CS:m<A.length:=by omega
    have Oz:m<B.length:=by omega
    simp[SO,Fb,o6,kn,g0,vt,hw,←cA,CS,Oz,cells,lists];refine⟨by omega,by omega,by simp[bl,CS],?_⟩;rw[hBg,be,bW Oz];rfl
   ·rw[if_neg It,if_neg It];have akZ:=asX t.op A (by omega) (by omega) (by omega) hb9 cZ;have ak0:=af0 B (by omega) (by omega);simp[SO,Fb,g0,vt];rw[if_neg It];refine⟨_,akZ,?_⟩;cases e:(dR t.op A).known
    ·have eT:dR t.op A=cP:=ahu e;rw[eT];simp;exact ak0
    ·have h:dR t.op A=⟨true,(dR t.op A).n⟩:=by rw[←e]
     rw[h];simp[ints]
     try rfl
end Rm
namespace Rm
open Go Go.Proofs Cx
def kD (n:Nat)(g:Nat→Bool):Int:=if(List.range n).findIdx g<n then((List.range n).findIdx g:Nat) else-1
theorem wg (n:Nat)(g:Nat→Bool):(kD n g=-1∧∀k,k<n→g k=false)∨∃k:Nat,k<n∧kD n g=k∧g k=true∧∀i,i<k→g i=false:=by
 unfold kD;split
 ·rename_i h;refine .inr ⟨_,h,rfl,?_,fun i hi=>?_⟩
  ·have:=List.findIdx_getElem (p:=g) (xs:=List.range n) (w:=by simpa using h);simpa using this
  ·have:=List.not_of_lt_findIdx (p:=g) (xs:=List.range n) hi;simpa using this
 ·rename_i h;refine .inl ⟨rfl,fun k hk=>?_⟩;have:=List.not_of_lt_findIdx (p:=g) (xs:=List.range n) (i:=k) (by omega);simpa using this
theorem Jd {n:Nat}{g:Nat→Bool}(h:∀k,k<n→g k=false):kD n g=-1:=by
 rcases wg n g with⟨h1,_⟩|⟨k,hk,_,h2,_⟩
 ·exact h1
 ·rw[h k hk] at h2;cases h2
theorem Je {n k:Nat}{g:Nat→Bool}(hk:k<n)(h:g k=true)(hj:∀i,i<k→g i=false):kD n g=k:=by
 rcases wg n g with⟨_,h1⟩|⟨m,hm,h1,h2,h3⟩
 ·rw[h1 k hk] at h;cases h
 ·rcases Nat.lt_trichotomy m k with h4|h4|h4
  ·rw[hj m h4] at h2;cases h2
  ·rw[h1,h4]
  ·rw[h3 k h4] at h;cases h
theorem Z9 (n:Nat)(g:Nat→Bool):decide (0≤kD n g)=(List.range n).any g:=by
 rcases wg n g with⟨h1,h2⟩|⟨m,hm,h1,h2,h3⟩
 ·rw[h1]
  symm
  simp;exact h2
 ·rw[h1];simp;exact⟨m,hm,h2⟩
theorem af8 (l:List Rule)(f:Nat)(caps:List D)(g:Nat→Bool)(hg:∀k (hk:k<l.length),aj T f (q8 l[k]::caps) (.bool (g k)))(hl:l.length≤4294967296):
 aj T 177 [rules l,.clo f caps] (.int (kD l.length g)):=by
 refine .of_tree rfl (lA 32 (by kernel_rfl)) avI ?_;simp[VB];refine .scan l.length (fun k=>g k=false) (fun k=>[.int 0,.int k]) (fun _=>[]) ?_ (fun k hk hj ho=>?_) (fun k hk hj ho=>?_) (fun hj=>?_)
 ·simp
 ·have hw:=ba hk hl;simp[SI,E6,hk,hw];refine⟨_,_,⟨rfl,rfl⟩,_,hg k hk,?_⟩;simp[ho,hw]
 ·have he:=Je hk (by simpa using ho) hj;simp[SI,E6,hk,he];refine⟨_,_,⟨rfl,rfl⟩,_,hg k hk,?_⟩;simp[ho]
 ·have he:=Jd hj;simp[SI,E6,he]
theorem af9 (l:List Int)(f:Nat)(caps:List D)(g:Nat→Bool)(hg:∀k (hk:k<l.length),aj T f (.int l[k]::caps) (.bool (g k)))(hl:l.length≤4294967296):
 aj T 217 [ints l,.clo f caps] (.int (kD l.length g)):=by
 refine .of_tree rfl (lA 27 (by kernel_rfl)) avJ ?_;simp[VC];refine .scan l.length (fun k=>g k=false) (fun k=>[.int 0,.int k]) (fun _=>[]) ?_ (fun k hk hj ho=>?_) (fun k hk hj ho=>?_) (fun hj=>?_)
 ·simp
 ·have hw:=ba hk hl;simp[SJ,E7,hk,hw,ints];refine⟨_,_,⟨rfl,rfl⟩,_,hg k hk,?_⟩;simp[ho,hw]
 ·have he:=Je hk (by simpa using ho) hj;simp[SJ,E7,hk,he,ints];refine⟨_,_,⟨rfl,rfl⟩,_,hg k hk,?_⟩;simp[ho]
 ·have he:=Jd hj;simp[SJ,E7,he,ints]
theorem af7 (l:List Alter)(f:Nat)(caps:List D)(g:Nat→Bool)(hg:∀k (hk:k<l.length),aj T f (og l[k]::caps) (.bool (g k)))(hl:l.length≤4294967296):
 aj T 216 [alters l,.clo f caps] (.int (kD l.length g)):=by
 refine .of_tree rfl (lA 15 (by kernel_rfl)) avH ?_;simp[VA];refine .scan l.length (fun k=>g k=false) (fun k=>[.int 0,.int k]) (fun _=>[]) ?_ (fun k hk hj ho=>?_) (fun k hk hj ho=>?_) (fun hj=>?_)
 ·simp
 ·have hw:=ba hk hl;simp[SH,E5,hk,hw];refine⟨_,_,⟨rfl,rfl⟩,_,hg k hk,?_⟩;simp[ho,hw]
 ·have he:=Je hk (by simpa using ho) hj;simp[SH,E5,hk,he];refine⟨_,_,⟨rfl,rfl⟩,_,hg k hk,?_⟩;simp[ho]
 ·have he:=Jd hj;simp[SH,E5,he]
theorem af2 (l:List Int)(f:Nat)(caps:List D)(g:Nat→Bool)(hg:∀k (hk:k<l.length),aj T f (.int l[k]::caps) (.bool (g k)))(hl:l.length≤4294967296):
 aj T 199 [ints l,.clo f caps] (.bool ((List.range l.length).any g)):=by
 refine .of_tree rfl (lA 26 (by kernel_rfl)) avE ?_;simp[Vx];refine⟨_,af9 l f caps g hg hl,?_⟩;have:=Z9 l.length g;simp[←this]
theorem af1 (l:List Alter)(f:Nat)(caps:List D)(g:Nat→Bool)(hg:∀k (hk:k<l.length),aj T f (og l[k]::caps) (.bool (g k)))(hl:l.length≤4294967296):
 aj T 195 [alters l,.clo f caps] (.bool ((List.range l.length).any g)):=by
 refine .of_tree rfl (lA 14 (by kernel_rfl)) avD ?_;simp[Vw];refine⟨_,af7 l f caps g hg hl,?_⟩;have:=Z9 l.length g;simp[←this]
def om (cs:List Cell)(t:Tm):Cell:=if(jb t).2=0 then aZ 8 cs t else cP
theorem Xi {t:Tm}(h:(jb t).2=0):bo 8 t≤60∧bt 8 t=((jb t).1,0):=by
 unfold jb at h ⊢;split at h
 ·cases h
 ·rename_i hm;rw[if_neg hm];exact⟨by omega,by rw[←h]⟩
theorem asV (t:Tm)(cs:List Cell)(ht:t.OK):aj T 156 [cR t,cells cs] (bX (om cs t)):=by
 refine .of_tree rfl (lA 40 (by kernel_rfl)) avT ?_;simp[VN,om];refine⟨_,ae7 t ht,?_⟩;by_cases h:(jb t).2=0
 ·obtain⟨h1,h2⟩:=Xi h;simp[h];refine⟨_,ae9 8 cs t _ ht h1 h2,?_⟩;simp
  try rfl
 ·simp[h]
  try rfl
def oO:List Int:=[6,7,10,12,13,14,15,16,20,21]
def eD (ask:Int):Int×Bool:=if ask<0∨22≤ask then(0,false) else if hasB oO ask then(0,true) else(1,true)
theorem QT (ask:Int):aj T 152 [.int ask] (.tup [.int (eD ask).1,.bool (eD ask).2]):=by
 refine .of_tree rfl (lA 20 (by kernel_rfl)) atJ ?_;simp[TX,eD];by_cases h0:ask<0
 ·simp[h0]
 by_cases h1:22≤ask
 ·simp[h0,h1]
 simp[h0,h1];refine⟨_,xy oO ask (by decide),?_⟩;cases h:hasB oO ask<;>simp[h]
def Ju:Tm:=⟨0,0,[]⟩
def kO (o:Order)(ask:Int)(k:Nat):Bool:=decide ((o.rules.getD k default).ask=ask)
def ur (o:Order)(i:Int):Tm:=(o.rules.getD i.toNat default).term
def findF (o:Order)(ask:Int):Tm×Int:=
 if(eD ask).2=false then(Ju,1) else if kD o.rules.length (kO o ask)<0 then(Ju,4) else
    if(jb (ur o (kD o.rules.length (kO o ask)))).2≠0∨(jb (ur o (kD o.rules.length (kO o ask)))).1≠(eD ask).1 then(Ju,11) else(ur o (kD o.rules.length (kO o ask)),0)
theorem KY {o:Order}(ho:o.OK){m:Nat}(hm:m<o.rules.length):o.rules[m].term.OK:=(ho.2.2 _ (cq hm)).2
theorem PH:Ju.OK:=by
 exact .mk 0 0 [] (by unfold bk;omega) (by unfold bk;omega) (by decide) (fun _ h=>by cases h)
theorem aiW {o:Order}(ho:o.OK)(ask:Int):(findF o ask).1.OK:=by
 unfold findF;split
 ·exact PH
 split
 ·exact PH
 split
 ·exact PH
 ·rename_i h _;rcases wg o.rules.length (kO o ask) with⟨h1,h2⟩|⟨m,hm,h1,h2,h3⟩
  ·exact absurd (by rw[h1];decide) h
  ·rw[h1];simp[ur,hm];exact KY ho hm
theorem aiU (r:Rule)(ask:Int):aj T 178 [q8 r,.ref (.int ask)] (.bool (decide (r.ask=ask))):=by
 refine .of_tree rfl (lA 31 (by kernel_rfl)) atK ?_;simp[TZ]
theorem aqk (o:Order)(ask:Int)(ho:o.OK)(hl:o.rules.length≤4294967296):aj T 155 [gq o,.int ask] (.tup [cR (findF o ask).1,.int (findF o ask).2]):=by
 refine .of_tree rfl (lA 30 (by kernel_rfl)) atL ?_;simp[TY,findF];refine⟨_,QT ask,?_⟩;cases h0:(eD ask).2
 ·simp[h0]
  try rfl
 simp[h0];refine⟨_,af8 o.rules 178 [.ref (.int ask)] (kO o ask) (fun k hk=>by simpa [kO,hk] using aiU o.rules[k] ask) hl,?_⟩;rcases wg o.rules.length (kO o ask) with⟨h1,h2⟩|⟨m,hm,h1,h2,h3⟩
 ·rw[h1];simp
  try rfl
 ·rw[h1];have vO:¬((m:Int)<0):=by omega
  have Db:o.rules[m].term.OK:=KY ho hm;simp[hm,ur,vO];refine⟨_,ae7 _ Db,?_⟩;by_cases h4:(jb o.rules[m].term).2=0<;>by_cases h5:(jb o.rules[m].term).1=(eD ask).1<;>simp[h4,h5]<;>try rfl
def lX (o:Order)(ask:Int)(cs:List Cell):Cell×Int:=
 if(findF o ask).2≠0 then(cP,(findF o ask).2) else
    (if(eD ask).1=0∧(om cs (findF o ask).1).known=true then⟨true,min (max (om cs (findF o ask).1).n 0) 20000⟩ else om cs (findF o ask).1,0)
theorem aqi (o:Order)(ask:Int)(cs:List Cell)(ho:o.OK)(hl:o.rules.length≤4294967296):aj T 112 [gq o,.int ask,cells cs] (.tup [bX (lX o ask cs).1,.int (lX o ask cs).2]):=by
 refine .of_tree rfl (lA 29 (by kernel_rfl)) atI ?_;simp[TW];refine⟨_,aqk o ask ho hl,?_⟩;have hf:(findF o ask).1.OK:=aiW ho ask;by_cases h:(findF o ask).2=0
 ·simp[h,lX];refine⟨_,asV _ cs hf,_,QT ask,?_⟩;generalize om cs (findF o ask).1=c;obtain⟨kn,n⟩:=c;by_cases h1:(eD ask).1=0
  ·cases kn
   ·simp[h1,bX]
   ·by_cases h2:n<0
    ·have:min (max n 0) 20000=0:=by omega
     simp[h1,bX,h2,this];rfl
    ·by_cases h3:20000<n
     ·have:min (max n 0) 20000=20000:=by omega
      simp[h1,bX,h2,h3,this];rfl
     ·have:min (max n 0) 20000=n:=by omega
      simp[h1,bX,h2,h3,this];rfl
  ·simp[h1,bX]
 ·simp[h,lX]
  try rfl
end Rm
namespace Rm
open Go Go.Proofs Cx
theorem aeC (b:Bool):aj T 197 [.bool b] (bX (eE b)):=by
 refine .of_tree rfl (lA 18 (by kernel_rfl)) avA ?_;cases b<;>simp[Vt,eE]<;>rfl
def vq (kind sign:Int)(x:Fact):Bool:=decide (x.kind=kind)&&decide (x.at_=sign)
def hH (f:File)(kind sign:Int):Cell:=match f.facts.find? (vq kind sign) with|none=>cP|some x=>eE (decide (x.n≠0))
theorem ot {α:Type}{p:α→Bool}:∀{l:List α} {k:Nat} (hk:k<l.length),p l[k]=true→(∀j (hj:j<k),p (l[j]'(by omega))=false)→l.find? p=some l[k]
 |a::l,0,hk,h,hj=>by simp at h;simp[h]
 |a::l,k+1,hk,h,hj=>by
  have h0:=hj 0 (by omega);simp at h0;simp only[FH,h0,List.getElem_cons_succ];exact ot (by simpa using hk) (by simpa using h) (fun j bm=>by simpa using hj (j+1) (by omega))
theorem pI {α:Type}{p:α→Bool}{l:List α}(h:∀j (hj:j<l.length),p l[j]=false):l.find? p=none:=by
 rw[sG];intro x hx;obtain⟨j,hj,rfl⟩:=jt hx;rw[h j hj];decide
theorem Fh (f:File)(kind sign:Int)(hl:f.facts.length≤4294967296):aj T 198 [cd f,.int kind,.int sign] (bX (hH f kind sign)):=by
 refine .of_tree rfl (lA 19 (by kernel_rfl)) avw ?_;simp[Vq];refine .scan f.facts.length (fun k=>vq kind sign (f.facts.getD k default)=false) (fun k=>[.int k]) (fun _=>[bX cP]) ?_ (fun k hk hj ho=>?_) (fun k hk hj ho=>?_) (fun hj=>?_)
 ·simp
 ·have hw:=ba hk hl;simp[hk,vq] at ho;by_cases h1:f.facts[k].kind=kind<;>by_cases h2:f.facts[k].at_=sign
  ·exact absurd h2 (ho h1)
  all_goals simp[SC,E2,hk,hw,h1,h2]
 ·have hw:=ba hk hl;have hf:hH f kind sign=eE (decide (f.facts[k].n≠0)):=by
   unfold hH;rw[ot hk (by simpa [hk] using ho) (fun j bm=>by have:=hj j bm;simpa [show j<f.facts.length by omega] using this)]
  simp[hk,vq] at ho;simp[SC,E2,hk,hw,ho,hf];refine⟨_,aeC _,?_⟩;simp
  try rfl
 ·have hf:hH f kind sign=cP:=by
   unfold hH;rw[pI (fun j bm=>by have:=hj j bm;simpa [bm] using this)]
  simp[SC,E2,hf]
  try rfl
def cC (r:Realm)(c:Int):Int:=if aF c r.cities.length=true then(r.cities.getD c.toNat default).order else-1
theorem oX (r:Realm)(c:Int):aj T 125 [aL r,.int c] (.int (cC r c)):=by
 refine .of_tree rfl (lA 16 (by kernel_rfl)) avk ?_;simp[Ve,cC];refine⟨_,fC c r.cities.length,?_⟩;cases h:aF c r.cities.length
 ·simp[h]
 ·simp[aF] at h;have h1:c.toNat<r.cities.length:=by omega
  simp[h,h1]
def qx (day:Int)(l:List Sign):List Sign:=l.takeWhile fun s=>decide (s.day≤day)
def A7 (day:Int)(l:List Act):List Act:=l.takeWhile fun s=>decide (s.day≤day)
def gY (n:Nat)(a:Alter):Bool:=decide (a.at_≤(n:Int))
def iw (n:Nat)(x:Fact):Bool:=aF x.at_ n
def bq (f:File)(day:Int):File:=
 ⟨f.bill,qx day f.signs,f.alters.filter (gY (qx day f.signs).length),A7 day f.acts,f.facts.filter (iw (qx day f.signs).length)⟩
theorem xp {α:Type}(p:α→Bool):∀(l:List α),∃m,m≤l.length∧l.takeWhile p=l.take m∧(∀k (hk:k<l.length),k<m→p l[k]=true)∧(∀hk:m<l.length,p l[m]=false)
 |[]=>⟨0,by simp,by simp,fun k hk=>by simp at hk,fun hk=>by simp at hk⟩
 |a::l=>by
  by_cases h:p a=true
  ·obtain⟨m,h1,h2,h3,h4⟩:=xp p l;refine⟨m+1,by simp;omega,by simp[h,h2],fun k hk hm=>?_,fun hk=>?_⟩
   ·cases k with
    |zero=>simpa using h
    |succ k=>simpa using h3 k (by simpa using hk) (by omega)
   ·simpa using h4 (by simpa using hk)
  ·refine⟨0,by simp,by simp[h],fun k hk hm=>by omega,fun hk=>by simpa using h⟩
theorem uz {α:Type}(p:α→Bool)(l:List α){k:Nat}(hk:k<l.length):(l.take (k+1)).filter p=(l.take k).filter p++if p l[k] then[l[k]] else[]:=by
 rw[gU hk,List.filter_append]
 congr 1
 cases h:p l[k]<;>simp[h]
def lb (b:Bill)(w x y z:D):D:=.agg [.int b.drawer,.int b.drawee,.int b.payee,.int b.sum,.int b.currency,.int b.tenor.kind,.int b.tenor.n,.int b.tenor.unit,.int b.day,.int b.city,.int b.pay,.int b.need,.int b.rate,.int b.flags,.int b.parts,w,x,y,z]
@[simp] theorem ayZ (b:Bill)(w x y z:D):D.agg (cV (lb b w x y z).cells 16 [D.none])=lb b w .none y z:=_root_.id rfl
@[simp] theorem ay0 (b:Bill)(w x y z:D):D.agg (cV (lb b w x y z).cells 18 [D.none])=lb b w x y .none:=_root_.id rfl
def kC {α:Type}(l:List α):D:=match l with|[]=>.list []|_=>.none
@[simp] theorem aBs {α:Type}:kC ([]:List α)=.list []:=rfl
@[simp] theorem Zt {α:Type}(l:List α)(x:α):kC (l++[x])=.none:=by cases l<;>rfl
theorem SU (f:File)(day:Int)(h1:f.signs.length≤4294967295)(h2:f.acts.length≤4294967295)(h3:f.alters.length≤4294967295)(h4:f.facts.length≤4294967295):aj T 33 [cd f,.int day] (cd (bq f day)):=by
 refine .of_tree rfl (lA 6 (by kernel_rfl)) avv ?_;simp[Vp];obtain⟨m,hm,hS,zp,pJ⟩:=xp (fun s:Sign=>decide (s.day≤day)) f.signs;obtain⟨n,hn,hA,NR,NS⟩:=xp (fun s:Act=>decide (s.day≤day)) f.acts;refine aH.forRounds m (fun k=>[.int k]) (fun k=>[signs (f.signs.take k),lb f.bill (kC (f.signs.take k)) (.list []) (.list []) (.list [])]) ?_ (fun k hk=>?_) ?_
 ·simp[lb,signs]
  try rfl
 ·have br:k<f.signs.length:=by omega
  have hw:=ba br (by omega);have hd:=zp k br hk;simp at hd;have eJ:¬day<f.signs[k].day:=by omega
  have hle:(k:Int)+1≤4294967296:=by omega
  have ht:=gU br;rw[ht];have hlen:(f.signs.take k).length=k:=by simp;omega
  generalize f.signs.take k=A at*;simp[Sy,EY,br,hw,eJ,hlen];exact⟨hle,by simp[signs],rfl⟩
 have hSl:(f.signs.take m).length≤4294967295:=by rw[dZ];omega
 have NT:bq f day=⟨f.bill,f.signs.take m,f.alters.filter (gY (f.signs.take m).length),f.acts.take n,f.facts.filter (iw (f.signs.take m).length)⟩:=by
  unfold bq qx A7;rw[hS,hA]
 rw[NT];generalize f.signs.take m=S at*;have hAl:(f.acts.take n).length≤4294967295:=by rw[dZ];omega
 by_cases cA:m<f.signs.length
 case' pos=>
  have hd:=pJ cA;simp at hd;simp[Sy,EY,cA,hd];generalize D.bool true=bb
 case' neg=>
  have vM:m=f.signs.length:=by omega
  simp[Sy,EY,cA,vM];generalize D.bool false=bb
 all_goals
  refine aH.forRounds n (fun k=>[.int k]) (fun k=>[acts (f.acts.take k),lb f.bill (kC S) (.list []) (kC (f.acts.take k)) (.list [])]) ?_ (fun k hk=>?_) ?_
  ·simp[acts]
  ·have br:k<f.acts.length:=by omega
   have hw:=ba br (by omega);have hd:=NR k br hk;simp at hd;have eJ:¬day<f.acts[k].day:=by omega
   have hle:(k:Int)+1≤4294967296:=by omega
   have ht:=gU br;rw[ht];have hlen:(f.acts.take k).length=k:=by simp;omega
   generalize f.acts.take k=A at*;simp[Sz,EZ,br,hw,eJ,hlen];exact⟨hle,by simp[acts],rfl⟩
  generalize f.acts.take n=A at*;by_cases iz:n<f.acts.length
  case' pos=>
   have hd:=NS iz;simp at hd;simp[Sz,EZ,iz,hd];generalize D.bool true=bc
  case' neg=>
   have IW:n=f.acts.length:=by omega
   simp[Sz,EZ,iz,IW];generalize D.bool false=bc
  all_goals
   refine aH.forRounds f.alters.length (fun k=>[.int k]) (fun k=>[lb f.bill (kC S) (kC ((f.alters.take k).filter (gY S.length))) (kC A) (.list []),alters ((f.alters.take k).filter (gY S.length))]) ?_ (fun k hk=>?_) ?_
   ·simp[alters]
   ·have hw:=ba hk (by omega);have ht:=uz (gY S.length) f.alters hk;rw[ht];have hlen:((f.alters.take k).filter (gY S.length)).length≤k:=jv (qJ _ _) (by simp;omega);generalize (f.alters.take k).filter (gY S.length)=B at*;by_cases hd:f.alters[k].at_≤(S.length:Int)
    ·simp[SA,E0,gY,hk,hw,hd];exact⟨by omega,rfl,by simp[alters]⟩
    ·simp[SA,E0,gY,hk,hw,hd]
   simp[SA,E0];generalize f.alters.filter (gY S.length)=B at*;refine aH.forRounds f.facts.length (fun k=>[.int k]) (fun k=>[lb f.bill (kC S) (kC B) (kC A) (kC ((f.facts.take k).filter (iw S.length))),facts ((f.facts.take k).filter (iw S.length))]) ?_ (fun k hk=>?_) ?_
   ·simp[facts]
   ·have hw:=ba hk (by omega);have ht:=uz (iw S.length) f.facts hk;rw[ht];have hlen:((f.facts.take k).filter (iw S.length)).length≤k:=jv (qJ _ _) (by simp;omega);generalize (f.facts.take k).filter (iw S.length)=C at*;cases hd:aF f.facts[k].at_ S.length
    ·simp[SB,E1,iw,hk,hw,hd];refine⟨_,oY _ _,?_⟩;simp[hd,hw]
    ·simp[SB,E1,iw,hk,hw,hd];refine⟨_,oY _ _,?_⟩;simp[hd,hw];exact⟨by omega,rfl,by simp[facts]⟩
   simp[SB,E1];rfl
end Rm
namespace Rm
open Go Go.Proofs Cx
def ns:List Int→Int
 |[]=>-1
 |x::l=>l.foldl min x
theorem agm (x:Int)(l:List Int)(hl:l.length<4294967296):aj T 80 [ints (x::l)] (.int (ns (x::l))):=by
 refine .of_tree rfl (lA 53 (by kernel_rfl)) avM ?_;have h0:¬((l.length:Int)+1<1):=by omega
 simp[VF,h0,ns,ints];refine aH.forRounds l.length (fun k=>[.int ((l.take k).foldl min x),.int ((k:Int)+1)]) (fun k=>[]) ?_ (fun k hk=>?_) ?_
 ·simp
 ·have hw:IntKind.i64.wrap ((k:Int)+1+1)=(k:Int)+1+1:=aN (by omega);rw[gU hk,uR];generalize (l.take k).foldl min x=y;have ht:((k:Int)+1).toNat=k+1:=by omega
  have aq:(k:Int)+1<(l.length:Int)+1:=by omega
  simp[aey,KN,hk,hw,ht,aq];refine⟨by omega,?_⟩;by_cases h:l[k]<y
  ·simp[h];omega
  ·simp[h];omega
 ·simp[aey,KN]
def iS (f:File)(n:Nat):List Int:=if f.bill.tenor.kind=1 then((f.signs.take n).filter (fun s=>decide (s.kind=1))).map (·.day) else[]
def gS (f:File)(n:Nat):List Int:=if f.bill.tenor.kind=1 then((f.acts.take n).filter (fun s=>decide (s.kind=1))).map (·.day) else[]
def ss (f:File)(a:Act):Bool:=decide (f.bill.tenor.kind=0)&&decide (a.kind=2)
def lK (f:File):Int:=match f.acts.find? (ss f) with|some a=>a.day|none=>ns (iS f f.signs.length++gS f f.acts.length)
theorem arV (f:File)(h1:f.signs.length≤100000)(h2:f.acts.length≤100000):aj T 37 [cd f] (.int (lK f)):=by
 refine .of_tree rfl (lA 52 (by kernel_rfl)) avx ?_;simp[Vr];refine aH.forRounds f.signs.length (fun k=>[.none,.int k]) (fun k=>[ints (iS f k)]) ?_ (fun k hk=>?_) ?_
 ·simp[iS,ints]
 ·have hw:=ba hk (by omega);have hs:iS f (k+1)=iS f k++if f.bill.tenor.kind=1∧f.signs[k].kind=1 then[f.signs[k].day] else[]:=by
   unfold iS;by_cases h:f.bill.tenor.kind=1
   ·simp only[if_pos h,uz _ _ hk,px,h,true_and]
    congr 1
    by_cases h':f.signs[k].kind=1<;>simp[h']
   ·simp[h]
  have hlen:(iS f k).length≤k:=by
   unfold iS;split
   ·rw[mV];exact jv (qJ _ _) (by simp;omega)
   ·simp
  rw[hs];generalize iS f k=A at*;by_cases hc:f.bill.tenor.kind=1∧f.signs[k].kind=1
  ·simp[SD,E3,hk,hw,hc];exact⟨by omega,by simp[ints]⟩
  ·simp[SD,E3,hk,hw,hc]
 ·have hlS:(iS f f.signs.length).length≤100000:=by
   unfold iS;split
   ·rw[mV];exact jv (qJ _ _) (by simp;omega)
   ·simp
  have hE:lK f=match f.acts.find? (ss f) with|some a=>a.day|none=>ns (iS f f.signs.length++gS f f.acts.length):=rfl
  generalize iS f f.signs.length=A at*;simp[SD,E3];refine aH.scan f.acts.length (fun k=>ss f (f.acts.getD k default)=false) (fun k=>[.int 0,.none,.int k]) (fun k=>[ints (A++gS f k)]) ?_ (fun k hk hj ho=>?_) (fun k hk hj ho=>?_) (fun hj=>?_)
  ·simp[gS,ints]
  ·have hw:=ba hk (by omega);have hs:gS f (k+1)=gS f k++if f.bill.tenor.kind=1∧f.acts[k].kind=1 then[f.acts[k].day] else[]:=by
        unfold gS;by_cases h:f.bill.tenor.kind=1
        ·simp only[if_pos h,uz _ _ hk,px,h,true_and]
         congr 1
         by_cases h':f.acts[k].kind=1<;>simp[h']
        ·simp[h]
   have hlen:(gS f k).length≤k:=by
        unfold gS;split
        ·rw[mV];exact jv (qJ _ _) (by simp;omega)
        ·simp
   rw[hs];generalize gS f k=B at*;simp[ss,hk] at ho;by_cases hc:f.bill.tenor.kind=1∧f.acts[k].kind=1
   ·simp[E4,xe,hk,hw,hc];exact⟨by omega,by simp[ints]⟩
   ·have hn:¬(f.bill.tenor.kind=0∧f.acts[k].kind=2):=fun h=>ho h.1 h.2;simp[E4,xe,hk,hw,hc,hn]
  ·have hf:lK f=f.acts[k].day:=by
        rw[hE,ot hk (by simpa [hk] using ho) (fun j bm=>by have:=hj j bm;simpa [show j<f.acts.length by omega] using this)]
   simp[ss,hk] at ho;simp[E4,xe,hk,ho,hf]
  ·have hf:lK f=ns (A++gS f f.acts.length):=by
        rw[hE,pI (fun j bm=>by have:=hj j bm;simpa [bm] using this)]
   have hlA:(gS f f.acts.length).length≤100000:=by
        unfold gS;split
        ·rw[mV];exact jv (qJ _ _) (by simp;omega)
        ·simp
   rw[hf];have hL:(A++gS f f.acts.length).length≤200000:=by rw[lT];omega
   generalize A++gS f f.acts.length=L at*;cases L with
   |nil=>simp[E4,xe,ns,ints]
   |cons x l=>
    have aC:¬((l.length:Int)+1=0):=by omega
    simp[E4,xe,aC];exact agm x l (by simp at hL;omega)
end Rm
namespace Rm
open Go Go.Proofs Cx
def gD (g:Nat→Cell):D:=.list ((List.range 20).map fun i=>bX (g i))
theorem Xg {g g':Nat→Cell}(h:∀i,i<20→g i=g' i):gD g=gD g':=by
 unfold gD
 congr 1
 exact xE fun i hi=>by rw[h i (by simpa using hi)]
theorem Xh (g:Nat→Cell)(k:Nat)(c:Cell):D.list ((gD g).l.set k (bX c))=gD (fun i=>if i=k then c else g i):=by
 unfold gD
 congr 1
 show((List.range 20).map fun i=>bX (g i)).set k (bX c)=_;apply LW
 ·simp
 ·intro i h1 h2;simp at h2;rw[List.getElem_set];by_cases h:k=i
  ·simp[h]
  ·have h':¬i=k:=fun e=>h e.symm;simp[h,h']
@[simp] theorem azw (g:Nat→Cell):(gD g).l.length=20:=by
  show((List.range 20).map fun i=>bX (g i)).length=20;simp
theorem Ge (g:Nat→Cell){k:Nat}(hk:k<20):(gD g).l[k]?.getD D.none=bX (g k):=by
 show((List.range 20).map fun i=>bX (g i))[k]?.getD D.none=bX (g k);simp[hk]
theorem aha (g:Nat→Cell){k:Nat}(hk:k<(gD g).l.length):(gD g).l[k]=bX (g k):=by
 have h:=Ge g (k:=k) (by simpa using hk);rw[bW hk] at h;exact h
theorem ahc (g:Nat→Cell)(k:Nat)(c:Cell):(gD g).l.set k (bX c)=(gD (fun i=>if i=k then c else g i)).l:=congrArg D.l (Xh g k c)
theorem ahb (g:Nat→Cell):D.list (gD g).l=gD g:=rfl
@[simp] theorem aC3 (x:Cell)(b:Bool)(n:Int):sv (bX x) 0 (D.agg [D.bool b,D.int n])=bX ⟨b,n⟩:=_root_.id rfl
def zh {α:Type}(l:List (Int×α))(val:α→Cell)(g0:Nat→Cell)(i:Nat):Cell:=match l.find? (fun p=>decide (p.1=(i:Int))) with|some p=>val p.2|none=>g0 i
def p9 {α:Type}(enc:α→D)(p:Int×α):D:=.tup [.int p.1,enc p.2]
theorem aaC {α:Type}{J o:Nat}{ps cY:List Nat}{a:PC}{ρ:Env}{Q:Out→Prop}(l:List (Int×α))(enc:α→D)(val:α→Cell)(g0:Nat→Cell)
 (nd:∀p q,p∈l→q∈l→p.1=q.1→p=q) (SW:∀p,p∈l→0≤p.1) (he:ρ.o J=.tup [.list [],.map (l.map fun p=>(.int p.1,enc p.2))]) (h0:ρ.o o=gD g0)
 (step:∀p,p∈l→∀g done,aE T (oZ [o] a) ((ρ.put ps (cY.map (p9 enc p).tget) [o] [gD g]).setO J (.tup [.list (done++[p9 enc p]),.map (l.map fun p=>(.int p.1,enc p.2))])) (fun y=>∃ρ',y=.next ρ'∧ρ'.o o=.list ((gD g).l.set p.1.toNat (bX (val p.2)))))
 (last:Q (.next (ρ.put [] [] [o] [gD (zh l val g0)]))):aH T (.meach J ps cY [o] a) ρ Q:=by
 have mm:gR (.map (l.map fun p=>((D.int p.1,enc p.2):D×D)))=l.map (p9 enc):=by
  simp[gR,p9]
 refine .meachR _ he (fun done vo=>∃g:Nat→Cell,vo=[gD g]∧(∀p,p∈l→p9 enc p∈done→g p.1.toNat=val p.2)∧∀i:Nat,(∀p,p∈l→p9 enc p∈done→p.1≠i)→g i=g0 i) ⟨g0,by simp[h0],(fun p _ h=>by cases h),fun i _=>rfl⟩ (fun done x rest vo hp ⟨g,hv,oB,ia⟩=>?_) ⟨_,fun done hp vo ⟨g,hv,oB,ia⟩=>?_,last⟩
 ·subst hv;rw[mm] at hp;have hx:x∈l.map (p9 enc):=hp.subset (by simp);obtain⟨p,eu,rfl⟩:=eR.mp hx;refine xJ _ (fun y ⟨ρ',e,ho⟩=>⟨ρ',e,fun i=>if i=p.1.toNat then val p.2 else g i,by simp[ho,Xh],fun q hq OQ=>?_,fun i hi=>?_⟩) (step p eu g done)
  ·have OR:=SW q hq;have oI:=SW p eu;by_cases h:q.1=p.1
   ·rw[nd q p hq eu h];simp
   ·show(if q.1.toNat=p.1.toNat then val p.2 else g q.1.toNat)=val q.2;rw[if_neg (by omega)];rcases dp.mp OQ with h1|h1
    ·exact oB q hq h1
    ·simp[p9] at h1;exact absurd h1.1 h
  ·have oI:=SW p eu;have fo:=hi p eu (by simp);show(if i=p.1.toNat then val p.2 else g i)=g0 i;rw[if_neg (by omega)];exact ia i fun q hq OQ=>hi q hq (by simp[OQ])
 ·rw[hv,mm] at*
  congr 1
  refine Xg fun i hi=>?_;unfold zh;cases hf:l.find? (fun p=>decide (p.1=(i:Int))) with
  |some p=>
   have eu:=xG hf;have I1:p.1=(i:Int):=by simpa using LX hf
   have:=oB p eu (hp.symm.subset (List.mem_map_of_mem eu));simp only;rw[←this,I1];rfl
  |none=>
   refine ia i fun p eu _=>?_;have:=sG.mp hf p eu;simpa using this
@[simp] theorem aBP (a b:Int):dg (D.int a) (D.int b)=decide (a=b):=by
  show((a==b)&&true)=decide (a=b);rw[Bool.and_true];by_cases h:a=b<;>simp[h]
def sY (n k:Int):Bool:=decide (cW .and .i64 n k≠0)
def tP (s:Sign)(due:Int):Int:=if due=-1 then 0 else s.day-due
def Mj (f:File)(sign:Int):Bool:=(List.range f.alters.length).any fun k=>decide ((f.alters.getD k default).at_≤sign)
def kB (c:Case):Int:=if c.holder<0 then 0 else c.holder
def qn (c:Case)(s:Sign):List (Int×Int):=[(0,c.file.bill.sum),(1,c.file.bill.parts),(2,c.file.bill.tenor.kind),(3,c.file.bill.rate),(4,s.kind),(5,c.defence),(6,tP s c.due)]
def qo (r:Realm)(c:Case)(s:Sign):List (Int×Bool):=[(7,sY c.file.bill.flags 1),(8,decide (c.file.bill.payee=-1)),(9,sY c.file.bill.flags 4),(10,sY c.file.bill.flags 2),(11,decide (cC r c.file.bill.city≠cC r c.file.bill.pay)),(12,Mj c.file c.sign),(13,sY s.flags 1),(14,decide (0<tP s c.due))]
def zk (r:Realm)(c:Case)(s:Sign):List Cell:=
 (qn c s).map (fun p=>⟨true,p.2⟩)++(qo r c s).map (fun p=>eE p.2)++
    [hH c.file 0 c.sign,hH c.file 1 c.sign,hH c.file 2 c.sign,hH c.file 3 (kB c),hH c.file 4 (kB c)]
@[simp] theorem ay3 (x:Case):gX 19 (ei x)=cd x.file:=_root_.id rfl
@[simp] theorem ay1 (x:Case):gX 15 (ei x)=dr x.file.bill:=_root_.id rfl
@[simp] theorem ay2 (x:File):gX 15 (cd x)=dr x.bill:=_root_.id rfl
def lZ (c:Case):Bool:=aF c.sign c.file.signs.length&&decide (-1≤c.holder)&&decide (kB c<c.file.signs.length)&&(decide (c.due=-1)||aF c.due 100001)
def dH (r:Realm)(c:Case):List Cell:=if lZ c=true∧aF (c.file.signs.getD c.sign.toNat default).day 100001=true then zk r c (c.file.signs.getD c.sign.toNat default) else[]
theorem arW (r:Realm)(c:Case)(h2:c.file.facts.length≤100000)(h3:c.file.alters.length≤100000):aj T 174 [aL r,ei c] (cells (dH r c)):=by
 refine .of_tree rfl (lA 12 (by kernel_rfl)) avz ?_;cases hs:aF c.sign c.file.signs.length
 ·have hv:dH r c=[]:=by unfold dH lZ;rw[hs];simp
  rw[hv];simp[uH];refine⟨_,oY _ _,?_⟩;simp[hs];rfl
 by_cases hh:c.holder< -1
 ·have hv:dH r c=[]:=by unfold dH lZ;rw[hs];simp;intros;omega
  rw[hv];simp[uH,hh];exact⟨⟨_,oY _ _⟩,rfl⟩
 by_cases hm:(c.file.signs.length:Int)≤kB c
 ·have hv:dH r c=[]:=by unfold dH lZ;rw[hs];simp;intros;omega
  rw[hv];unfold kB at hm;simp[uH,hm];exact⟨⟨_,oY _ _⟩,rfl⟩
 by_cases hd:c.due≠-1∧aF c.due 100001=false
 ·have hv:dH r c=[]:=by unfold dH lZ;rw[hs];simp[hd]
  rw[hv];unfold kB at hm;obtain⟨bB,dC⟩:=hd;simp[uH,hh,hm,bB];refine⟨_,oY _ _,?_⟩;simp[hs,hh,hm,bB];refine⟨_,oY _ _,?_⟩;simp[hs,hh,hm,bB,dC];rfl
 have hcb:lZ c=true:=by
  unfold lZ;rw[hs];simp;refine⟨⟨by omega,by omega⟩,?_⟩;by_cases h:c.due=-1
  ·exact .inl h
  ·right;cases hb:aF c.due 100001
   ·exact absurd ⟨h,hb⟩ hd
   ·rfl
 have hlen:c.sign.toNat<c.file.signs.length:=by simp[aF] at hs;omega
 have fg:0≤c.sign∧c.sign<(c.file.signs.length:Int):=by simpa [aF] using hs
 obtain⟨s,cX⟩:∃s:Sign,s=c.file.signs[c.sign.toNat]:=⟨_,rfl⟩
 have gK:c.file.signs.getD c.sign.toNat default=s:=by rw[cX];simp[hlen]
 have hv:dH r c=if aF s.day 100001=true then zk r c s else[]:=by
  unfold dH;rw[gK,hcb];simp
 rw[hv];unfold kB at hm;by_cases th:c.due=-1
 case' pos=>
  have YH:(c.due=-1)=True:=eq_true th;simp[uH,hh,hm,YH];refine⟨_,oY _ _,?_⟩;simp[hs,hh,hm,YH,hlen,←cX,fg]
 case' neg=>
  have CE:aF c.due 100001=true:=by
   cases hb:aF c.due 100001
   ·exact absurd ⟨th,hb⟩ hd
   ·rfl
  simp[uH,hh,hm,th];refine⟨_,oY _ _,?_⟩;simp[hs,hh,hm,th];refine⟨_,oY _ _,?_⟩;simp[hs,hh,hm,th,CE,hlen,←cX,fg]
 all_goals
  refine⟨_,oY _ _,?_⟩;cases ID:aF s.day 100001
  ·simp[ID];rfl
  simp[ID,dG];refine aaC (qn c s) D.int (fun n=>⟨true,n⟩) (fun _=>cP) ?_ ?_ ?_ ?_ (fun p hp g done=>?_) ?_
  ·intro p q hp hq h;simp[qn] at hp hq;rcases hp with rfl|rfl|rfl|rfl|rfl|rfl|rfl<;>rcases hq with rfl|rfl|rfl|rfl|rfl|rfl|rfl<;>first|rfl|(simp at h)
  ·intro p hp;simp[qn] at hp;rcases hp with rfl|rfl|rfl|rfl|rfl|rfl|rfl<;>simp
  ·have zE:(if c.due=-1 then(0:Int) else IntKind.i64.wrap (s.day-c.due))=tP s c.due:=by
        unfold tP;by_cases h:c.due=-1
        ·simp[h]
        ·have CE:aF c.due 100001=true:=by
          cases hb:aF c.due 100001
          ·exact absurd ⟨h,hb⟩ hd
          ·rfl
         simp[aF] at CE ID;rw[if_neg h,if_neg h];exact aN (by omega)
   simp[qn,dG,hlen,←cX];rw[←zE];by_cases h:c.due=-1<;>simp[h]
  ·simp[gD];rfl
  ·have hr:0≤p.1∧p.1<20:=by
        simp[qn] at hp;rcases hp with rfl|rfl|rfl|rfl|rfl|rfl|rfl<;>simp
   have hk:p.1.toNat<20:=by omega
   simp[arL,SF,p9,Ge g hk];exact hr
  have alR:∀k (hk:k<c.file.alters.length),aj T 196 (og c.file.alters[k]::[.ref (ei c)]) (.bool (decide ((c.file.alters.getD k default).at_≤c.sign))):=fun k hk=>by
   refine .of_tree rfl (lA 13 (by kernel_rfl)) avy ?_;simp[Vs,hk]
  simp;refine⟨_,af1 c.file.alters _ _ _ alR (by omega),_,oX r _,_,oX r _,?_⟩;have zE:(if c.due=-1 then(0:Int) else IntKind.i64.wrap (s.day-c.due))=tP s c.due:=by
   unfold tP;by_cases h:c.due=-1
   ·simp[h]
   ·have CE:aF c.due 100001=true:=by
     cases hb:aF c.due 100001
     ·exact absurd ⟨h,hb⟩ hd
     ·rfl
    simp[aF] at CE ID;rw[if_neg h,if_neg h];exact aN (by omega)
  have Ol:cells (zk r c s)=gD (fun i=>if i=15 then hH c.file 0 c.sign else if i=16 then hH c.file 1 c.sign else if i=17 then hH c.file 2 c.sign else if i=18 then hH c.file 3 (kB c) else if i=19 then hH c.file 4 (kB c) else zh (qo r c s) eE (zh (qn c s) (fun n=>⟨true,n⟩) (fun _=>cP)) i):=by
   rfl
  generalize zh (qn c s) (fun n=>(⟨true,n⟩:Cell)) (fun _=>cP)=g1 at*;refine aaC (qo r c s) D.bool eE g1 ?_ ?_ ?_ ?_ (fun p hp g done=>?_) ?_
  ·intro p q hp hq h;simp[qo] at hp hq;rcases hp with rfl|rfl|rfl|rfl|rfl|rfl|rfl|rfl<;>rcases hq with rfl|rfl|rfl|rfl|rfl|rfl|rfl|rfl<;>first|rfl|(simp at h)
  ·intro p hp;simp[qo] at hp;rcases hp with rfl|rfl|rfl|rfl|rfl|rfl|rfl|rfl<;>simp
  ·simp[qo,dG,hlen,←cX,sY];rw[←zE];by_cases h:c.due=-1<;>simp[h,Mj]
  ·simp
  ·have hr:0≤p.1∧p.1<20:=by
        simp[qo] at hp;rcases hp with rfl|rfl|rfl|rfl|rfl|rfl|rfl|rfl<;>simp
   have hk:p.1.toNat<20:=by omega
   simp[arM,SG,p9,Ge g hk];refine⟨_,aeC _,?_⟩;simp[Ge g hk];exact hr
  simp;generalize zh (qo r c s) eE g1=g2 at*;have vG:(if c.holder<0 then D.int 0 else D.int c.holder)=D.int (kB c):=by
   unfold kB;split<;>rfl
  rw[vG];refine⟨_,Fh _ _ _ (by omega),_,Fh _ _ _ (by omega),_,Fh _ _ _ (by omega),_,Fh _ _ _ (by omega),_,Fh _ _ _ (by omega),?_⟩;rw[Ol];simp only[aha,asI,ahc,ahb];refine Xg fun i hi=>?_;by_cases Il:i=15
  ·subst Il;simp
  by_cases Io:i=16
  ·subst Io;simp
  by_cases Ip:i=17
  ·subst Ip;simp
  by_cases Iq:i=18
  ·subst Iq;simp
  by_cases Yf:i=19
  ·subst Yf;simp
  simp[Il,Io,Ip,Iq,Yf]
end Rm
namespace Rm
open Go Go.Proofs Cx
def DJ (n:Nat)(x:Int):Bool:=decide (x<0)||decide ((n:Int)≤x)
def ix (r:Realm)(a q:Int)(l:List Int):Bool:=
 !(decide (a<0)||decide ((r.orders.length:Int)≤a)||decide (q<0)||decide (22≤q)||decide (l.length≠5))&& !((List.range l.length).any fun k=>DJ r.orders.length (l.getD k 0))
theorem aiX (x n:Int):aj T 200 [.int x,.ref (.int n)] (.bool (decide (x<0)||decide (n≤x))):=by
 refine .of_tree rfl (lA 25 (by kernel_rfl)) atA ?_;by_cases h:x<0<;>simp[TP,h]
theorem XZ (r:Realm)(a q:Int)(l:List Int)(hl:l.length≤100000):aj T 175 [aL r,.int a,.int q,ints l] (.bool (ix r a q l)):=by
 refine .of_tree rfl (lA 24 (by kernel_rfl)) atB ?_;by_cases h1:a<0
 ·simp[uE,ix,h1]
 by_cases h2:(r.orders.length:Int)≤a
 ·simp[uE,ix,h1,h2]
 by_cases h3:q<0
 ·simp[uE,ix,h1,h2,h3]
 by_cases h4:22≤q
 ·simp[uE,ix,h1,h2,h3,h4]
 by_cases h5:(l.length:Int)=5
 ·have Is:l.length=5:=by omega
  simp[uE,h1,h2,h3,h4,Is];refine⟨_,af2 l 200 [.ref (.int r.orders.length)] (fun k=>DJ r.orders.length (l.getD k 0)) (fun k hk=>by simpa [DJ,hk] using aiX l[k] r.orders.length) (by omega),?_⟩;simp only[ix,Is];simp[h1,h2,h3,h4]
 ·have Is:¬l.length=5:=by omega
  simp[uE,ix,h1,h2,h3,h4,Is];intro h;omega
theorem zi {r:Realm}{a q:Int}{l:List Int}(h:ix r a q l=true):(0≤a∧a<r.orders.length)∧l.length=5∧(∀x,x∈l→0≤x∧x<r.orders.length)∧∀b:Int,0≤b→b<r.orders.length→ix r b q l=true:=by
 unfold ix at h ⊢;rw[ay] at h;obtain⟨h1,h2⟩:=h;simp at h1;refine⟨by omega,h1.2,fun x hx=>?_,fun b jd dT=>?_⟩
 ·obtain⟨k,hk,rfl⟩:=jt hx;simp[DJ] at h2;have:=h2 k hk;simp[hk] at this;omega
 ·rw[h2];simp;omega
def uP (r:Realm):Prop:=∀o,o∈r.orders→o.choices.length≤100000∧∀ch,ch∈o.choices→0≤ch.by_∧ch.by_<5
def kF (q:Int)(ch:Choice):Bool:=decide (ch.ask=q)&&decide (ch.by_≠0)
def gw (r:Realm)(a:Int):Order:=r.orders.getD a.toNat default
def eM (r:Realm)(a q:Int)(l:List Int):Int×Bool:=
 (match(gw r a).choices.find? (kF q) with|some ch=>l.getD ch.by_.toNat 0|none=>a,match(gw r a).choices.find? (kF q) with|some ch=>ch.whole|none=>false)
theorem LS (r:Realm)(jZ:uP r)(a q:Int)(l:List Int)(hl:l.length≤100000)(hf:ix r a q l=true):
 aj T 176 [aL r,.int a,.int q,ints l] (.tup [.int (eM r a q l).1,.bool (eM r a q l).2])∧0≤(eM r a q l).1∧(eM r a q l).1<r.orders.length:=by
 obtain⟨ha,tq,hx,_⟩:=zi hf;have me:a.toNat<r.orders.length:=by omega
 obtain⟨bD,j1⟩:=jZ _ (cq me);obtain⟨o,ho⟩:∃o,o=r.orders[a.toNat]:=⟨_,rfl⟩
 rw[←ho] at bD j1;have vP:gw r a=o:=by rw[ho];simp[gw,me]
 unfold eM;rw[vP];refine⟨?_,?_⟩
 ·refine .of_tree rfl (lA 28 (by kernel_rfl)) atz ?_;simp[TO];refine⟨_,XZ r a q l hl,?_⟩;simp[hf,me,←ho,ha];refine aH.scan o.choices.length (fun k=>kF q (o.choices.getD k default)=false) (fun k=>[.int 0,.bool false,.int k]) (fun _=>[]) ?_ (fun k hk hj az=>?_) (fun k hk hj az=>?_) (fun hj=>?_)
  ·simp
  ·have hw:=ba hk (by omega);have hn:¬(o.choices[k].ask=q∧¬o.choices[k].by_=0):=by simpa [kF,hk] using az
   simp[RP,Ef,me,←ho,hk,hw,hn]
  ·have dK:=ot hk (by simpa [hk] using az) (fun j bm=>by have:=hj j bm;simpa [show j<o.choices.length by omega] using this);rw[dK];have hc:o.choices[k].ask=q∧¬o.choices[k].by_=0:=by simpa [kF,hk] using az
   have hb:=j1 _ (cq hk);have zx:o.choices[k].by_.toNat<l.length:=by omega
   simp[RP,Ef,me,←ho,hk,hc,ints,zx];omega
  ·have dK:=pI (l:=o.choices) (p:=kF q) (fun j bm=>by have:=hj j bm;simpa [bm] using this);rw[dK];simp[RP,Ef,me,←ho]
 ·cases dK:o.choices.find? (kF q) with
  |none=>exact ha
  |some ch=>
   have hb:=j1 _ (xG dK);have zx:ch.by_.toNat<l.length:=by omega
   simp[zx];exact hx _ (cq zx)
theorem J0:∀(N:Nat) (l:List Int),l.Nodup→(∀x,x∈l→0≤x∧x<(N:Int))→l.length≤N
 |0,l,hn,h=>by
  cases l with
  |nil=>simp
  |cons a l=>have:=h a (by simp);omega
 |N+1,l,hn,h=>by
  by_cases hm:(N:Int)∈l
  ·have h1:=J0 N (l.erase (N:Int)) (hn.erase _) (fun x hx=>by
    have db:=(hn.mem_erase_iff).mp hx;have:=h x db.2;have aC:=db.1;omega)
   rw[List.length_erase_of_mem hm] at h1;omega
  ·have h1:=J0 N l hn (fun x hx=>by
    have:=h x hx;have aC:x≠(N:Int):=fun e=>hm (e▸hx);omega)
   omega
def cg (l:List Int):Int:=l.getD (l.length-1) 0
def gO (r:Realm)(q:Int)(l:List Int):Nat→List Int→List Int×Int
 |0,p=>(p,0)
 |n+1,p=>
  if(eM r (cg p) q l).1=cg p then(p,0)
  else if(eM r (cg p) q l).2=false∨(hasB p (eM r (cg p) q l).1=true∧(gw r (eM r (cg p) q l).1).accepts=true) then(p++[(eM r (cg p) q l).1],0)
  else if hasB p (eM r (cg p) q l).1=true then(p++[(eM r (cg p) q l).1],12)
  else gO r q l n (p++[(eM r (cg p) q l).1])
theorem Ds (r:Realm)(q:Int)(l:List Int)(n:Nat)(p:List Int):gO r q l (n+1) p=
 if(eM r (cg p) q l).1=cg p then(p,0)
 else if(eM r (cg p) q l).2=false∨(hasB p (eM r (cg p) q l).1=true∧(gw r (eM r (cg p) q l).1).accepts=true) then(p++[(eM r (cg p) q l).1],0)
 else if hasB p (eM r (cg p) q l).1=true then(p++[(eM r (cg p) q l).1],12)
 else gO r q l n (p++[(eM r (cg p) q l).1]):=rfl
def cN (r:Realm)(a q:Int)(l:List Int):List Int×Int:=if ix r a q l=true∧l.getD 0 0=a then gO r q l r.orders.length [a] else([],1)
theorem age (r:Realm)(jZ:uP r)(hn:r.orders.length≤100000)(a q:Int)(l:List Int)(hl:l.length≤100000):aj T 154 [aL r,.int a,.int q,ints l] (.tup [ints (cN r a q l).1,.int (cN r a q l).2]):=by
 refine .of_tree rfl (lA 23 (by kernel_rfl)) aty ?_;simp[TN];refine⟨_,XZ r a q l hl,?_⟩;cases hf:ix r a q l
 ·simp[cN,hf];rfl
 obtain⟨ha,tq,hx,lq⟩:=zi hf;have h0:0<l.length:=by omega
 by_cases oC:l[0]=a
 ·have hE:cN r a q l=gO r q l r.orders.length [a]:=by unfold cN;rw[if_pos ⟨hf,by simp[h0,oC]⟩]
  rw[hE];simp[h0,oC,ints];refine aH.forLoop (α:=Nat×List Int) (fun s vr vo=>vr=[.list [],.int 0,.none]∧vo=[ints s.2]∧s.2.Nodup∧(∀x,x∈s.2→0≤x∧x<(r.orders.length:Int))∧s.2≠[]∧s.1+s.2.length=r.orders.length+1∧gO r q l s.1 s.2=gO r q l r.orders.length [a]) (fun s=>s.1) (r.orders.length,[a]) ?_ ?_
  ·simp[ints];exact ha
  ·rintro⟨n,p⟩ vr vo ⟨rfl,rfl,bS,cf,aC,hlen,rv⟩;simp only at*;have eu:p.length≤r.orders.length:=J0 _ p bS cf;have zR:0<p.length:=xD.mpr aC;obtain⟨m,rfl⟩:∃m,n=m+1:=⟨n-1,by omega⟩
   have aq:p.length-1<p.length:=by omega
   have ib:cg p=p[p.length-1]:=by simp[cg,aq]
   have mh:=cf _ (cq aq);rw[←ib] at mh;obtain⟨vz,eW,eX⟩:=LS r jZ (cg p) q l hl (lq _ mh.1 mh.2);have vK:((p.length:Int)-1).toNat=p.length-1:=by omega
   have vY:IntKind.i64.wrap ((p.length:Int)-1)=(p.length:Int)-1:=aN (by omega);rw[←rv,Ds];obtain⟨L,hL⟩:∃L,L=eM r (cg p) q l:=⟨_,rfl⟩
   rw[←hL] at vz eW eX ⊢;obtain⟨to,whole⟩:=L;simp only at vz eW eX;have pW:to.toNat<r.orders.length:=by omega
   have vP:gw r to=r.orders[to.toNat]:=by simp[gw,pW]
   simp only[vP];simp[arH,RO,vY,vK,aq,←ib,ints];refine⟨by omega,_,vz,?_⟩;by_cases h1:to=cg p
   ·simp[h1]
   simp[h1];refine⟨_,xy p to (by omega),by omega,?_⟩;cases whole
   ·simp
   cases h2:hasB p to
   ·have dM:to∉p:=fun hm=>by
     have:hasB p to=true:=by simp[hasB,hm]
     rw[h2] at this;cases this
    simp[h2];refine⟨m,by omega,p++[to],by simp,?_,?_,by simp,by simp;omega,rfl⟩
    ·exact Bm.mpr ⟨bS,by simp,fun x hx y hy=>by simp at hy;subst hy;exact fun e=>dM (e▸hx)⟩
    ·intro x hx;rcases dp.mp hx with h|h
     ·exact cf x h
     ·simp at h;subst h;exact⟨eW,eX⟩
   ·cases h3:r.orders[to.toNat].accepts<;>simp[h2,h3,pW]<;>omega
 ·have hE:cN r a q l=([],1):=by unfold cN;rw[if_neg (by simp[h0,oC])]
  rw[hE];simp[h0,oC];rfl
end Rm
namespace Rm
open Go Go.Proofs Cx
def kQ (f:File)(i:Int):Sign:=f.signs.getD i.toNat default
def ez (r:Realm)(forum:Int)(c:Case):List Int:=[forum,cC r (kQ c.file c.sign).city,cC r c.file.bill.pay,cC r c.file.bill.city,cC r (r.firms.getD (kQ c.file c.sign).who.toNat default).city]
def jx (r:Realm)(forum:Int)(c:Case):Prop:=(kQ c.file c.sign).who<0∨(r.firms.length:Int)≤(kQ c.file c.sign).who∨forum<0∨(r.orders.length:Int)≤forum
instance (r:Realm) (forum:Int) (c:Case):Decidable (jx r forum c):=by unfold jx;infer_instance
def fw (r:Realm)(forum:Int)(c:Case):List Int:=if jx r forum c then[] else if hasB (ez r forum c) (-1)=true then[] else ez r forum c
@[simp] theorem azo (r:Realm)(x:Int):xK (aL r) x=cC r x:=by
  unfold xK cC aF;by_cases h:0≤x∧x<(r.cities.length:Int)
  ·have hx:x.toNat<r.cities.length:=by omega
   rw[if_pos (by simpa using h),if_pos (by simpa using h)];simp[hx]
  ·rw[if_neg (by simpa using h),if_neg (by simpa using h)]
theorem ada (r:Realm)(forum:Int)(c:Case)(h1:c.sign.toNat<c.file.signs.length):QX [aL r,.int forum,ei c]=ints (fw r forum c):=by
 have hs:kQ c.file c.sign=c.file.signs[c.sign.toNat]:=by simp[kQ,h1]
 unfold QX fw;simp[h1];by_cases hb:jx r forum c
 ·rw[if_pos (by simpa [jx,hs] using hb),if_pos hb];rfl
 ·rw[if_neg (by simpa [jx,hs] using hb),if_neg hb];have am9:(kQ c.file c.sign).who.toNat<r.firms.length:=by unfold jx at hb;omega
  have ZV:c.file.signs[c.sign.toNat].who.toNat<r.firms.length:=by rw[←hs];exact am9
  have jD:ez r forum c=[forum,cC r c.file.signs[c.sign.toNat].city,cC r c.file.bill.pay,cC r c.file.bill.city,cC r r.firms[c.file.signs[c.sign.toNat].who.toNat].city]:=by
   simp[ez,hs,ZV]
  have cI:∀l:List Int,hasB l (-1)=true↔-1∈l:=fun l=>by simp[hasB]
  rw[jD];simp[ZV];split
  ·rename_i h;rw[if_pos ((cI _).mpr (by simpa using h))];rfl
  ·rename_i h;rw[if_neg (fun h'=>h (by simpa using(cI _).mp h'))]
theorem aqy (r:Realm)(forum:Int)(c:Case)(h1:0≤c.sign∧c.sign<c.file.signs.length):aj T 153 [aL r,.int forum,ei c] (ints (fw r forum c)):=by
 have cr:c.sign.toNat<c.file.signs.length:=by omega
 rw[←ada r forum c cr];have hs:kQ c.file c.sign=c.file.signs[c.sign.toNat]:=by simp[kQ,cr]
 refine aj.of_nsl rfl atg ath ?_;rw[ada r forum c cr];by_cases hb:jx r forum c
 ·refine .inr ⟨by simp[fw,hb];rfl,?_⟩;have dS:=hb;simp[jx,hs] at dS;simp[Ll,h1,cr]
  intros;omega
 have pK:fw r forum c=if hasB (ez r forum c) (-1)=true then[] else ez r forum c:=by unfold fw;rw[if_neg hb]
 have dS:=hb;simp[jx,hs] at dS;have hw:c.file.signs[c.sign.toNat].who.toNat<r.firms.length:=by omega
 have hC:=xy (ez r forum c) (-1) (by simp[ez]);cases hh:hasB (ez r forum c) (-1)<;>rw[hh] at hC<;>simp[ez,ints,hs,hw] at hC
 ·refine .inl ⟨(ez r forum c).map .int,by simp[ez],by rw[pK,hh];rfl,?_⟩;simp[Tv,h1,cr,hw];rw[if_neg (by omega)];refine⟨_,oX r _,_,oX r _,_,oX r _,by omega,_,oX r _,_,by simpa using hC,?_⟩;simp[ez,hs,hw]
 ·refine .inr ⟨by rw[pK,hh];rfl,?_⟩;simp[Ll,h1,cr,hw]
  intros
  refine⟨_,oX r _,_,oX r _,_,oX r _,by omega,_,oX r _,_,by simpa using hC,?_⟩;simp
end Rm
namespace Rm
open Go Go.Proofs Cx
structure Right (r:Realm):Prop where
 by_:uP r
 len:r.orders.length≤100000
 ok:∀o,o∈r.orders→o.OK∧o.rules.length≤100000
structure FewS (f:File):Prop where
 signs:f.signs.length≤1000
 alters:f.alters.length≤1000
 acts:f.acts.length≤1000
 facts:f.facts.length≤1000
theorem afi {α:Type}(p:α→Bool)(l:List α):(l.takeWhile p).length≤l.length:=by
 obtain⟨m,h1,h2,_⟩:=xp p l;rw[h2,dZ];omega
theorem FewS.at_ {f:File}(h:FewS f)(day:Int):FewS (bq f day):=
 ⟨jv (afi _ _) h.1,jv (qJ _ _) h.2,jv (afi _ _) h.3,jv (qJ _ _) h.4⟩
def bM (c:Case):Case:={c with file:=bq c.file c.day}
@[simp] theorem azf (x:File)(a0 a1 a2 a3 a4 a5 a6 a7 a8 a9 gV iY gW iZ ja jU jV jW km:D)(s h d u y:Int):gX 24 (D.agg (cV [a0,a1,a2,a3,a4,a5,a6,a7,a8,a9,gV,iY,gW,iZ,ja,jU,jV,jW,km,.int s,.int h,.int d,.int u,.int y] 0 [.int x.bill.drawer,.int x.bill.drawee,.int x.bill.payee,.int x.bill.sum,.int x.bill.currency,.int x.bill.tenor.kind,.int x.bill.tenor.n,.int x.bill.tenor.unit,.int x.bill.day,.int x.bill.city,.int x.bill.pay,.int x.bill.need,.int x.bill.rate,.int x.bill.flags,.int x.bill.parts,signs x.signs,alters x.alters,acts x.acts,facts x.facts]))=ei ⟨x,s,h,d,u,y⟩:=_root_.id rfl
theorem agH (r:Realm)(c:Case)(hf:FewS c.file):aj T 151 [aL r,ei c] (.tup [ei (bM c),cells (dH r (bM c))]):=by
 refine .of_tree rfl (lA 11 (by kernel_rfl)) atf ?_;simp[Tu];have h1:=hf.1;have h2:=hf.2;have h3:=hf.3;have h4:=hf.4;refine⟨_,SU c.file c.day (by omega) (by omega) (by omega) (by omega),?_⟩;have YM:=hf.at_ c.day;have h5:=YM.4;have h6:=YM.2;simp;exact⟨arW r (bM c) (by show(bq c.file c.day).facts.length≤_;omega) (by show(bq c.file c.day).alters.length≤_;omega),(congrArg (gX 24) (aqn (bM c) _ _ _ _ _ _ _ _ _ _ _ _ _ _ _ _ _ _ _ _ _ _ _ _)).trans (agy (bM c))⟩
theorem Wk {r:Realm}{c:Case}(h:dH r c≠[]):0≤c.sign∧c.sign<c.file.signs.length:=by
 unfold dH at h;split at h
 ·rename_i hh;have h1:=hh.1;unfold lZ at h1;simp[aF] at h1;omega
 ·exact absurd rfl h
theorem aaj (r:Realm)(jZ:uP r)(q:Int)(l:List Int)(hl:l.length≤100000)(lq:∀b:Int,0≤b→b<r.orders.length→ix r b q l=true):∀(n:Nat) (p:List Int),p≠[]→(∀x,x∈p→0≤x∧x<(r.orders.length:Int))→
 (gO r q l n p).1≠[]∧∀x,x∈(gO r q l n p).1→0≤x∧x<(r.orders.length:Int)
 |0,p,aC,hp=>⟨aC,hp⟩
 |n+1,p,aC,hp=>by
  have aq:p.length-1<p.length:=by have:=xD.mpr aC;omega
  have ib:cg p=p[p.length-1]:=by simp[cg,aq]
  have mh:=hp _ (cq aq);rw[←ib] at mh;obtain⟨_,ht⟩:=LS r jZ (cg p) q l hl (lq _ mh.1 mh.2)
  have aU:∀x,x∈p++[(eM r (cg p) q l).1]→0≤x∧x<(r.orders.length:Int):=fun x hx=>by
   rcases dp.mp hx with h|h
   ·exact hp x h
   ·simp at h;subst h;exact ht
  rw[Ds];split
  ·exact⟨aC,hp⟩
  split
  ·exact⟨by simp,aU⟩
  split
  ·exact⟨by simp,aU⟩
  ·exact aaj r jZ q l hl lq n _ (by simp) aU
theorem Ji {r:Realm}(hr:Right r){a q:Int}{l:List Int}(hl:l.length≤100000)(h:(cN r a q l).2=0):(cN r a q l).1≠[]∧0≤cg (cN r a q l).1∧cg (cN r a q l).1<r.orders.length:=by
 unfold cN at h ⊢;split at h
 ·rename_i hh;rw[if_pos hh];obtain⟨ha,tq,hx,lq⟩:=zi hh.1;obtain⟨h1,h2⟩:=aaj r hr.by_ q l hl lq r.orders.length [a] (by simp) (fun x hx=>by simp at hx;subst hx;exact ha);refine⟨h1,?_⟩;have aq:(gO r q l r.orders.length [a]).1.length-1<(gO r q l r.orders.length [a]).1.length:=by have:=xD.mpr h1;omega
  have ib:cg (gO r q l r.orders.length [a]).1=(gO r q l r.orders.length [a]).1[(gO r q l r.orders.length [a]).1.length-1]:=by simp[cg,aq]
  rw[ib];exact h2 _ (cq aq)
 ·cases h
theorem aak (r:Realm)(q:Int)(l:List Int):∀(n:Nat) (p:List Int),(gO r q l n p).1.length≤p.length+n
 |0,p=>by simp[gO]
 |n+1,p=>by
  rw[Ds];split
  ·simp
  split
  ·simp
  split
  ·simp
  ·have:=aak r q l n (p++[(eM r (cg p) q l).1]);simp at this;omega
theorem aai (r:Realm)(a q:Int)(l:List Int):(cN r a q l).1.length≤1+r.orders.length:=by
 unfold cN;split
 ·exact aak r q l _ [a]
 ·simp
@[simp] theorem aCZ (a b c d e x:D):cV [a,b,c,d,e] 2 [x]=[a,b,x,d,e]:=_root_.id rfl
@[simp] theorem aC0 (a b c d e x:D):cV [a,b,c,d,e] 3 [x]=[a,b,c,x,e]:=_root_.id rfl
@[simp] theorem aC1 (a b c d e x:D):cV [a,b,c,d,e] 4 [x]=[a,b,c,d,x]:=_root_.id rfl
def DB:Said:=⟨cP,-1,[],1⟩
def eh (r:Realm)(forum q:Int)(c:Case):Said×List Cell:=
 if dH r (bM c)=[] then(DB,[]) else if(eD q).2=false then(DB,[]) else if fw r forum (bM c)=[] then(DB,[]) else
    (⟨cP,if(cN r forum q (fw r forum (bM c))).2=0 then cg (cN r forum q (fw r forum (bM c))).1 else-1,(cN r forum q (fw r forum (bM c))).1,(cN r forum q (fw r forum (bM c))).2⟩,dH r (bM c))
theorem adb (r:Realm)(forum:Int)(c:Case):(fw r forum c).length≤5:=by
 unfold fw;split
 ·simp
 split<;>simp[ez]
theorem agG (r:Realm)(hr:Right r)(forum q:Int)(c:Case)(hf:FewS c.file):aj T 111 [aL r,.int forum,.int q,ei c] (.tup [jz (eh r forum q c).1,cells (eh r forum q c).2]):=by
 refine .of_tree rfl (lA 10 (by kernel_rfl)) ate ?_;simp[Tt];refine⟨_,agH r c hf,?_⟩;by_cases hv:dH r (bM c)=[]
 ·simp[hv,eh];exact⟨rfl,rfl⟩
 simp[hv,eh];refine⟨_,QT q,?_⟩;cases hq:(eD q).2
 ·simp[hq];exact⟨rfl,rfl⟩
 simp[hq];refine⟨_,aqy r forum (bM c) (Wk hv),?_⟩;by_cases hp:fw r forum (bM c)=[]
 ·simp[hp];exact⟨rfl,rfl⟩
 have eu:=adb r forum (bM c);have aC:ints (fw r forum (bM c))≠.list []:=fun e=>hp (by simpa [ints] using e);simp[hp];generalize fw r forum (bM c)=l at*;refine⟨_,age r hr.by_ hr.len forum q l (by omega),?_⟩;have hlen:=aai r forum q l;have rv:=Ji hr (a:=forum) (q:=q) (l:=l) (by omega);have hol:=hr.len;generalize cN r forum q l=L at*;obtain⟨path,err⟩:=L;simp only at*;by_cases he:err=0
 ·obtain⟨h1,h2⟩:=rv he;have zR:=xD.mpr h1;have vY:IntKind.i64.wrap ((path.length:Int)-1)=(path.length:Int)-1:=aN (by omega);have vK:((path.length:Int)-1).toNat=path.length-1:=by omega
  have aq:path.length-1<path.length:=by omega
  have ib:cg path=path[path.length-1]:=by simp[cg,aq]
  simp[he,vY,vK,aq,←ib];exact⟨by omega,rfl⟩
 ·simp[he];rfl
def jX (r:Realm)(forum q:Int)(c:Case):Said:=
 if(eh r forum q c).1.order=-1 then(eh r forum q c).1
 else⟨(lX (gw r (eh r forum q c).1.order) q (eh r forum q c).2).1,(eh r forum q c).1.order,(eh r forum q c).1.path,(lX (gw r (eh r forum q c).1.order) q (eh r forum q c).2).2⟩
theorem agE {r:Realm}(hr:Right r)(forum q:Int)(c:Case):(eh r forum q c).1.order=-1∨(0≤(eh r forum q c).1.order∧(eh r forum q c).1.order<r.orders.length):=by
 unfold eh;split
 ·exact .inl rfl
 split
 ·exact .inl rfl
 split
 ·exact .inl rfl
 ·have eu:=adb r forum (bM c);have rv:=Ji hr (a:=forum) (q:=q) (l:=fw r forum (bM c)) (by omega);show(if _ then _ else _)=_∨_;split
  ·rename_i h;exact .inr (rv h).2
  ·exact .inl rfl
theorem WU (r:Realm)(hr:Right r)(forum q:Int)(c:Case)(hf:FewS c.file):aj T 73 [aL r,.int forum,.int q,ei c] (jz (jX r forum q c)):=by
 refine .of_tree rfl (lA 9 (by kernel_rfl)) as9 ?_;simp[To];refine⟨_,agG r hr forum q c hf,?_⟩;have ho:=agE hr forum q c;unfold jX;generalize eh r forum q c=S at*;obtain⟨s,cs⟩:=S;simp only at*;by_cases h:s.order=-1
 ·obtain⟨⟨kn,n⟩,o,pth,e⟩:=s;simp only at h;subst h;simp;rfl
 ·have h1:0≤s.order∧s.order<r.orders.length:=by omega
  have h2:s.order.toNat<r.orders.length:=by omega
  have h3:gw r s.order=r.orders[s.order.toNat]:=by simp[gw,h2]
  obtain⟨az,hlen⟩:=hr.ok _ (cq h2);simp[h,h1,h2,h3];refine⟨_,aqi _ q cs az (by omega),?_⟩;simp;rfl
def eG (r:Realm)(forum q:Int)(f:File)(day:Int):Said:=jX r forum q ⟨{f with facts:=[]},0,-1,-1,-1,day⟩
theorem WV (r:Realm)(hr:Right r)(forum q:Int)(f:File)(day:Int)(hf:FewS f):aj T 35 [aL r,.int forum,.int q,cd f,.int day] (jz (eG r forum q f day)):=by
 refine .of_tree rfl (lA 8 (by kernel_rfl)) ata ?_;simp[Tp];refine⟨jz (eG r forum q f day),WU r hr forum q ⟨{f with facts:=[]},0,-1,-1,-1,day⟩ ⟨hf.1,hf.2,hf.3,by simp⟩,?_⟩;simp
 try rfl
def kS (s:Said):Int:=if s.err≠0 then 0 else if s.cell.known=false then 2 else if s.cell.n≠0 then 1 else 0
theorem WW (s:Said):aj T 22 [jz s] (.int (kS s)):=by
 refine .of_tree rfl (lA 49 (by kernel_rfl)) atd ?_;unfold kS;by_cases h1:s.err=0<;>cases h2:s.cell.known<;>by_cases h3:s.cell.n=0<;>simp[Ts,h1,h2,h3]
def iO (s:Said):Int:=if s.err≠0∨s.cell.known=false then-1 else s.cell.n
theorem agF (s:Said):aj T 34 [jz s] (.int (iO s)):=by
 refine .of_tree rfl (lA 51 (by kernel_rfl)) atc ?_;unfold iO;by_cases h1:s.err=0<;>cases h2:s.cell.known<;>simp[Tr,h1,h2]
end Rm
namespace Rm
open Go Go.Proofs Cx
def ir (day:Int)(l:List Act)(es:List (D×D)):List (D×D):=l.foldl (fun es a=>if a.kind=7∧a.day≤day then dG (.int a.at_) (.bool true) es else es) es
theorem asK (day:Int)(l:List Act){k:Nat}(hk:k<l.length):ir day (l.take (k+1)) []=if l[k].kind=7∧l[k].day≤day then dG (.int l[k].at_) (.bool true) (ir day (l.take k) []) else ir day (l.take k) []:=by
 unfold ir;rw[gU hk,uR];rfl
theorem adg (k v:D):∀es:List (D×D),(dG k v es).length≤es.length+1
 |[]=>by simp[dG]
 |e::es=>by
  unfold dG;split
  ·simp
  ·have:=adg k v es;simp;omega
theorem ae5 (day:Int):∀(l:List Act) (es:List (D×D)),(ir day l es).length≤es.length+l.length
 |[],es=>by simp[ir]
 |a::l,es=>by
  have h:=ae5 day l (if a.kind=7∧a.day≤day then dG (.int a.at_) (.bool true) es else es);have hp:=adg (.int a.at_) (.bool true) es;show(ir day l (if a.kind=7∧a.day≤day then dG (.int a.at_) (.bool true) es else es)).length≤_;split at h
  ·rename_i hc;rw[if_pos hc];simp;omega
  ·rename_i hc;rw[if_neg hc];simp;omega
theorem as6 (f:File)(day:Int)(hl:f.acts.length≤100000):aj T 109 [cd f,.int day] (.map (ir day f.acts [])):=by
 refine .of_tree rfl (lA 90 (by kernel_rfl)) av6 ?_;simp[VZ];refine aH.forRounds f.acts.length (fun k=>[.int k]) (fun k=>[.map (ir day (f.acts.take k) [])]) ?_ (fun k hk=>?_) ?_
 ·simp[ir]
 ·have hw:=ba hk (by omega);have hs:=asK day f.acts hk;have hlen:=ae5 day (f.acts.take k) [];rw[hs];simp at hlen;generalize ir day (f.acts.take k) []=es at*;by_cases hc:f.acts[k].kind=7∧f.acts[k].day≤day
  ·simp[SQ,Fe,hk,hw,hc];omega
  ·simp[SQ,Fe,hk,hw,hc]
 ·simp[SQ,Fe]
theorem adh {k v:D}:∀{es:List (D×D)} {e:D×D},e∈dG k v es→e.2=v∨e∈es
 |[],e,h=>by simp[dG] at h;exact .inl (by rw[h])
 |x::es,e,h=>by
  unfold dG at h;split at h
  ·rcases di.mp h with rfl|h
   ·exact .inl rfl
   ·exact .inr (by simp[h])
  ·rcases di.mp h with rfl|h
   ·exact .inr (by simp)
   ·rcases adh h with h|h
    ·exact .inl h
    ·exact .inr (by simp[h])
theorem ae6 (day:Int):∀(l:List Act) (es:List (D×D)),(∀e,e∈es→e.2=.bool true)→∀e,e∈ir day l es→e.2=.bool true
 |[],es,h,e,he=>h e he
 |a::l,es,h,e,he=>by
  refine ae6 day l (if a.kind=7∧a.day≤day then dG (.int a.at_) (.bool true) es else es) (fun x hx=>?_) e he;split at hx
  ·rcases adh hx with h'|h'
   ·exact h'
   ·exact h x h'
  ·exact h x hx
theorem aaq {k d:D}:∀{es:List (D×D)},dO k es=some d→∃e,e∈es∧e.2=d
 |x::es,h=>by
  unfold dO at h;split at h
  ·exact⟨x,by simp,by simpa using h⟩
  ·obtain⟨e,h1,h2⟩:=aaq h;exact⟨e,by simp[h1],h2⟩
theorem asJ (day:Int)(l:List Act)(k:D):(dO k (ir day l [])).getD (.bool false)=.bool ((dO k (ir day l [])).getD (.bool false)).b:=by
 cases h:dO k (ir day l []) with
 |none=>rfl
 |some d=>
  obtain⟨e,h1,h2⟩:=aaq h;have:=ae6 day l [] (fun e h=>by cases h) e h1;rw[h2] at this;rw[this];rfl
def pj (f:File)(sign day:Int):Bool:=aF sign f.signs.length&&((dO (.int sign) (ir day f.acts [])).getD (.bool false)).b
theorem as5 (f:File)(sign day:Int)(hl:f.acts.length≤100000):aj T 63 [cd f,.int sign,.int day] (.bool (pj f sign day)):=by
 refine .of_tree rfl (lA 89 (by kernel_rfl)) av5 ?_;by_cases h1:0≤sign<;>by_cases h2:sign<f.signs.length<;>simp[VY,h1,h2,pj,aF];refine⟨_,as6 f day hl,?_⟩;exact asJ day f.acts (.int sign)
def kR (f:File)(sign:Int)(n:Nat):Int:=(f.alters.take n).foldl (fun s a=>if a.at_≤sign then a.sum else s) f.bill.sum
theorem aqs (f:File)(sign:Int)(hl:f.alters.length≤100000):aj T 110 [cd f,.int sign] (.int (kR f sign f.alters.length)):=by
 refine .of_tree rfl (lA 94 (by kernel_rfl)) atM ?_;simp[T2];refine aH.forRounds f.alters.length (fun k=>[.int (kR f sign k),.int k]) (fun k=>[]) ?_ (fun k hk=>?_) ?_
 ·simp[kR]
 ·have hw:=ba hk (by omega);have hs:kR f sign (k+1)=if f.alters[k].at_≤sign then f.alters[k].sum else kR f sign k:=by
   unfold kR;rw[gU hk,uR];rfl
  rw[hs];generalize kR f sign k=s at*;by_cases hc:f.alters[k].at_≤sign<;>simp[aej,Kr,hk,hw,hc]
 ·simp[aej,Kr]
end Rm
namespace Rm
open Go Go.Proofs Cx
theorem Dp (r:Realm)(c:Int):aj T 75 [aL r,.int c] (.bool (aF c r.cities.length)):=by
 refine .of_tree rfl (lA 71 (by kernel_rfl)) avO ?_;by_cases h1:0≤c<;>by_cases h2:c<r.cities.length<;>simp[VI,h1,h2,aF]
def bx (n:Int):Bool:=decide (0≤n)&&decide (n≤100000)
theorem tN (n:Int):aj T 76 [.int n] (.bool (bx n)):=by
 refine .of_tree rfl (lA 72 (by kernel_rfl)) avP ?_;by_cases h1:0≤n<;>by_cases h2:n≤100000<;>simp[VJ,h1,h2,bx]
theorem uL (n:Int):aj T 160 [.int n] (.bool (bx n)):=by
 refine .of_tree rfl (lA 77 (by kernel_rfl)) atx ?_;by_cases h1:0≤n<;>by_cases h2:n≤100000<;>simp[TM,h1,h2,bx]
def su (t:Tenor):Bool:=decide (t.kind=0)||decide (t.kind=1)
theorem Bp (t:Tenor):aj T 77 [jA t] (.bool (su t)):=by
 refine .of_tree rfl (lA 73 (by kernel_rfl)) avN ?_;by_cases h1:t.kind=0<;>simp[VH,h1,su]
theorem aa1 (y m d:Int):∃n:Int,aj T 207 [.int y,.int m,.int d] (.int n):=by
 by_cases h:m<3
 ·refine⟨?w,?h⟩
  case h=>
   refine aj.of_tree (d:=.int ?w) rfl Mo TK ?_;simp[A5,h];exact rfl
 ·refine⟨?v,?g⟩
  case g=>
   refine aj.of_tree (d:=.int ?v) rfl Mo TK ?_;simp[A5,h];exact rfl
def wB (y m d:Int):Int:=(aa1 y m d).choose
theorem An (y m d:Int):aj T 207 [.int y,.int m,.int d] (.int (wB y m d)):=(aa1 y m d).choose_spec
def rI (y m:Int):Int:=if m=12 then 31 else IntKind.i64.wrap (wB y (IntKind.i64.wrap (m+1)) 1-wB y m 1)
theorem Ag (y m:Int):aj T 185 [.int y,.int m] (.int (rI y m)):=by
 refine .of_tree rfl (lA 79 (by kernel_rfl)) atv ?_;unfold rI;by_cases h:m=12
 ·simp[Ln,h]
 ·simp[Ln,h];refine⟨_,An _ _ _,_,An _ _ _,?_⟩;simp
theorem af5 (y m d:Int):∃n e:Int,aj T 184 [.int y,.int m,.int d] (.tup [.int n,.int e])∧(e=0→0≤n∧n≤100000):=by
 by_cases h0:(((2000≤y∧y≤2300)∧1≤m)∧m≤12)∧1≤d
 ·by_cases h2:d≤rI y m
  ·cases h1:bx (wB y m d)
   ·refine⟨0,3,.of_tree rfl Bz Fw ?_,by simp⟩;simp[uD];rw[if_pos h0];refine⟨_,Ag y m,?_⟩;simp[h0,h2];refine⟨_,An _ _ _,_,uL _,?_⟩;simp[h1]
   ·refine⟨wB y m d,0,.of_tree rfl Bz Fw ?_,fun _=>by simpa [bx] using h1⟩;simp[uD];rw[if_pos h0];exact⟨_,Ag y m,⟨h0,h2⟩,_,An _ _ _,_,uL _,h1,rfl⟩
  ·refine⟨0,3,.of_tree rfl Bz Fw ?_,by simp⟩;simp[uD];rw[if_pos h0];refine⟨_,Ag y m,?_⟩;simp[h0,h2]
 ·refine⟨0,3,.of_tree rfl Bz Fw ?_,by simp⟩;simp[uD];rw[if_neg h0];intro a1 a2 a3 a4 a5;exact absurd ⟨⟨⟨⟨a1,a2⟩,a3⟩,a4⟩,a5⟩ h0
theorem agt (r:Realm)(fr to:Int)(hl:r.usances.length≤100000):∃n e:Int,aj T 83 [aL r,.int fr,.int to] (.tup [.int n,.int e])∧(e=0→∃u,u∈r.usances∧n=u.days)∧(e=0↔∃u,u∈r.usances∧u.fr=fr∧u.to=to):=by
 let p:Usance→Bool:=fun u=>decide (u.fr=fr)&&decide (u.to=to)
 refine⟨match r.usances.find? p with|some u=>u.days|none=>0,match r.usances.find? p with|some u=>0|none=>4,?_,?_⟩
 ·refine .of_tree rfl W0 afe ?_;simp[Lx];refine aH.scan r.usances.length (fun k=>p (r.usances.getD k default)=false) (fun k=>[.int 0,.int 0,.int k]) (fun _=>[]) ?_ (fun k hk hj az=>?_) (fun k hk hj az=>?_) (fun hj=>?_)
  ·simp
  ·have hw:=ba hk (by omega);have hn:¬(r.usances[k].fr=fr∧r.usances[k].to=to):=by simpa [p,hk] using az
   simp[AR,uj,hk,hw,hn]
  ·have dK:=ot hk (by simpa [hk] using az) (fun j bm=>by have:=hj j bm;simpa [show j<r.usances.length by omega] using this);have hc:r.usances[k].fr=fr∧r.usances[k].to=to:=by simpa [p,hk] using az
   rw[dK];simp[AR,uj,hk,hc]
  ·have dK:=pI (l:=r.usances) (p:=p) (fun j bm=>by have:=hj j bm;simpa [bm] using this);rw[dK];simp[AR,uj]
 ·cases h:r.usances.find? p with
  |none=>
   refine⟨fun h=>(by cases h),fun h=>(by cases h),fun⟨u,hu,h1,h2⟩=>?_⟩;have:=sG.1 h u hu;simp[p,h1,h2] at this
  |some u=>
   have h2:u.fr=fr∧u.to=to:=by simpa [p] using LX h
   exact⟨fun _=>⟨u,xG h,rfl⟩,fun _=>⟨u,xG h,h2⟩,fun _=>rfl⟩
theorem ags (r:Realm)(fr to:Int)(hl:r.usances.length≤100000):∃n e:Int,aj T 83 [aL r,.int fr,.int to] (.tup [.int n,.int e])∧(e=0→∃u,u∈r.usances∧n=u.days):=by
 obtain⟨n,e,h1,h2,_⟩:=agt r fr to hl;exact⟨n,e,h1,h2⟩
end Rm
namespace Rm
open Go Go.Proofs Cx
theorem Xn (R Y:Int)(hR:0≤R∧R<146097)(h1:365*Y≤R-R/1460+R/36524-R/146096)(h2:R-R/1460+R/36524-R/146096<365*Y+365):0≤R-(365*Y+Y/4-Y/100)∧R-(365*Y+Y/4-Y/100)≤500:=by
 have k0:R/36524≤R/1460:=by omega
 have k1:Y/4≤R/1460:=by omega
 have hY:0≤Y:=by omega
 have hc:R/36524=0∨R/36524=1∨R/36524=2∨R/36524=3∨R/36524=4:=by omega
 have k2:25*(R/36524)≤R/1460:=by omega
 refine⟨?_,?_⟩
 ·rcases Int.lt_or_le Y (100*(R/36524)) with hy|hy
  ·have k3:Y/4≤25*(R/36524)-1:=by omega
   have k4:R/36524-1≤Y/100:=by omega
   omega
  ·have k3:R/36524≤Y/100:=by omega
   omega
 ·omega
theorem Nr (n:Int)(h:0≤n∧n≤100400):aj T 183 [.int n] (.tup [.int (bu n).1,.int (bu n).2.1,.int (bu n).2.2]):=by
 refine .of_tree rfl (lA 78 (by kernel_rfl)) ats ?_;have w:∀x:Int,-1000000000≤x→x≤1000000000→IntKind.i64.wrap x=x:=fun x a b=>aN (by omega);have t:∀x y:Int,0≤x→x.tdiv y=x/y:=fun x y hx=>xB hx;have u:∀x y:Int,0≤x→x.tmod y=x%y:=fun x y hx=>sE hx;simp[TH];unfold bu;simp only[];rw[w (n+730425) (by omega) (by omega),u (n+730425) 146097 (by omega),t (n+730425) 146097 (by omega)];have hR:0≤(n+730425)%146097∧(n+730425)%146097<146097:=by omega
 have hE:0≤(n+730425)/146097∧(n+730425)/146097<100:=by omega
 generalize (n+730425)%146097=R at*;generalize (n+730425)/146097=e at*;rw[t R 1460 (by omega),t R 36524 (by omega),t R 146096 (by omega),w (R/1460) (by omega) (by omega),w (R-R/1460) (by omega) (by omega),w (R/36524) (by omega) (by omega),w (R-R/1460+R/36524) (by omega) (by omega),w (R/146096) (by omega) (by omega),w (R-R/1460+R/36524-R/146096) (by omega) (by omega),t (R-R/1460+R/36524-R/146096) 365 (by omega)];have hY:0≤(R-R/1460+R/36524-R/146096)/365∧(R-R/1460+R/36524-R/146096)/365<400:=by omega
 have hD:0≤R-(365*((R-R/1460+R/36524-R/146096)/365)+(R-R/1460+R/36524-R/146096)/365/4-(R-R/1460+R/36524-R/146096)/365/100)∧R-(365*((R-R/1460+R/36524-R/146096)/365)+(R-R/1460+R/36524-R/146096)/365/4-(R-R/1460+R/36524-R/146096)/365/100)≤500:=by
  exact Xn R _ hR (by omega) (by omega)
 generalize (R-R/1460+R/36524-R/146096)/365=Y at*;rw[w Y (by omega) (by omega),w (365*Y) (by omega) (by omega),t Y 4 (by omega),t Y 100 (by omega),w (Y/4) (by omega) (by omega),w (Y/100) (by omega) (by omega),w (365*Y+Y/4) (by omega) (by omega),w (365*Y+Y/4-Y/100) (by omega) (by omega),w (R-(365*Y+Y/4-Y/100)) (by omega) (by omega)];generalize R-(365*Y+Y/4-Y/100)=D at*;rw[w (5*D) (by omega) (by omega),w (5*D+2) (by omega) (by omega),t (5*D+2) 153 (by omega)];have hM:0≤(5*D+2)/153∧(5*D+2)/153≤20:=by omega
 generalize (5*D+2)/153=M at*;rw[w M (by omega) (by omega),w (M+3) (by omega) (by omega),w (M+3-12) (by omega) (by omega),w e (by omega) (by omega),w (400*e) (by omega) (by omega),w (Y+400*e) (by omega) (by omega),w (Y+400*e+1) (by omega) (by omega)];rw[w (153*M) (by omega) (by omega),w (153*M+2) (by omega) (by omega),t (153*M+2) 5 (by omega),w ((153*M+2)/5) (by omega) (by omega),w (D-(153*M+2)/5) (by omega) (by omega),w (D-(153*M+2)/5+1) (by omega) (by omega)];refine⟨?_,?_,rfl⟩
 ·generalize (if 12<M+3 then M+3-12 else M+3)=m;split<;>rfl
 ·split<;>rfl
theorem afY (d n:Int):∃x e:Int,aj T 159 [.int d,.int n] (.tup [.int x,.int e])∧(e=0→0≤x∧x≤100000):=by
 by_cases h0:bx d=true∧-5000≤n∧n≤5000
 ·have hd:0≤d∧d≤100400:=by have:=h0.1;simp[bx] at this;omega
  obtain⟨A,hA⟩:∃A,A=IntKind.i64.wrap (IntKind.i64.wrap (IntKind.i64.wrap (IntKind.i64.wrap (12*(bu d).1)+(bu d).2.1)-1)+n):=⟨_,rfl⟩
  obtain⟨Y,hY⟩:∃Y,Y=IntKind.i64.wrap (A.tdiv 12):=⟨_,rfl⟩
  obtain⟨M,hM⟩:∃M,M=IntKind.i64.wrap (A.tmod 12+1):=⟨_,rfl⟩
  obtain⟨x,e,hD,hb⟩:=af5 Y M (if rI Y M<(bu d).2.2 then rI Y M else(bu d).2.2);refine⟨x,e,.of_tree rfl F0 Lm ?_,hb⟩;have n1:¬n< -5000:=by omega
  have n2:¬5000<n:=by omega
  simp[A4,n1,n2];refine⟨_,uL d,?_⟩;simp[h0.1];refine⟨_,Nr d hd,?_⟩;simp[←hA,←hY,←hM];refine⟨_,Ag Y M,?_⟩;by_cases hl:rI Y M<(bu d).2.2
  ·simp only[if_pos hl] at hD;simp[hl];refine⟨_,hD,?_⟩;simp
  ·simp only[if_neg hl] at hD;simp[hl];refine⟨_,hD,?_⟩;simp
 ·refine⟨0,3,.of_tree rfl F0 Lm ?_,by simp⟩;simp[A4];refine⟨_,uL d,?_⟩;simp;intro a b c;exact absurd ⟨a,b,c⟩ h0
end Rm
namespace Rm
open Go Go.Proofs Cx
theorem N0 (l:List Int)(x:Int):hasB l x=l.contains x:=by
 rw[qD];simp[hasB]
def uy (c:City):Prop:=c.rest.length≤100000∧c.feasts.length≤100000∧c.shut.length≤100000
theorem ahs (n:Int)(h:0≤n∧n≤100400):(0≤(bu n).2.1∧(bu n).2.1≤30)∧-1000≤(bu n).2.2∧(bu n).2.2≤1000:=by
 unfold bu;simp only[];have hR:0≤(n+730425)%146097∧(n+730425)%146097<146097:=by omega
 generalize (n+730425)%146097=R at*;have hD:=Xn R ((R-R/1460+R/36524-R/146096)/365) hR (by omega) (by omega);generalize (R-R/1460+R/36524-R/146096)/365=Y at*;generalize R-(365*Y+Y/4-Y/100)=D at*;have hM:0≤(5*D+2)/153∧(5*D+2)/153≤20:=by omega
 generalize (5*D+2)/153=M at*;refine⟨?_,by omega,by omega⟩;split<;>omega
theorem aqh (c:City)(hc:uy c)(n:Int)(h:0≤n∧n≤100400):aj T 187 [fm c,.int n] (.bool (lF c.rest c.feasts c.shut n)):=by
 refine .of_tree rfl (lA 87 (by kernel_rfl)) atw ?_;simp[TL];refine⟨_,Nr n h,?_⟩;have w5:IntKind.i64.wrap (n+5)=n+5:=aN (by omega);have m7:(n+5).tmod 7=(n+5)%7:=sE (by omega);obtain⟨h1,h2,h3⟩:=hc;simp[w5,m7];refine⟨_,xy c.rest ((n+5)%7) (by omega),?_⟩;unfold lF;rw[←N0];cases hr:hasB c.rest ((n+5)%7)
 ·obtain⟨jd,dT⟩:=ahs n h;have wm:IntKind.i64.wrap (100*(bu n).2.1)=100*(bu n).2.1:=aN (by omega);have wd:IntKind.i64.wrap (100*(bu n).2.1+(bu n).2.2)=100*(bu n).2.1+(bu n).2.2:=aN (by omega);simp[hr,wm,wd];refine⟨_,xy c.feasts _ (by omega),?_⟩;have e1:=N0 c.feasts (100*(bu n).2.1+(bu n).2.2);have e2:=N0 c.shut n;simp at e1 e2;cases hf:hasB c.feasts (100*(bu n).2.1+(bu n).2.2)
  ·simp[hf,←e1,←e2];exact⟨_,xy c.shut n (by omega),rfl⟩
  ·simp[hf,←e1]
 ·simp[hr]
end Rm
namespace Rm
open Go Go.Proofs Cx
def dA (c:City)(a:Int)(k:Nat):List Int:=((List.range k).map fun(i:Nat)=>a+i).filter (lF c.rest c.feasts c.shut)
theorem Xv (c:City)(a:Int)(k:Nat):dA c a (k+1)=dA c a k++if lF c.rest c.feasts c.shut (a+k) then[a+k] else[]:=by
 unfold dA;rw[L2,px,List.filter_append]
 congr 1
 cases h:lF c.rest c.feasts c.shut (a+k)<;>simp[h]
theorem ahK (c:City)(a:Int){k n:Nat}(h:k≤n):∃r,dA c a n=dA c a k++r:=by
 induction n with
 |zero=>obtain rfl:k=0:=by omega
        exact⟨[],by simp⟩
 |succ n ih=>
  by_cases e:k=n+1
  ·subst e;exact⟨[],by simp⟩
  ·obtain⟨r,hr⟩:=ih (by omega);exact⟨r++_,by rw[Xv,hr,nS]⟩
def pG (d:Int):D:=.tup [.int d]
theorem ahL (c:City)(a b:Int):Xx [.ref (.int a),.ref (.int b),.ref (fm c)]=(dA c a (b-a+1).toNat).map pG:=by
 have hi:∀l:List Int,wc (ints l)=l:=fun l=>by
  show(l.map D.int).map D.i=l;rw[LZ];exact List.map_id l
 show(Xw (wc (ints c.rest)) (wc (ints c.feasts)) (wc (ints c.shut)) a b).map _=_;rw[hi,hi,hi];rfl
theorem ahI (c:City)(hc:uy c)(a b:Int)(ha:0≤a)(hb:b≤100400)(zr:a≤100400):aj T 186 [.ref (.int a),.ref (.int b),.ref (fm c)] (.list ((dA c a (b-a+1).toNat).map pG)):=by
 have tF:=ahL c a b;rw[←tF];obtain⟨N,hN⟩:∃N,N=(b-a+1).toNat:=⟨_,rfl⟩
 refine aj.of_it (pc:=(ab qX)) (J:=1000) (k:=1) rfl (fun x hx=>?_) (fun m hm=>?_)
 ·rw[tF] at hx;obtain⟨i,_,rfl⟩:=eR.1 hx;exact⟨_,rfl,rfl⟩
 ·rw[tF] at hm ⊢;rw[←hN] at hm ⊢;refine Lz ?_;rw[att];simp[TJ];refine aH.forLoop (α:=Nat) (fun k vr vo=>k≤N∧vr=[.int (a+k)]∧vo=[.list ((dA c a k).map pG)]∧(dA c a k).length≤m) (fun k=>N-k) 0 ?_ ?_
  ·simp[aiF,dA]
  ·rintro k vr vo ⟨hk,rfl,rfl,ku⟩;by_cases aq:k<N
   ·have hle:a+(k:Int)≤b:=by omega
    have gM:IntKind.i64.wrap (a+(k:Int)+1)=a+((k+1:Nat):Int):=by rw[aN (by omega)];omega
    have cZ:=(aqh c hc (a+k) (by omega))
    have zY:=Xv c a k;obtain⟨r,hr⟩:=ahK c a (k:=k+1) (n:=N) aq;simp[aei,Kq,hle];refine⟨_,cZ.yld (by decide),?_⟩;cases hi:lF c.rest c.feasts c.shut (a+k)
    ·simp[hi] at zY ⊢;exact⟨k+1,by omega,by omega,gM,by rw[zY],by rw[zY];exact ku⟩
    ·simp[hi] at zY ⊢;have hlen:(dA c a (k+1)).length=(dA c a k).length+1:=by rw[zY];simp
     have Dc:(dA c a k).map pG++[D.tup [D.int (a+k)]]=(dA c a (k+1)).map pG:=by rw[zY,px];rfl
     have C9:(dA c a (k+1)).map pG=((dA c a N).map pG).take ((dA c a k).length+1):=by
      rw[hr,px,List.take_append_of_le_length (by simp[hlen]),Bn (by simp[hlen])]
     have bD:(dA c a k).length<((dA c a N).map pG).length:=by rw[hr];simp[hlen];omega
     rw[Dc];refine⟨_,aj.answer C9 bD ku,?_⟩;by_cases vN:(dA c a k).length<m
     ·simp[vN];exact⟨k+1,by omega,by omega,gM,rfl,by omega⟩
     ·obtain rfl:(dA c a k).length=m:=by omega
      simp;rw[C9]
   ·obtain rfl:k=N:=by omega
    have hle:¬a+(k:Int)≤b:=by omega
    simp[aei,Kq,hle];rw[Bn (by simp;omega)]
end Rm
namespace Rm
open Go Go.Proofs Cx
theorem ahM (c:City)(a b:Int):aj T 161 [fm c,.int a,.int b] (.clo 186 [.ref (.int a),.ref (.int b),.ref (fm c)]):=by
 refine .of_tree rfl (lA 86 (by kernel_rfl)) atu ?_;simp[TI]
def jB (d:Int):Int:=if 100000<d+400 then 100000 else d+400
def cK (c:City)(d:Int):Int×Int:=
 if bx d=false then(0,3) else match dA c d (jB d-d+1).toNat with|[]=>(0,3)|x::_=>(x,0)
theorem ahJ {c:City}{a:Int}{k:Nat}{x:Int}(h:x∈dA c a k):a≤x∧x<a+k:=by
 unfold dA at h;obtain⟨h1,_⟩:=gC.mp h;obtain⟨i,hi,rfl⟩:=eR.mp h1;have:=gm.mp hi;omega
theorem Jt {c:City}{d:Int}(h:(cK c d).2=0):bx d=true∧d≤(cK c d).1∧(cK c d).1≤100000:=by
 unfold cK at h ⊢;cases hd:bx d
 ·simp[hd] at h
 ·simp only[hd] at h ⊢;cases hk:dA c d (jB d-d+1).toNat with
  |nil=>rw[hk] at h;simp at h
  |cons x l=>
   have hm:x∈dA c d (jB d-d+1).toNat:=by rw[hk];simp
   have:=ahJ hm;have he:jB d≤100000:=by unfold jB;split<;>omega
   simp[bx] at hd;simp;unfold jB at*;omega
theorem ago (c:City)(hc:uy c)(d:Int):aj T 127 [fm c,.int d] (.tup [.int (cK c d).1,.int (cK c d).2]):=by
 refine .of_tree rfl (lA 85 (by kernel_rfl)) atr ?_;simp[TG];refine⟨_,uL d,?_⟩;cases hd:bx d
 ·simp[cK,hd]
 have eJ:0≤d∧d≤100000:=by simpa [bx] using hd
 have hw:IntKind.i64.wrap (d+400)=d+400:=aN (by omega);have he:jB d≤100000:=by unfold jB;split<;>omega
 simp[hd,hw];have hE:(if 100000<d+400 then D.int 100000 else D.int (d+400))=D.int (jB d):=by unfold jB;split<;>rfl
 rw[hE];refine⟨_,ahM c d (jB d),_,_,rfl,_,ahI c hc d (jB d) eJ.1 (by omega) (by omega),?_⟩;cases hk:dA c d (jB d-d+1).toNat with
 |nil=>
  have hn:cK c d=(0,3):=by unfold cK;simp[hd,hk]
  rw[hn];refine aH.eachR [] (by simp) (fun _ vo=>vo=[.agg [.int 0],.agg [.int 0]]) ?_ (fun k x vo hx hi=>by simp at hx) (fun vo hi=>?_)
  ·simp
  ·subst hi;simp
 |cons x l=>
  have hn:cK c d=(x,0):=by unfold cK;simp[hd,hk]
  rw[hn];refine aH.eachR ((x::l).map pG) (by simp) (fun k vo=>k=0∧vo=[.agg [.int 0],.agg [.int 0]]) ?_ (fun k y vo hx hi=>?_) (fun vo hi=>?_)
  ·simp
  ·obtain⟨rfl,rfl⟩:=hi;simp at hx;subst hx;simp[arG,RN,pG];rfl
  ·exact absurd hi.1 (by simp)
end Rm
namespace Rm
open Go Go.Proofs Cx
def ux (o:Int)(d:Int)(h:Halt):Int:=if(h.order=o∧h.fr≤d)∧d≤h.to then h.to+1 else d
def fa (r:Realm)(o d:Int)(k:Nat):Int:=(r.halts.take k).foldl (ux o) d
theorem La (r:Realm)(o d:Int){k:Nat}(hk:k<r.halts.length):fa r o d (k+1)=ux o (fa r o d k) r.halts[k]:=by
 unfold fa;rw[gU hk,uR];rfl
def jr (r:Realm):Prop:=r.halts.length≤100000∧∀h,h∈r.halts→0≤h.fr∧h.to≤100000
theorem K9 {r:Realm}(hh:jr r)(o d:Int)(hd:d≤100001):∀k,k≤r.halts.length→d≤fa r o d k∧fa r o d k≤100001
 |0,_=>⟨by simp[fa],by simpa [fa] using hd⟩
 |k+1,hk=>by
  obtain⟨h1,h2⟩:=K9 hh o d hd k (by omega);rw[La r o d (by omega)];have:=hh.2 _ (cq (show k<r.halts.length by omega));unfold ux;split<;>omega
def qt (r:Realm)(o:Int):Nat→Int→Int
 |0,d=>d
 |n+1,d=>if fa r o d r.halts.length=d then d else qt r o n (fa r o d r.halts.length)
def dy (r:Realm)(o d:Int):Int:=qt r o (100002-d).toNat d
theorem Tf {r:Realm}(hh:jr r)(o:Int):∀(n:Nat) (d:Int),d≤100001→d≤qt r o n d∧qt r o n d≤100001
 |0,d,hd=>⟨LQ _,hd⟩
 |n+1,d,hd=>by
  obtain⟨h1,h2⟩:=K9 hh o d hd r.halts.length (bJ _);unfold qt;split
  ·omega
  ·have:=Tf hh o n _ h2;omega
theorem asF (r:Realm)(hh:jr r)(o d:Int)(h0:0≤d)(hd:d≤100001):aj T 126 [aL r,.int o,.int d] (.int (dy r o d)):=by
 refine .of_tree rfl (lA 84 (by kernel_rfl)) avR ?_;simp[VL];refine aH.forLoop (α:=Int×Bool×Nat) (fun s vr vo=>vr=[.int s.1,.bool s.2.1]∧vo=[]∧d≤s.1∧s.1≤100001∧(s.2.1=true→(100002-s.1).toNat≤s.2.2)∧(s.2.1=true→qt r o s.2.2 s.1=dy r o d)∧(s.2.1=false→s.1=dy r o d)) (fun s=>2*(100001-s.1).toNat+(if s.2.1 then 1 else 0)) (d,true,(100002-d).toNat) ?_ ?_
 ·simp;exact⟨by omega,rfl⟩
 ·rintro⟨e,ch,n⟩ vr vo ⟨rfl,rfl,h1,h2,h3,h4,h5⟩;simp only at*;cases ch
  ·simp[aez,KP];exact h5 rfl
  ·have h3:=h3 rfl;have h4:=h4 rfl;obtain⟨n,rfl⟩:∃m,n=m+1:=⟨n-1,by omega⟩
   have cf:=K9 hh o e h2;simp[aez,KP];refine aH.forRounds r.halts.length (fun k=>[.int (fa r o e k),.bool (decide (e<fa r o e k)),.int k]) (fun _=>[]) ?_ (fun k hk=>?_) ?_
   ·simp[fa]
   ·have hw:=ba hk (by have:=hh.1;omega);have de:=cf k (by omega);have pW:=hh.2 _ (cq hk);rw[La r o e hk];unfold ux;generalize fa r o e k=x at*;by_cases hc:(r.halts[k].order=o∧r.halts[k].fr≤x)∧x≤r.halts[k].to
    ·have cM:IntKind.i64.wrap (r.halts[k].to+1)=r.halts[k].to+1:=aN (by omega);simp[KO,AU,hk,hw,hc,cM];omega
    ·simp[KO,AU,hk,hw,hc]
   ·have hE:=cf r.halts.length (bJ _);unfold qt at h4;generalize fa r o e r.halts.length=x at*;by_cases hx:x=e
    ·rw[if_pos hx] at h4;subst hx;simp[KO,AU];exact⟨x,by omega,rfl,h1,h2,h4⟩
    ·rw[if_neg hx] at h4;have aq:e<x:=by omega
     simp[KO,AU,aq];exact⟨x,by omega,rfl,by omega,by omega,n,by omega,h4⟩
def nN (r:Realm)(c:City)(o:Int):Nat→Int→Int×Int
 |0,d=>(d,0)
 |n+1,d=>
  if(cK c (dy r o d)).2≠0 then(0,3)
  else if(cK c (dy r o d)).1=dy r o d then(dy r o d,0)
  else nN r c o n (cK c (dy r o d)).1
theorem xk (r:Realm)(c:City)(o:Int)(n:Nat)(d:Int):nN r c o (n+1) d=
 if(cK c (dy r o d)).2≠0 then(0,3)
 else if(cK c (dy r o d)).1=dy r o d then(dy r o d,0)
 else nN r c o n (cK c (dy r o d)).1:=rfl
def qq (r:Realm)(city d:Int):Int×Int:=nN r (r.cities.getD city.toNat default) (cC r city) (100002-d).toNat d
theorem Ta (r:Realm)(hh:jr r)(city d:Int)(hc:0≤city∧city<r.cities.length)(hs:∀c,c∈r.cities→uy c)(h0:0≤d)(hd:d≤100001):aj T 79 [aL r,.int city,.int d] (.tup [.int (qq r city d).1,.int (qq r city d).2]):=by
 refine .of_tree rfl (lA 83 (by kernel_rfl)) avQ ?_;simp[VK];refine⟨_,oX r city,?_⟩;have bD:city.toNat<r.cities.length:=by omega
 have Oa:r.cities.getD city.toNat default=r.cities[city.toNat]:=by simp[bD]
 have OZ:=hs _ (cq bD);have hF:qq r city d=nN r r.cities[city.toNat] (cC r city) (100002-d).toNat d:=by unfold qq;rw[Oa]
 rw[hF];refine aH.forLoop (α:=Int×Nat) (fun s vr vo=>(∃a b,vr=[.int s.1,a,b])∧vo=[]∧0≤s.1∧s.1≤100001∧(100002-s.1).toNat≤s.2∧nN r r.cities[city.toNat] (cC r city) s.2 s.1=nN r r.cities[city.toNat] (cC r city) (100002-d).toNat d) (fun s=>s.2) (d,(100002-d).toNat) ?_ ?_
 ·simp;omega
 ·rintro⟨e,n⟩ vr vo ⟨⟨a,b,rfl⟩,rfl,h1,h2,h3,h4⟩;simp only at*;obtain⟨n,rfl⟩:∃m,n=m+1:=⟨n-1,by omega⟩
  rw[←h4];have I5:=Tf hh (cC r city) (100002-e).toNat e h2;have hsr:=asF r hh (cC r city) e h1 h2;rw[xk];change e≤dy r (cC r city) e∧dy r (cC r city) e≤100001 at I5;generalize dy r (cC r city) e=x at*;have zN:=ago r.cities[city.toNat] OZ x;have ml:=Jt (c:=r.cities[city.toNat]) (d:=x);generalize cK r.cities[city.toNat] x=N at*;obtain⟨y,er⟩:=N;simp only at zN ml;simp[arN,SM];refine⟨_,hsr,?_⟩;simp[bD,hc];refine⟨_,zN,?_⟩;by_cases he:er=0
  ·obtain⟨g1,g2,g3⟩:=ml he;by_cases hy:y=x
   ·simp[he,hy]
   ·simp[he,hy];exact⟨y,n,by omega,rfl,by omega,by omega,by omega,rfl⟩
  ·simp[he]
end Rm
