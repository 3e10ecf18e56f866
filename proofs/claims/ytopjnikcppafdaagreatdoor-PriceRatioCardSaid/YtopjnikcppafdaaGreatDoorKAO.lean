/-
  Shared texts of this claim.
-/
import Derived.Test.YtopjnikcppafdaaGreatDoorKAN
import Derived.Lib.Mul64
set_option linter.unusedSimpArgs false
set_option linter.unusedVariables false
noncomputable section
namespace Rm
open Go Go.Proofs Cx
abbrev u (n:Nat):D:=.v (.int .u64 n)
theorem xl (n:Int):IntKind.u64.wrap n=n%18446744073709551616:=rfl
theorem km {n:Int}(h:0≤n∧n<18446744073709551616):IntKind.u64.wrap n=n:=by
 rw[xl];omega
theorem fu {n:Nat}(h:n<18446744073709551616):IntKind.u64.wrap (n:Int)=n:=km (by omega)
theorem Iq (a s:Nat)(h:s≤64):bX .shr .u64 a s=((a/2^s:Nat):Int):=by
 show Int.fdiv (a:Int) (2^(min (s:Int).toNat 64))=_;have:min (s:Int).toNat 64=s:=by simp;omega
 rw[this,akZ _ (Int.le_of_lt (Int.pow_pos (by decide)))];rw[Int.natCast_ediv,Int.natCast_pow];rfl
theorem Xe (a s:Nat)(h:s≤64):bX .shl .u64 a s=((a*2^s%18446744073709551616:Nat):Int):=by
 show IntKind.u64.wrap ((a:Int)*(2^(min (s:Int).toNat 64)))=_;have:min (s:Int).toNat 64=s:=by simp;omega
 rw[this,xl,Int.natCast_emod,Int.natCast_mul,Int.natCast_pow];rfl
theorem D3 (a:Nat)(h:a<18446744073709551616):bX .and .u64 a 4294967295=((a%4294967296:Nat):Int):=by
 show IntKind.u64.wrap ((BitVec.ofInt 64 (a:Int)&&& BitVec.ofInt 64 4294967295).toNat:Nat)=_;have e:(BitVec.ofInt 64 (a:Int)&&& BitVec.ofInt 64 4294967295).toNat=a%4294967296:=by
  rw[BitVec.toNat_and];have e1:(BitVec.ofInt 64 (a:Int)).toNat=a:=by simp[BitVec.ofInt,BitVec.toNat_ofNat];omega
  have e2:(BitVec.ofInt 64 4294967295).toNat=2^32-1:=by decide
  rw[e1,e2,Nat.and_two_pow_sub_one_eq_mod]
 rw[e,fu (by omega)]
@[simp] theorem dE (a:Nat):bX .shr .u64 a 32=((a/4294967296:Nat):Int):=Iq a 32 (by decide)
@[simp] theorem aI5 (a:Nat):bX .shr .u64 a 16=((a/65536:Nat):Int):=Iq a 16 (by decide)
@[simp] theorem aI6 (a:Nat):bX .shr .u64 a 8=((a/256:Nat):Int):=Iq a 8 (by decide)
set_option maxHeartbeats 2000000 in
theorem Uc (a b:Nat)(ha:a<18446744073709551616)(hb:b<18446744073709551616):aj T 83 [u a,u b] (.tup [u (a*b/18446744073709551616),u (a*b%18446744073709551616)]):=by
 refine .of_tree rfl (lA 58 (by kernel_rfl)) azm ?_;obtain⟨h1,h2,h3,h4⟩:=Go.Lib.mul64_hi a b ha hb;have elo:IntKind.u64.wrap ((a:Int)*(b:Int))=((a*b%18446744073709551616:Nat):Int):=by rw[xl,Int.natCast_emod,Int.natCast_mul];rfl
 have ea1:bX .shr .u64 (a:Int) 32=((a/4294967296:Nat):Int):=dE a;have ea0:bX .and .u64 (a:Int) 4294967295=((a%4294967296:Nat):Int):=D3 a ha;have eb1:bX .shr .u64 (b:Int) 32=((b/4294967296:Nat):Int):=dE b;have eb0:bX .and .u64 (b:Int) 4294967295=((b%4294967296:Nat):Int):=D3 b hb;have aHv:=Go.Lib.half_mul_le (a:=a/4294967296) (b:=b/4294967296) (by omega) (by omega);have aHu:=Go.Lib.half_mul_le (a:=a/4294967296) (b:=b%4294967296) (by omega) (by omega);have aHt:=Go.Lib.half_mul_le (a:=a%4294967296) (b:=b/4294967296) (by omega) (by omega);have aHs:=Go.Lib.half_mul_le (a:=a%4294967296) (b:=b%4294967296) (by omega) (by omega);have vD:a*b/18446744073709551616<18446744073709551616:=by
  have:a*b<18446744073709551616*18446744073709551616:=Nat.mul_lt_mul'' ha hb;exact Nat.div_lt_of_lt_mul this
 simp only[XK];generalize a/4294967296=a1 at*;generalize a%4294967296=a0 at*;generalize b/4294967296=b1 at*;generalize b%4294967296=b0 at*;have p11:IntKind.u64.wrap ((a1:Int)*(b1:Int))=((a1*b1:Nat):Int):=by rw[←Int.natCast_mul];exact fu (by omega)
 have p10:IntKind.u64.wrap ((a1:Int)*(b0:Int))=((a1*b0:Nat):Int):=by rw[←Int.natCast_mul];exact fu (by omega)
 have p01:IntKind.u64.wrap ((a0:Int)*(b1:Int))=((a0*b1:Nat):Int):=by rw[←Int.natCast_mul];exact fu (by omega)
 have p00:IntKind.u64.wrap ((a0:Int)*(b0:Int))=((a0*b0:Nat):Int):=by rw[←Int.natCast_mul];exact fu (by omega)
 rw[←h4] at vD ⊢;generalize a1*b1=P at*;generalize a1*b0=Q at*;generalize a0*b1=R at*;generalize a0*b0=S at*;have s1:bX .shr .u64 (S:Int) 32=((S/4294967296:Nat):Int):=dE S;have s2:IntKind.u64.wrap ((Q:Int)+((S/4294967296:Nat):Int))=((Q+S/4294967296:Nat):Int):=by rw[km (by omega)];omega
 generalize S/4294967296=S1 at*;generalize hT:Q+S1=TT at*;have s3:bX .shr .u64 (TT:Int) 32=((TT/4294967296:Nat):Int):=dE TT;have s4:bX .and .u64 (TT:Int) 4294967295=((TT%4294967296:Nat):Int):=D3 TT (by omega);have s5:IntKind.u64.wrap (((TT%4294967296:Nat):Int)+(R:Int))=((TT%4294967296+R:Nat):Int):=by rw[km (by omega)];omega
 generalize hU:TT%4294967296+R=U at*;have s6:bX .shr .u64 (U:Int) 32=((U/4294967296:Nat):Int):=dE U;have s7:IntKind.u64.wrap ((P:Int)+((TT/4294967296:Nat):Int))=((P+TT/4294967296:Nat):Int):=by rw[km (by omega)];omega
 have s8:IntKind.u64.wrap (((P+TT/4294967296:Nat):Int)+((U/4294967296:Nat):Int))=((P+TT/4294967296+U/4294967296:Nat):Int):=by rw[km (by omega)];omega
 simp[-dE,-Int.natCast_add,-Int.natCast_mul,-Int.natCast_ediv,-Int.natCast_emod,elo,ea1,ea0,eb1,eb0,p11,p10,p01,p00,s1,s2,s3,s4,s5,s6,s7,s8]
def uR (m:Nat):Int:=if m<1099511627776 then m else 1099511627776
def CV (a b:Int):Int:=if(decide (a<0)!=decide (b<0))=true then-uR (a.natAbs*b.natAbs) else uR (a.natAbs*b.natAbs)
theorem ain (m:Nat):0≤uR m∧uR m≤1099511627776:=by unfold uR;split<;>omega
set_option maxHeartbeats 1000000 in
theorem ayT (a b:Int)(ha:-1099511627776≤a∧a≤1099511627776)(hb:-1099511627776≤b∧b≤1099511627776):aj T 232 [.int a,.int b] (.int (CV a b)):=by
 refine .of_tree rfl (lA 57 (by kernel_rfl)) aBx ?_;have wa:IntKind.u64.wrap (a.natAbs:Int)=a.natAbs:=fu (by omega);have wb:IntKind.u64.wrap (b.natAbs:Int)=b.natAbs:=fu (by omega);have w0a:IntKind.i64.wrap (0-a)=-a:=by rw[aN (by omega)];omega
 have w0b:IntKind.i64.wrap (0-b)=-b:=by rw[aN (by omega)];omega
 have aBW:IntKind.i64.wrap (-a)=-a:=aN (by omega);have aBX:IntKind.i64.wrap (-b)=-b:=aN (by omega);have ea:(if a< -a then D.int (-a) else D.int a)=D.int a.natAbs:=by split<;>congr 1<;>omega
 have eb:(if b< -b then D.int (-b) else D.int b)=D.int b.natAbs:=by split<;>congr 1<;>omega
 have ea':(if a< -a then-a else a)=(a.natAbs:Int):=by split<;>omega
 have eb':(if b< -b then-b else b)=(b.natAbs:Int):=by split<;>omega
 simp[ZW,aBW,aBX,ea,eb,ea',eb'];rw[wa,wb];refine⟨_,Uc a.natAbs b.natAbs (by omega) (by omega),?_⟩;unfold CV;generalize a.natAbs*b.natAbs=m;have hs:(decide (a<0)!=decide (b<0))=false↔(a<0↔b<0):=by
  by_cases h1:a<0<;>by_cases h2:b<0<;>simp[h1,h2]
 have key:((if((m/18446744073709551616:Nat):Int)=0∧((m%18446744073709551616:Nat):Int)<1099511627776 then IntKind.i64.wrap ((m%18446744073709551616:Nat):Int) else 1099511627776):Int)=uR m:=by
  unfold uR;by_cases hm:m<1099511627776
  ·have h1:m/18446744073709551616=0:=by omega
   have h2:m%18446744073709551616=m:=by omega
   rw[h1,h2,if_pos ⟨rfl,by omega⟩,if_pos hm,aN (by omega)]
  ·rw[if_neg hm,if_neg];rintro⟨h1,h2⟩;omega
 have eB:=ain m;have atK:(if((m/18446744073709551616:Nat):Int)=0∧((m%18446744073709551616:Nat):Int)<1099511627776 then D.int (IntKind.i64.wrap ((m%18446744073709551616:Nat):Int)) else D.int 1099511627776)=D.int (uR m):=by
  rw[←key];split<;>rfl
 show(if a<0↔b<0 then(if((m/18446744073709551616:Nat):Int)=0∧((m%18446744073709551616:Nat):Int)<1099511627776 then D.int (IntKind.i64.wrap ((m%18446744073709551616:Nat):Int)) else D.int 1099511627776)=_ else
  IntKind.i64.wrap (-(if((m/18446744073709551616:Nat):Int)=0∧((m%18446744073709551616:Nat):Int)<1099511627776 then IntKind.i64.wrap ((m%18446744073709551616:Nat):Int) else 1099511627776))=_)
 rw[atK,key];generalize uR m=n at*;split
 ·rename_i h;rw[hs.2 h];simp
 ·rename_i h;have:(decide (a<0)!=decide (b<0))=true:=by
   cases e:(decide (a<0)!=decide (b<0)) with
   |true=>rfl
   |false=>exact absurd (hs.1 e) h
  rw[this,aN (by omega)];simp
def Ay (op a b:Int):Int:=if op=9 then qz (a+b) else if op=10 then qz (a-b) else if op=11 then CV a b else if op=12 then min a b else max a b
theorem ayQ (op a b:Int)(ha:-1099511627776≤a∧a≤1099511627776)(hb:-1099511627776≤b∧b≤1099511627776):aj T 230 [.int op,.int a,.int b] (.int (Ay op a b)):=by
 refine .of_tree rfl (lA 56 (by kernel_rfl)) aBq ?_;have w1:IntKind.i64.wrap (a+b)=a+b:=aN (by omega);have w2:IntKind.i64.wrap (a-b)=a-b:=aN (by omega);simp[ZQ,Ay,w1,w2];by_cases h1:op=9
 ·simp[h1];exact O2 _
 by_cases h2:op=10
 ·simp[h1,h2];exact O2 _
 by_cases h3:op=11
 ·simp[h1,h2,h3];exact ayT a b ha hb
 by_cases h4:op=12
 ·simp[h1,h2,h3,h4];by_cases h5:b<a<;>simp[h5]<;>omega
 simp[h1,h2,h3,h4];by_cases h5:b>a<;>simp[h5]<;>omega
def iz (b:Bool):Cell:=if b then⟨true,1⟩ else⟨true,0⟩
theorem wX (b:Bool):aj T 228 [.bool b] (dg (iz b)):=by
 refine .of_tree rfl (lA 54 (by kernel_rfl)) aBz ?_;cases b<;>simp[ZY,iz]<;>rfl
def fa:Cell:=⟨false,0⟩
@[simp] theorem aIx:D.agg [.bool false,.int 0]=dg fa:=_root_.id rfl
@[simp] theorem aIy:fa.known=false:=rfl
@[simp] theorem aIz:fa.n=0:=rfl
def cellAt (cs:List Cell)(v:Int):Cell:=cs.getD v.toNat default
def mh (cs:List Cell)(v:Int):Cell:=if cs.length≤v.toNat∨(cellAt cs v).known=false then fa else if(nj v).1=1 then iz (decide ((cellAt cs v).n≠0)) else⟨true,qz (cellAt cs v).n⟩
abbrev Rw (cs:List Cell):D:=.agg [cells cs]
theorem ayV (cs:List Cell)(v:Int)(hv:0≤v):aj T 219 [Rw cs,.int v] (dg (mh cs v)):=by
 refine .of_tree rfl (lA 53 (by kernel_rfl)) aBw ?_;obtain⟨k,rfl⟩:=lO hv;simp[ZV,mh,cellAt];by_cases h1:cs.length≤k
 ·simp[h1]
 have cJ:k<cs.length:=by omega
 simp[h1,cJ];cases h2:cs[k].known
 ·simp[h2]
 simp[h2];refine⟨_,aj7 _,?_⟩;by_cases h3:(nj k).1=1
 ·simp[h3,cJ];refine⟨_,wX _,?_⟩;simp;rfl
 ·simp[h3,cJ];refine⟨_,O2 _,?_⟩;simp;rfl
@[simp] theorem aHS (a b:Int):(a==b)=decide (a=b):=_root_.id rfl
@[simp] theorem aHT (a b:Int):(a !=b)= !decide (a=b):=_root_.id rfl
def bA (l:List Cell)(k:Nat):Cell:=l.getD k default
def iM (op:Int)(l:List Cell):Cell:=
 if op=3 then(if(bA l 0).known=true then iz (decide ((bA l 0).n=0)) else fa)
 else if(op=4∨op=5)∧(bA l 0=iz (decide (op=5))∨bA l 1=iz (decide (op=5))) then iz (decide (op=5))
 else if op=6 then(if(bA l 1).known=true∧bA l 1=bA l 2 then bA l 1 else fa)
 else if(bA l 0).known=false∨(bA l 1).known=false then fa
 else if op=4∨op=5 then iz (decide (op=4))
 else if op=7 then iz (decide ((bA l 0).n<(bA l 1).n)) else if op=8 then iz (decide ((bA l 0).n=(bA l 1).n)) else⟨true,Ay op (bA l 0).n (bA l 1).n⟩
theorem amq (a b:Cell):a=b↔a.known=b.known∧a.n=b.n:=by cases a;cases b;simp
theorem ayR (op:Int)(l:List Cell)(h1:1≤l.length)(h2:op≠3→2≤l.length)(h3:op=6→3≤l.length)
 (hb:9≤op→(-1099511627776≤(bA l 0).n∧(bA l 0).n≤1099511627776)∧(-1099511627776≤(bA l 1).n∧(bA l 1).n≤1099511627776)) (h9:op<3∨8<op→9≤op):
 aj T 220 [.int op,cells l] (dg (iM op l)):=by
 refine .of_tree rfl (lA 55 (by kernel_rfl)) aBs ?_;have g0:0<l.length:=by omega
 have yk:l[0]=bA l 0:=by simp[bA,g0]
 simp[ZS];unfold iM;by_cases o3:op=3
 ·simp[o3,g0,yk];cases e:(bA l 0).known
  ·simp
  ·simp[g0];refine⟨_,wX _,?_⟩;simp
 have g1:1<l.length:=by have:=h2 o3;omega
 have Fc:l[1]=bA l 1:=by simp[bA,g1]
 have fB:(1:Int)<l.length:=by omega
 simp[o3];have fin:∀a b:Cell,(a=b)=(a.known=b.known∧a.n=b.n):=fun a b=>propext (amq a b);rcases IN (op=4) with o4|o4
 ·subst o4;simp;refine⟨_,wX _,?_⟩;simp[g0,g1,fB,yk,Fc,fin];split
  ·rfl
  ·split
   ·rfl
   ·refine⟨_,wX _,?_⟩;simp
 rcases IN (op=5) with o5|o5
 ·subst o5;simp;refine⟨_,wX _,?_⟩;simp[g0,g1,fB,yk,Fc,fin];split
  ·rfl
  ·split
   ·rfl
   ·refine⟨_,wX _,?_⟩;simp
 rcases IN (op=6) with o6|o6
 ·subst o6;have g2:2<l.length:=by have:=h3 rfl;omega
  have gg2:l[2]=bA l 2:=by simp[bA,g2]
  have oX:(2:Int)<l.length:=by omega
  simp[g1,g2,fB,oX,Fc,gg2,fin];cases e1:(bA l 1).known
  ·simp
  by_cases e2:(bA l 1).known=(bA l 2).known∧(bA l 1).n=(bA l 2).n
  ·rw[e1] at e2;simp[e1,e2]
  ·rw[e1] at e2;have se:¬((bA l 2).known=true∧(bA l 1).n=(bA l 2).n):=fun h=>e2 ⟨h.1.symm,h.2⟩;simp only[e1,true_and,if_true]
   first|(rw[if_neg se,if_neg se])|(simp[se])
 simp[o4,o5,o6,g0,g1,fB,yk,Fc];cases e1:(bA l 0).known
 ·simp
 cases e2:(bA l 1).known
 ·simp
 simp[g1,fB,Fc];rcases IN (op=7) with o7|o7
 ·subst o7;simp;refine⟨_,wX _,?_⟩;simp
 rcases IN (op=8) with o8|o8
 ·subst o8;simp;refine⟨_,wX _,?_⟩;simp
 simp[o7,o8];obtain⟨b1,b2⟩:=hb (h9 (by omega));refine⟨_,ayQ op _ _ b1 b2,?_⟩;simp;rfl
end Rm
namespace Rm
open Go Go.Proofs Cx
theorem awd (a b s:Nat)(h:a<18446744073709551616)(hb:b<2^s)(ha:a%2^s=0)(hs:s≤64):bX .or .u64 a b=((a+b:Nat):Int):=by
 show IntKind.u64.wrap ((BitVec.ofInt 64 (a:Int)|||BitVec.ofInt 64 (b:Int)).toNat:Nat)=_;have eB:b<18446744073709551616:=lR hb (by have:=Nat.pow_le_pow_right (n:=2) (by decide) hs;simpa using this);have e1:∀n:Nat,n<18446744073709551616→(BitVec.ofInt 64 (n:Int)).toNat=n:=fun n hn=>by simp[BitVec.ofInt,BitVec.toNat_ofNat];omega
 have e:(BitVec.ofInt 64 (a:Int)|||BitVec.ofInt 64 (b:Int)).toNat=a+b:=by
  rw[BitVec.toNat_or,e1 a h,e1 b eB];have e3:a=2^s*(a/2^s):=by have:=As a (2^s);omega
  rw[e3];exact(Nat.two_pow_add_eq_or_of_lt hb (a/2^s)).symm
 have af:a+b<18446744073709551616:=by rw[←e];exact BitVec.isLt _
 rw[e,fu af]
def bl (x L:Nat):Prop:=(L=0→x=0)∧(0<L→2^(L-1)≤x)∧x<2^L∧L≤64
def Mq:ByteArray:=⟨#[0,1,2,2,3,3,3,3,4,4,4,4,4,4,4,4,5,5,5,5,5,5,5,5,5,5,5,5,5,5,5,5,6,6,6,6,6,6,6,6,6,6,6,6,6,6,6,6,6,6,6,6,6,6,6,6,6,6,6,6,6,6,6,6,7,7,7,7,7,7,7,7,7,7,7,7,7,7,7,7,7,7,7,7,7,7,7,7,7,7,7,7,7,7,7,7,7,7,7,7,7,7,7,7,7,7,7,7,7,7,7,7,7,7,7,7,7,7,7,7,7,7,7,7,7,7,7,7,8,8,8,8,8,8,8,8,8,8,8,8,8,8,8,8,8,8,8,8,8,8,8,8,8,8,8,8,8,8,8,8,8,8,8,8,8,8,8,8,8,8,8,8,8,8,8,8,8,8,8,8,8,8,8,8,8,8,8,8,8,8,8,8,8,8,8,8,8,8,8,8,8,8,8,8,8,8,8,8,8,8,8,8,8,8,8,8,8,8,8,8,8,8,8,8,8,8,8,8,8,8,8,8,8,8,8,8,8,8,8,8,8,8,8,8,8,8,8,8,8,8,8,8,8,8,8,8]⟩
def len8 (y:Nat):Nat:=(Mq.data.getD y 0).toNat
theorem atT:(List.range 256).all (fun y=>(len8 y==0&&y==0||Nat.ble (2^(len8 y-1)) y&&Nat.blt 0 (len8 y))&&Nat.blt y (2^len8 y)&&Nat.ble (len8 y) 8)=true:=by kernel_rfl
theorem pD {y:Nat}(h:y<256):((len8 y=0∧y=0)∨(2^(len8 y-1)≤y∧0<len8 y))∧y<2^len8 y∧len8 y≤8:=by
 have:=da.1 atT y (fY.2 h);simp only[aw,lN,beq_iff_eq,Nat.ble_eq,ql] at this;exact⟨this.1.1,this.1.2,this.2⟩
theorem abF {y:Nat}(h:y<256):bl y (len8 y):=by
 obtain⟨h1,h2,h3⟩:=pD h;refine⟨fun h0=>?_,fun h0=>?_,h2,by omega⟩
 ·rcases h1 with h1|h1
  ·exact h1.2
  ·omega
 ·rcases h1 with h1|h1
  ·omega
  ·exact h1.1
theorem QU {x s L:Nat}(hx:2^s≤x)(h:bl (x/2^s) L)(hs:L+s≤64):bl x (L+s):=by
 have hp:0<2^s:=xK s;have hL:0<L:=by
  rcases DT L with h0|h0
  ·have:=h.1 h0;have:=Nat.div_pos hx hp;omega
  ·exact h0
 refine⟨fun h0=>by omega,fun _=>?_,?_,hs⟩
 ·have h1:=h.2.1 hL;have e:L+s-1=(L-1)+s:=by omega
  rw[e,PU];exact(PQ hp).1 h1
 ·rw[PU];exact(xG hp).1 h.2.2.1
@[simp] theorem xm {n:Nat}(h:n<256):IntKind.u8.wrap (n:Int)=n:=by
  show(n:Int)%256=n;omega
theorem atQ:(⟨#[0,1,2,2,3,3,3,3,4,4,4,4,4,4,4,4,5,5,5,5,5,5,5,5,5,5,5,5,5,5,5,5,6,6,6,6,6,6,6,6,6,6,6,6,6,6,6,6,6,6,6,6,6,6,6,6,6,6,6,6,6,6,6,6,7,7,7,7,7,7,7,7,7,7,7,7,7,7,7,7,7,7,7,7,7,7,7,7,7,7,7,7,7,7,7,7,7,7,7,7,7,7,7,7,7,7,7,7,7,7,7,7,7,7,7,7,7,7,7,7,7,7,7,7,7,7,7,7,8,8,8,8,8,8,8,8,8,8,8,8,8,8,8,8,8,8,8,8,8,8,8,8,8,8,8,8,8,8,8,8,8,8,8,8,8,8,8,8,8,8,8,8,8,8,8,8,8,8,8,8,8,8,8,8,8,8,8,8,8,8,8,8,8,8,8,8,8,8,8,8,8,8,8,8,8,8,8,8,8,8,8,8,8,8,8,8,8,8,8,8,8,8,8,8,8,8,8,8,8,8,8,8,8,8,8,8,8,8,8,8,8,8,8,8,8,8,8,8,8,8,8,8,8,8,8,8]⟩:ByteArray)=Mq:=rfl
theorem wk:Mq.size=256:=by kernel_rfl
theorem len8_eq (y:Nat):(Mq.data[y]?.getD 0).toNat=len8 y:=by simp[len8]
def l8 (x:Nat):Nat:=if 256≤x then len8 (x/256)+8 else len8 x
def Cz (x:Nat):Nat:=if 65536≤x then l8 (x/65536)+16 else l8 x
def wh (x:Nat):Nat:=if 4294967296≤x then Cz (x/4294967296)+32 else Cz x
theorem afh {x:Nat}(h:x<65536):bl x (l8 x):=by
 unfold l8;split
 ·rename_i h1;exact QU (s:=8) h1 (abF (by omega)) (by have:=(pD (y:=x/256) (by omega)).2.2;omega)
 ·exact abF (by omega)
theorem afi {x:Nat}(h:x<65536):l8 x≤16:=by
 unfold l8;split
 ·have:=(pD (y:=x/256) (by omega)).2.2;omega
 ·have:=(pD (y:=x) (by omega)).2.2;omega
theorem aff {x:Nat}(h:x<4294967296):bl x (Cz x)∧Cz x≤32:=by
 unfold Cz;split
 ·rename_i h1;have:=afi (x:=x/65536) (by omega);exact⟨QU (s:=16) h1 (afh (by omega)) (by omega),by omega⟩
 ·have:=afi (x:=x) (by omega);exact⟨afh (by omega),by omega⟩
theorem afg {x:Nat}(h:x<18446744073709551616):bl x (wh x):=by
 unfold wh;split
 ·rename_i h1;have:=aff (x:=x/4294967296) (by omega);exact QU (s:=32) h1 this.1 (by omega)
 ·exact(aff (by omega)).1
set_option maxRecDepth 10000 in
set_option maxHeartbeats 1000000 in
theorem atP (x:Nat)(h:x<18446744073709551616):aj T 121 [u x] (.int (wh x:Nat)):=by
 refine .of_tree rfl (lA 115 (by kernel_rfl)) azl ?_;unfold wh Cz l8;simp only[XJ, kO, atQ];have w8:IntKind.i64.wrap 8=8:=aN (by omega);have xc:IntKind.i64.wrap 16=16:=aN (by omega);have xd:IntKind.i64.wrap 24=24:=aN (by omega);have xe:IntKind.i64.wrap 32=32:=aN (by omega);have xf:IntKind.i64.wrap 40=40:=aN (by omega);have xg:IntKind.i64.wrap 48=48:=aN (by omega);have xh:IntKind.i64.wrap 56=56:=aN (by omega);by_cases h1:4294967296≤x
 ·have g1:(4294967296:Int)≤x:=by omega
  generalize kF:x/4294967296=x1 at*;by_cases h2:65536≤x1
  ·have g2:(65536:Int)≤(x1:Nat):=by omega
   generalize vU:x1/65536=x2 at*;by_cases h3:256≤x2
   ·have g3:(256:Int)≤(x2:Nat):=by omega
    have hY:x2/256<256:=by omega
    have hl:=(pD hY).2.2;have k1:IntKind.u8.wrap ((x2/256:Nat):Int)=((x2/256:Nat):Int):=xm hY;have k2:IntKind.i64.wrap ((len8 (x2/256):Nat):Int)=len8 (x2/256):=aN (by omega);have k3:IntKind.i64.wrap (56+(len8 (x2/256):Int))=56+(len8 (x2/256):Int):=aN (by omega);simp[h1,h2,h3,g1,g2,g3,k1,wk,len8_eq,k2,k3,w8,xc,xd,xe,xf,xg,xh,kF,vU,-Int.natCast_ediv];omega
   ·have g3:¬(256:Int)≤(x2:Nat):=by omega
    have hY:x2<256:=by omega
    have hl:=(pD hY).2.2;have k1:IntKind.u8.wrap ((x2:Nat):Int)=((x2:Nat):Int):=xm hY;have k2:IntKind.i64.wrap ((len8 (x2):Nat):Int)=len8 (x2):=aN (by omega);have k3:IntKind.i64.wrap (48+(len8 (x2):Int))=48+(len8 (x2):Int):=aN (by omega);simp[h1,h2,h3,g1,g2,g3,k1,wk,len8_eq,k2,k3,w8,xc,xd,xe,xf,xg,xh,kF,vU,-Int.natCast_ediv];omega
  ·have g2:¬(65536:Int)≤(x1:Nat):=by omega
   by_cases h3:256≤x1
   ·have g3:(256:Int)≤(x1:Nat):=by omega
    have hY:x1/256<256:=by omega
    have hl:=(pD hY).2.2;have k1:IntKind.u8.wrap ((x1/256:Nat):Int)=((x1/256:Nat):Int):=xm hY;have k2:IntKind.i64.wrap ((len8 (x1/256):Nat):Int)=len8 (x1/256):=aN (by omega);have k3:IntKind.i64.wrap (40+(len8 (x1/256):Int))=40+(len8 (x1/256):Int):=aN (by omega);simp[h1,h2,h3,g1,g2,g3,k1,wk,len8_eq,k2,k3,w8,xc,xd,xe,xf,xg,xh,kF,-Int.natCast_ediv];omega
   ·have g3:¬(256:Int)≤(x1:Nat):=by omega
    have hY:x1<256:=by omega
    have hl:=(pD hY).2.2;have k1:IntKind.u8.wrap ((x1:Nat):Int)=((x1:Nat):Int):=xm hY;have k2:IntKind.i64.wrap ((len8 (x1):Nat):Int)=len8 (x1):=aN (by omega);have k3:IntKind.i64.wrap (32+(len8 (x1):Int))=32+(len8 (x1):Int):=aN (by omega);simp[h1,h2,h3,g1,g2,g3,k1,wk,len8_eq,k2,k3,w8,xc,xd,xe,xf,xg,xh,kF,-Int.natCast_ediv];omega
 ·have g1:¬(4294967296:Int)≤x:=by omega
  by_cases h2:65536≤x
  ·have g2:(65536:Int)≤(x:Nat):=by omega
   generalize vU:x/65536=x2 at*;by_cases h3:256≤x2
   ·have g3:(256:Int)≤(x2:Nat):=by omega
    have hY:x2/256<256:=by omega
    have hl:=(pD hY).2.2;have k1:IntKind.u8.wrap ((x2/256:Nat):Int)=((x2/256:Nat):Int):=xm hY;have k2:IntKind.i64.wrap ((len8 (x2/256):Nat):Int)=len8 (x2/256):=aN (by omega);have k3:IntKind.i64.wrap (24+(len8 (x2/256):Int))=24+(len8 (x2/256):Int):=aN (by omega);simp[h1,h2,h3,g1,g2,g3,k1,wk,len8_eq,k2,k3,w8,xc,xd,xe,xf,xg,xh,vU,-Int.natCast_ediv];omega
   ·have g3:¬(256:Int)≤(x2:Nat):=by omega
    have hY:x2<256:=by omega
    have hl:=(pD hY).2.2;have k1:IntKind.u8.wrap ((x2:Nat):Int)=((x2:Nat):Int):=xm hY;have k2:IntKind.i64.wrap ((len8 (x2):Nat):Int)=len8 (x2):=aN (by omega);have k3:IntKind.i64.wrap (16+(len8 (x2):Int))=16+(len8 (x2):Int):=aN (by omega);simp[h1,h2,h3,g1,g2,g3,k1,wk,len8_eq,k2,k3,w8,xc,xd,xe,xf,xg,xh,vU,-Int.natCast_ediv];omega
  ·have g2:¬(65536:Int)≤(x:Nat):=by omega
   by_cases h3:256≤x
   ·have g3:(256:Int)≤(x:Nat):=by omega
    have hY:x/256<256:=by omega
    have hl:=(pD hY).2.2;have k1:IntKind.u8.wrap ((x/256:Nat):Int)=((x/256:Nat):Int):=xm hY;have k2:IntKind.i64.wrap ((len8 (x/256):Nat):Int)=len8 (x/256):=aN (by omega);have k3:IntKind.i64.wrap (8+(len8 (x/256):Int))=8+(len8 (x/256):Int):=aN (by omega);simp[h1,h2,h3,g1,g2,g3,k1,wk,len8_eq,k2,k3,w8,xc,xd,xe,xf,xg,xh,-Int.natCast_ediv];omega
   ·have g3:¬(256:Int)≤(x:Nat):=by omega
    have hY:x<256:=by omega
    have hl:=(pD hY).2.2;have k1:IntKind.u8.wrap ((x:Nat):Int)=((x:Nat):Int):=xm hY;have k2:IntKind.i64.wrap ((len8 (x):Nat):Int)=len8 (x):=aN (by omega);have k3:IntKind.i64.wrap (0+(len8 (x):Int))=0+(len8 (x):Int):=aN (by omega);simp[h1,h2,h3,g1,g2,g3,k1,wk,len8_eq,k2,k3,w8,xc,xd,xe,xf,xg,xh,-Int.natCast_ediv];omega
end Rm
namespace Rm
open Go Go.Proofs Cx
theorem ace {v1 v0 u32 d:Nat}(hv:0<v1)(hd:d<4294967296)(hu:u32<v1*4294967296+v0):(u32*4294967296+d)/(v1*4294967296+v0)≤u32/v1:=by
 have h1:(u32*4294967296+d)/(v1*4294967296+v0)≤(u32*4294967296+d)/(v1*4294967296):=Nat.div_le_div_left (by omega) (by omega);have h2:(u32*4294967296+d)/(v1*4294967296)=u32/v1:=by
  rw[xI v1,←Nat.div_div_eq_div_mul]
  congr 1;omega
 omega
theorem ach {v1 v0 u32:Nat}(eT:v0<4294967296)(aL:2147483648≤v1)(hu:u32<v1*4294967296+v0):u32/v1≤4294967297:=by
 have h1:u32/v1*v1≤u32:=Nat.div_mul_le_self u32 v1;have h2:u32/v1*v1<4294967298*v1:=by omega
 have:=Nat.lt_of_mul_lt_mul_right h2;omega
theorem Rn (q v1 v0:Nat):q*(v1*4294967296+v0)=q*v1*4294967296+q*v0:=by rw[Nat.mul_add,tM]
theorem acg {v1 v0 u32 d q r:Nat}(hu:u32<v1*4294967296+v0)(hd:d<4294967296)(h1:q*v1+r=u32)(c:4294967296≤q∨4294967296*r+d<q*v0):(u32*4294967296+d)/(v1*4294967296+v0)<q:=by
 rw[xG (by omega)];rcases c with c|c
 ·have h2:4294967296*(v1*4294967296+v0)≤q*(v1*4294967296+v0):=ff _ c;omega
 ·rw[Rn];omega
theorem acf {v1 v0 u32 d q r:Nat}(hv:0<v1)(h1:q*v1+r=u32)(c:q*v0≤4294967296*r+d):q≤(u32*4294967296+d)/(v1*4294967296+v0):=by
 rw[PQ (by omega),Rn];omega
theorem acd {v1 v0 u32 d q r:Nat}(eT:v0<4294967296)(h1:q*v1+r=u32)(hu:u32<v1*4294967296+v0)(c:4294967296≤r):q≤(u32*4294967296+d)/(v1*4294967296+v0):=by
 have hv:0<v1*4294967296+v0:=by omega
 have hq:q<4294967296:=by
  rcases I4 q 4294967296 with h|h
  ·exact h
  ·have:4294967296*v1≤q*v1:=ff _ h;omega
 have h2:q*v0≤4294967295*4294967295:=rV (by omega) (by omega);rw[PQ hv,Rn];omega
theorem atX (ρ:Env)(q0 r0 v1 v0 u32 d:Nat)(eT:v0<4294967296)(aL:2147483648≤v1)(atb:v1<4294967296)(hd:d<4294967296)(hu:u32<v1*4294967296+v0)
 (hq:q0=u32/v1) (hr:r0=u32%v1) (h9:ρ.r 9=u v1) (jk:ρ.r 10=u v0) (yy:ρ.r 13=u d) (yM:ρ.r 15=u q0) (Tn:ρ.r 16=u r0) (K:Env→Prop) (Q:Out→Prop)
 (hK:∀ρ':Env,ρ'.r 15=u ((u32*4294967296+d)/(v1*4294967296+v0))→(∀t,t∉[15,16,67,68,69,78]→ρ'.r t=ρ.r t)→K ρ'):aK T (Gu xS) ρ (gC K Q):=by
 have dm:=fun q r=>acg (v1:=v1) (v0:=v0) (u32:=u32) (d:=d) (q:=q) (r:=r) hu hd;have dl:=fun q r=>acf (v1:=v1) (v0:=v0) (u32:=u32) (d:=d) (q:=q) (r:=r) (by omega);have dd:=fun q r=>acd (v1:=v1) (v0:=v0) (u32:=u32) (d:=d) (q:=q) (r:=r) eT;have di:=ace (v1:=v1) (v0:=v0) (u32:=u32) (d:=d) (by omega) hd hu;have hQ0:0≤(u32*4294967296+d)/(v1*4294967296+v0):=kU _;generalize (u32*4294967296+d)/(v1*4294967296+v0)=QQ at*;refine aK.forLoop (α:=Nat×Nat) (fun s vr vo=>s.1*v1+s.2=u32∧QQ≤s.1∧s.2<4294967296∧s.1≤4294967297∧vr=[u s.1,u s.2]∧vo=[]) (fun s=>s.1) (q0,r0) ⟨?_,?_,?_,?_,?_,rfl⟩ ?_
 ·subst hq hr;exact DS u32 v1
 ·subst hq;exact di
 ·subst hr;have:=nr u32 (show v1>0 by omega);omega
 ·subst hq;exact ach eT aL hu
 ·simp[yM,Tn]
 ·rintro⟨q,r⟩ vr vo ⟨h1,h2,h3,h4,rfl,rfl⟩;dsimp only at h1 h2 h3 h4;have hm:q*v0≤4294967297*4294967295:=rV h4 (by omega);have w1:IntKind.u64.wrap ((q:Int)*(v0:Int))=(q*v0:Nat):=by rw[←Int.natCast_mul];exact fu (by omega)
  have w2:IntKind.u64.wrap (4294967296*(r:Int))=(4294967296*r:Nat):=by rw[km (by omega)];omega
  have w3:IntKind.u64.wrap (((4294967296*r:Nat):Int)+(d:Int))=(4294967296*r+d:Nat):=by rw[km (by omega)];omega
  have dm:=dm q r h1;have dl:=dl q r h1;generalize q*v0=M at*;by_cases c:4294967296≤q∨4294967296*r+d<M
  ·have af:=dm c;have w4:IntKind.u64.wrap ((q:Int)-1)=(q-1:Nat):=by rw[km (by omega)];omega
   have w5:IntKind.u64.wrap ((r:Int)+(v1:Int))=(r+v1:Nat):=by rw[km (by omega)];omega
   have e1:(q-1)*v1+(r+v1)=u32:=by rw[DY,PS];have:v1≤q*v1:=aa9 v1 (by omega);omega
   have ua:(4294967296:Int)≤(q:Int)∨4294967296*r+d<M:=by omega
   by_cases c2:4294967296≤r+v1
   ·have xW:(4294967296:Int)≤((r+v1:Nat):Int):=by omega
    have:=dd _ _ e1 hu c2;have e2:q-1=QQ:=by omega
    simp[V2,He,h9,jk,yy,w1,w2,w3,w4,w5,ua,xW,-Int.natCast_add,-Int.natCast_mul];refine hK _ ?_ ?_
    ·simp[w4,e2]
    ·intro t ht;simp at ht;simp[ht]
   ·have xW:¬(4294967296:Int)≤((r+v1:Nat):Int):=by omega
    simp[V2,He,h9,jk,yy,w1,w2,w3,w4,w5,ua,xW,-Int.natCast_add,-Int.natCast_mul];exact⟨q-1,by omega,r+v1,e1,by omega,by omega,by omega,rfl,rfl⟩
  ·have:=dl (by omega);have e2:q=QQ:=by omega
   have ua:¬((4294967296:Int)≤(q:Int)):=by omega
   have QX:¬(4294967296*r+d<M):=by omega
   simp[V2,He,h9,jk,yy,w1,w2,w3,ua,QX,-Int.natCast_add,-Int.natCast_mul];refine hK _ ?_ ?_
   ·simp[e2]
   ·intro t ht;simp at ht;simp[ht]
theorem atY (ρ:Env)(q0 r0 v1 v0 u32 d:Nat)(eT:v0<4294967296)(aL:2147483648≤v1)(atb:v1<4294967296)(hd:d<4294967296)(hu:u32<v1*4294967296+v0)
 (hq:q0=u32/v1) (hr:r0=u32%v1) (h9:ρ.r 9=u v1) (jk:ρ.r 10=u v0) (yy:ρ.r 14=u d) (yM:ρ.r 18=u q0) (Tn:ρ.r 16=u r0) (K:Env→Prop) (Q:Out→Prop)
 (hK:∀ρ':Env,ρ'.r 18=u ((u32*4294967296+d)/(v1*4294967296+v0))→(∀t,t∉[16,18,102,103,104,113]→ρ'.r t=ρ.r t)→K ρ'):aK T (Gv xS) ρ (gC K Q):=by
 have dm:=fun q r=>acg (v1:=v1) (v0:=v0) (u32:=u32) (d:=d) (q:=q) (r:=r) hu hd;have dl:=fun q r=>acf (v1:=v1) (v0:=v0) (u32:=u32) (d:=d) (q:=q) (r:=r) (by omega);have dd:=fun q r=>acd (v1:=v1) (v0:=v0) (u32:=u32) (d:=d) (q:=q) (r:=r) eT;have di:=ace (v1:=v1) (v0:=v0) (u32:=u32) (d:=d) (by omega) hd hu;have hQ0:0≤(u32*4294967296+d)/(v1*4294967296+v0):=kU _;generalize (u32*4294967296+d)/(v1*4294967296+v0)=QQ at*;refine aK.forLoop (α:=Nat×Nat) (fun s vr vo=>s.1*v1+s.2=u32∧QQ≤s.1∧s.2<4294967296∧s.1≤4294967297∧vr=[u s.2,u s.1]∧vo=[]) (fun s=>s.1) (q0,r0) ⟨?_,?_,?_,?_,?_,rfl⟩ ?_
 ·subst hq hr;exact DS u32 v1
 ·subst hq;exact di
 ·subst hr;have:=nr u32 (show v1>0 by omega);omega
 ·subst hq;exact ach eT aL hu
 ·simp[yM,Tn]
 ·rintro⟨q,r⟩ vr vo ⟨h1,h2,h3,h4,rfl,rfl⟩;dsimp only at h1 h2 h3 h4;have hm:q*v0≤4294967297*4294967295:=rV h4 (by omega);have w1:IntKind.u64.wrap ((q:Int)*(v0:Int))=(q*v0:Nat):=by rw[←Int.natCast_mul];exact fu (by omega)
  have w2:IntKind.u64.wrap (4294967296*(r:Int))=(4294967296*r:Nat):=by rw[km (by omega)];omega
  have w3:IntKind.u64.wrap (((4294967296*r:Nat):Int)+(d:Int))=(4294967296*r+d:Nat):=by rw[km (by omega)];omega
  have dm:=dm q r h1;have dl:=dl q r h1;generalize q*v0=M at*;by_cases c:4294967296≤q∨4294967296*r+d<M
  ·have af:=dm c;have w4:IntKind.u64.wrap ((q:Int)-1)=(q-1:Nat):=by rw[km (by omega)];omega
   have w5:IntKind.u64.wrap ((r:Int)+(v1:Int))=(r+v1:Nat):=by rw[km (by omega)];omega
   have e1:(q-1)*v1+(r+v1)=u32:=by rw[DY,PS];have:v1≤q*v1:=aa9 v1 (by omega);omega
   have ua:(4294967296:Int)≤(q:Int)∨4294967296*r+d<M:=by omega
   by_cases c2:4294967296≤r+v1
   ·have xW:(4294967296:Int)≤((r+v1:Nat):Int):=by omega
    have:=dd _ _ e1 hu c2;have e2:q-1=QQ:=by omega
    simp[V3,Hf,h9,jk,yy,w1,w2,w3,w4,w5,ua,xW,-Int.natCast_add,-Int.natCast_mul];refine hK _ ?_ ?_
    ·simp[w4,e2]
    ·intro t ht;simp at ht;simp[ht]
   ·have xW:¬(4294967296:Int)≤((r+v1:Nat):Int):=by omega
    simp[V3,Hf,h9,jk,yy,w1,w2,w3,w4,w5,ua,xW,-Int.natCast_add,-Int.natCast_mul];exact⟨q-1,by omega,r+v1,e1,by omega,by omega,by omega,rfl,rfl⟩
  ·have:=dl (by omega);have e2:q=QQ:=by omega
   have ua:¬((4294967296:Int)≤(q:Int)):=by omega
   have QX:¬(4294967296*r+d<M):=by omega
   simp[V3,Hf,h9,jk,yy,w1,w2,w3,ua,QX,-Int.natCast_add,-Int.natCast_mul];refine hK _ ?_ ?_
   ·simp[e2]
   ·intro t ht;simp at ht;simp[ht]
end Rm
namespace Rm
open Go Go.Proofs Cx
def bR:Nat→List Cell→Tm→Cell
 |0,_,_=>fa
 |L+1,cs,t=>if t.op=0∨t.op=1 then⟨true,t.n⟩ else if t.op=2 then mh cs t.n else
   if t.op=6∧(bA (t.args.map (bR L cs)) 0).known=true then bA (t.args.map (bR L cs)) (2-(bA (t.args.map (bR L cs)) 0).n).toNat else iM t.op (t.args.map (bR L cs))
def eI:Nat→List Cell→Tm→List Int
 |0,_,_=>[]
 |L+1,cs,t=>if t.op=0∨t.op=1 then[] else if t.op=2 then(if(mh cs t.n).known=true then[] else[t.n]) else
   if t.op=6∧(bA (t.args.map (bR L cs)) 0).known=true then(t.args.map (eI L cs)).getD (2-(bA (t.args.map (bR L cs)) 0).n).toNat [] else
   if(iM t.op (t.args.map (bR L cs))).known=true then[] else(t.args.map (eI L cs)).flatten
theorem K8 (L:Nat)(cs:List Cell)(t:Tm):bR (L+1) cs t=if t.op=0∨t.op=1 then⟨true,t.n⟩ else if t.op=2 then mh cs t.n else
 if t.op=6∧(bA (t.args.map (bR L cs)) 0).known=true then bA (t.args.map (bR L cs)) (2-(bA (t.args.map (bR L cs)) 0).n).toNat else iM t.op (t.args.map (bR L cs)):=rfl
theorem ME (L:Nat)(cs:List Cell)(t:Tm):eI (L+1) cs t=if t.op=0∨t.op=1 then[] else if t.op=2 then(if(mh cs t.n).known=true then[] else[t.n]) else
 if t.op=6∧(bA (t.args.map (bR L cs)) 0).known=true then(t.args.map (eI L cs)).getD (2-(bA (t.args.map (bR L cs)) 0).n).toNat [] else
 if(iM t.op (t.args.map (bR L cs))).known=true then[] else(t.args.map (eI L cs)).flatten:=rfl
theorem Rb {L:Nat}{t:Tm}{k:Int}(h:cE (L+1) t=(k,0)):(∀a,a∈t.args→(cE L a).2=0)∧zi t (t.args.map fun a=>(cE L a).1)=(k,0):=by
 rw[Ra] at h;by_cases e:fM t.args.length (fun k=>(cE L (t.args.getD k default)).2)=0
 ·rw[if_neg (by simpa using e)] at h;refine⟨fun a ha=>?_,h⟩;obtain⟨j,hj,rfl⟩:=fX ha;have:=RF.1 e j hj;simpa [hj] using this
 ·rw[if_pos e] at h;injection h with _ h
  exact absurd h e
inductive Node (ks:List Int) (t:Tm):Int→Prop where
 |int (h:t.op=0) (ha:t.args=[]) (hn:-1099511627776≤t.n∧t.n≤1099511627776):Node ks t 0
 |bool (h:t.op=1) (ha:t.args=[]) (hn:t.n=0∨t.n=1):Node ks t 1
 |var (h:t.op=2) (ha:t.args=[]) (hn:0≤t.n∧t.n≤19):Node ks t (nj t.n).1
 |not (h:t.op=3) (hk:ks=[1]):Node ks t 1
 |log (h:t.op=4∨t.op=5) (hk:ks=[1,1]):Node ks t 1
 |ite (k:Int) (h:t.op=6) (hk:ks=[1,k,k]):Node ks t k
 |less (h:t.op=7) (hk:ks=[0,0]):Node ks t 1
 |equal (k:Int) (h:t.op=8) (hk:ks=[k,k]):Node ks t 1
 |num (h:9≤t.op∧t.op≤13) (hk:ks=[0,0]):Node ks t 0
theorem aBT (v:Int):(nj v).1=0∨(nj v).1=1:=by
 unfold nj;repeat' split
 all_goals simp
theorem avG {t:Tm}{ks:List Int}{k:Int}(hl:ks.length=t.args.length)(jE:∀x,x∈ks→x=0∨x=1)(h:zi t ks=(k,0)):Node ks t k:=by
 unfold zi at h;split at h
 ·injection h with _ h;cases h
 rename_i eE;split at h
 ·rename_i h3;unfold Gp at h;split at h
  ·injection h with _ h;cases h
  rename_i ha0;have ha:t.args=[]:=Pz (by omega);split at h
  ·rename_i h0;split at h
   ·injection h with _ h;cases h
   ·rename_i hc;injection h with h _
    subst h;refine .int h0 ha ?_;unfold qz at hc;omega
  split at h
  ·rename_i h0;split at h
   ·injection h with _ h;cases h
   ·rename_i hc;injection h with h _
    subst h;exact .bool h0 ha (by omega)
  split at h
  ·injection h with _ h;cases h
  ·rename_i g0 g1 hc;injection h with h _
   subst h;refine .var (by omega) ha ?_;unfold nj at hc;split at hc
   ·simp at hc
   ·omega
 rename_i h3;split at h
 ·injection h with _ h;cases h
 rename_i hlen;have pj:ks.length=(fq t.op).1.length:=by
  refine DN fun hh=>hlen (.inl hh)
 split at h
 ·injection h with _ h;cases h
 rename_i ax;have j7:∀j,j<(fq t.op).1.length→pC (fq t.op).1 ks j=true:=xP.1 (by simpa using ax)
 have two:∀{n:Nat},ks.length=2→∃a b,ks=[a,b]:=fun h=>by
  match ks,h with
  |[a,b],_=>exact⟨a,b,rfl⟩
 by_cases o3:t.op=3
 ·have e:fq t.op=([1],1):=by simp[fq,o3]
  rw[e] at pj j7 h
  match ks,pj with
  |[a],_=>
   have:=j7 0 (by simp);simp[pC] at this;simp at h;subst h this;exact .not o3 rfl
 by_cases ML:t.op=4∨t.op=5
 ·have e:fq t.op=([1,1],1):=by simp[fq,o3,ML]
  rw[e] at pj j7 h
  match ks,pj with
  |[a,b],_=>
   have t1:=j7 0 (by simp);have t2:=j7 1 (by simp);simp[pC] at t1 t2;simp at h;subst h t1 t2;exact .log ML rfl
 by_cases o6:t.op=6
 ·have e:fq t.op=([1,-1,-1],-1):=by simp[fq,o6]
  rw[e] at pj j7 h
  match ks,pj,jE with
  |[a,b,c],_,jE=>
   have t1:=j7 0 (by simp);have t3:=j7 2 (by simp);have hb:=jE b (by simp);have sv:¬b=-1:=by omega
   simp[pC] at t1;simp[pC,oh,sv] at t3;simp[oh,sv] at h;subst h t1 t3;exact .ite _ o6 rfl
 by_cases o7:t.op=7
 ·have e:fq t.op=([0,0],1):=by simp[fq,o7]
  rw[e] at pj j7 h
  match ks,pj with
  |[a,b],_=>
   have t1:=j7 0 (by simp);have t2:=j7 1 (by simp);simp[pC] at t1 t2;simp at h;subst h t1 t2;exact .less o7 rfl
 by_cases o8:t.op=8
 ·have e:fq t.op=([-1,-1],1):=by simp[fq,o8]
  rw[e] at pj j7 h
  match ks,pj,jE with
  |[a,b],_,jE=>
   have t2:=j7 1 (by simp);have ha:=jE a (by simp);have han:¬a=-1:=by omega
   simp[pC,oh,han] at t2;simp at h;subst h t2;exact .equal _ o8 rfl
 have e:fq t.op=([0,0],0):=by simp[fq,o3,ML,o6,o7,o8]
 rw[e] at pj j7 h
 match ks,pj with
 |[a,b],_=>
  have t1:=j7 0 (by simp);have t2:=j7 1 (by simp);simp[pC] at t1 t2;simp at h;subst h t1 t2;exact .num (by omega) rfl
theorem Rc:∀{L:Nat} {t:Tm} {k:Int},cE (L+1) t=(k,0)→Node (t.args.map fun a=>(cE L a).1) t k∧(k=0∨k=1)
 |L,t,k,h=>by
  obtain⟨h1,h2⟩:=Rb h
  have jE:∀x,x∈(t.args.map fun a=>(cE L a).1)→x=0∨x=1:=by
   intro x hx;obtain⟨a,ha,rfl⟩:=cu.1 hx;cases L with
   |zero=>exact .inl rfl
   |succ L=>exact(Rc (L:=L) (t:=a) (k:=(cE (L+1) a).1) (by rw[←h1 a ha])).2
  have hn:=avG (by simp) jE h2;refine⟨hn,?_⟩;cases hn with
  |int=>simp
  |bool=>simp
  |var=>exact aBT _
  |not=>simp
  |log=>simp
  |ite k _ hk=>exact jE k (by rw[hk];simp)
  |less=>simp
  |equal=>simp
  |num=>simp
end Rm
namespace Rm
open Go Go.Proofs Cx
def xN (k:Int)(c:Cell):Prop:=(c.known=false→c=fa)∧(c.known=true→(k=1→c.n=0∨c.n=1)∧(k=0→-1099511627776≤c.n∧c.n≤1099511627776))
theorem wM (k:Int):xN k fa:=⟨fun _=>rfl,fun h=>by cases h⟩
theorem Dp (b:Bool):xN 1 (iz b):=⟨fun h=>(by cases b<;>cases h),fun _=>⟨fun _=>(by cases b<;>simp[iz]),fun h=>by cases h⟩⟩
theorem Rj (n:Int):-1099511627776≤qz n∧qz n≤1099511627776:=by unfold qz;omega
theorem axY (cs:List Cell)(v:Int)(hv:0≤v∧v≤19):xN (nj v).1 (mh cs v):=by
 unfold mh;split
 ·exact wM _
 ·split
  ·rename_i h;rw[h];exact Dp _
  ·rename_i h;refine⟨fun h=>(by cases h),fun _=>⟨fun h'=>absurd h' h,fun _=>Rj _⟩⟩
theorem awT (a b:Int):-1099511627776≤CV a b∧CV a b≤1099511627776:=by
 unfold CV;have:=ain (a.natAbs*b.natAbs);split<;>omega
theorem alH (op a b:Int)(ha:-1099511627776≤a∧a≤1099511627776)(hb:-1099511627776≤b∧b≤1099511627776):-1099511627776≤Ay op a b∧Ay op a b≤1099511627776:=by
 unfold Ay;split
 ·exact Rj _
 split
 ·exact Rj _
 split
 ·exact awT _ _
 split<;>omega
theorem avq {α β:Type}{f:α→β}{l:List α}{x:β}(h:l.map f=[x]):∃a,l=[a]∧f a=x:=by
 match l,h with
 |[a],h=>exact⟨a,rfl,by simpa using h⟩
theorem CC {α β:Type}{f:α→β}{l:List α}{x y:β}(h:l.map f=[x,y]):∃a b,l=[a,b]∧f a=x∧f b=y:=by
 match l,h with
 |[a,b],h=>exact⟨a,b,rfl,by simpa using h⟩
theorem T7 {α β:Type}{f:α→β}{l:List α}{x y z:β}(h:l.map f=[x,y,z]):∃a b c,l=[a,b,c]∧f a=x∧f b=y∧f c=z:=by
 match l,h with
 |[a,b,c],h=>exact⟨a,b,c,rfl,by simpa using h⟩
theorem acB:∀{L:Nat} {t:Tm} {k:Int} (cs:List Cell),cE L t=(k,0)→xN k (bR L cs t)
 |0,t,k,cs,h=>wM _
 |L+1,t,k,cs,h=>by
  obtain⟨hn,hk⟩:=Rc h;obtain⟨ha,_⟩:=Rb h;have ih:∀a,a∈t.args→xN (cE L a).1 (bR L cs a):=fun a hm=>acB cs (show cE L a=((cE L a).1,0) by rw[←ha a hm]);rw[K8];cases hn with
  |int h0 ha hn=>rw[if_pos (.inl h0)];exact⟨fun h=>(by cases h),fun _=>⟨fun h=>(by cases h),fun _=>hn⟩⟩
  |bool h0 ha hn=>rw[if_pos (.inr h0)];exact⟨fun h=>(by cases h),fun _=>⟨fun _=>hn,fun h=>by cases h⟩⟩
  |var h0 ha hn=>rw[if_neg (by omega),if_pos h0];exact axY cs _ hn
  |not h0 hk=>
   rw[if_neg (by omega),if_neg (by omega),if_neg (by omega)];unfold iM;rw[if_pos h0];split
   ·exact Dp _
   ·exact wM _
  |log h0 hk=>
   rw[if_neg (by omega),if_neg (by omega),if_neg (by omega)];unfold iM;rw[if_neg (by omega)];split
   ·exact Dp _
   rw[if_neg (by omega)];split
   ·exact wM _
   exact Dp _
  |ite k h0 cB=>
   obtain⟨a,b,c,hl,e1,e2,e3⟩:=T7 cB;rw[hl] at ih ⊢;have r1:=ih a (by simp);have r2:=ih b (by simp);have r3:=ih c (by simp);rw[e1] at r1;rw[e2] at r2;rw[e3] at r3;rw[if_neg (by omega),if_neg (by omega)];simp only[jc,List.map_nil,bA,oI];split
   ·rename_i hh;rcases(r1.2 hh.2).1 rfl with h1|h1<;>rw[h1]
    ·exact r3
    ·exact r2
   ·unfold iM;rw[if_neg (by omega),if_neg (by omega),if_pos h0];simp only[bA,oI,xx];split
    ·exact r2
    ·exact wM _
  |less h0 hk=>
   rw[if_neg (by omega),if_neg (by omega),if_neg (by omega)];unfold iM;rw[if_neg (by omega),if_neg (by omega),if_neg (by omega)];split
   ·exact wM _
   repeat' split
   all_goals exact Dp _
  |equal k h0 hk=>
   rw[if_neg (by omega),if_neg (by omega),if_neg (by omega)];unfold iM;rw[if_neg (by omega),if_neg (by omega),if_neg (by omega)];split
   ·exact wM _
   repeat' split
   all_goals exact Dp _
  |num h0 cB=>
   obtain⟨a,b,hl,e1,e2⟩:=CC cB;rw[hl] at ih ⊢;have r1:=ih a (by simp);have r2:=ih b (by simp);rw[e1] at r1;rw[e2] at r2;rw[if_neg (by omega),if_neg (by omega),if_neg (by omega)];unfold iM;rw[if_neg (by omega),if_neg (by omega),if_neg (by omega)];simp only[jc,List.map_nil,bA,oI,xx];split
   ·exact wM _
   rename_i FH;rw[if_neg (by omega),if_neg (by omega),if_neg (by omega)];have k1:(bR L cs a).known=true:=by
    cases e:(bR L cs a).known with
    |true=>rfl
    |false=>exact absurd (.inl e) FH
   have k2:(bR L cs b).known=true:=by
    cases e:(bR L cs b).known with
    |true=>rfl
    |false=>exact absurd (.inr e) FH
   exact⟨fun h=>(by cases h),fun _=>⟨fun h=>(by cases h),fun _=>alH _ _ _ ((r1.2 k1).2 rfl) ((r2.2 k2).2 rfl)⟩⟩
theorem af3:∀(L:Nat) (cs:List Cell) (t:Tm),cX L t≤60→((eI L cs t).length:Int)≤cX L t
 |0,cs,t,h=>by simp[cX] at h
 |L+1,cs,t,h=>by
  have h1:=zg (L+1) t;obtain⟨hl,hp⟩:=T9 h;have hs:∀(l:List Tm) (n:Int),(∀a,a∈l→cX L a≤60)→fQ (cX L) l n≤60→((l.map (eI L cs)).flatten.length:Int)+n≤fQ (cX L) l n∧∀j,(((l.map (eI L cs)).getD j []).length:Int)+n≤fQ (cX L) l n:=by
   intro l
   induction l with
   |nil=>intro n _ _;simp[fQ]
   |cons a l ih=>
    intro n hp hm;have ha:=af3 L cs a (hp a (by simp));unfold fQ at hm ⊢;split at hm
    ·omega
    ·rename_i h60;rw[if_neg h60];obtain⟨i1,i2⟩:=ih (n+cX L a) (fun b hb=>hp b (by simp[hb])) hm;refine⟨by rw[jc,aaW,mm];omega,fun j=>?_⟩;cases j with
     |zero=>simp;omega
     |succ j=>have:=i2 j;simp at this ⊢;omega
  obtain⟨L9,dT⟩:=hs t.args 1 hp h;rw[ME];split
  ·simp;omega
  split
  ·split<;>simp<;>omega
  split
  ·have:=dT (2-(bA (t.args.map (bR L cs)) 0).n).toNat;show _≤fQ _ _ _;omega
  split
  ·simp;omega
  ·show _≤fQ _ _ _;omega
@[simp] theorem aJi (x y:List Int):wV (ints x) 0 (ints y)=ints y:=_root_.id rfl
@[simp] theorem ayA (x y:Cell):wV (dg x) 0 (dg y)=dg y:=_root_.id rfl
@[simp] theorem aHU (a b:List Int):D.list (a.map D.int++b.map D.int)=ints (a++b):=by simp[ints]
def lists (l:List (List Int)):D:=.list (l.map ints)
@[simp] theorem aH6 (l:List (List Int)):(lists l).l=l.map ints:=_root_.id rfl
theorem akM (l:List (List Int))(hl:l.length≤1000)(hs:l.flatten.length≤1000000):aj T 221 [lists l] (ints l.flatten):=by
 refine .of_tree rfl (lA 59 (by kernel_rfl)) aA5 ?_;simp[Zv];have hb:∀k,(l.take k).flatten.length≤l.flatten.length:=by
  intro k
  conv=>rhs;rw[←I1 k l]
  rw[List.flatten_append,mm];omega
 have bD:∀k (hk:k<l.length),(l.take (k+1)).flatten=(l.take k).flatten++l[k]:=fun k hk=>by
  rw[il hk,List.flatten_append];simp
 refine aK.forRounds l.length (fun k=>[.int ((l.take k).flatten.length:Nat),.int k]) (fun k=>[]) ?_ (fun k hk=>?_) ?_
 ·simp
 ·have hw:=bu hk (by omega);have h1:=bD k hk;have h2:=hb (k+1);rw[h1] at h2 ⊢;rw[mm] at h2 ⊢;generalize (l.take k).flatten.length=m at*;have uH:IntKind.i64.wrap ((m:Int)+(l[k].length:Int))=(m:Int)+l[k].length:=aN (by omega);have FP:¬((m:Int)+l[k].length<0):=by omega
  simp[ajr,Oj,hk,hw,uH,FP]
 ·simp[ajr,Oj];have fD:aj T 231 [.list [],.int (l.flatten.length:Nat)] (.list []):=by
   refine .of_ext (g:=fun _ ds=>Lh ds) rfl ⟨0,fun _ _=>?_⟩;show(if(0:Int)≤(l.flatten.length:Nat)∧((l.flatten.length:Nat):Int)≤4294967296 then some (D.list []) else none)=some (D.list []);rw[if_pos (by omega)]
  rw[List.length_flatten] at fD;refine⟨_,fD,?_⟩;refine aK.forRounds l.length (fun k=>[.none,.int k]) (fun k=>[ints (l.take k).flatten]) ?_ (fun k hk=>?_) ?_
  ·simp[ints]
  ·have hw:=bu hk (by omega);have h1:=bD k hk;have h2:=hb (k+1);rw[h1] at h2 ⊢;rw[mm] at h2;generalize (l.take k).flatten=m at*;simp[ajs,Ol,hk,hw];omega
  ·simp[ajs,Ol]
theorem amU {op:Int}{l:List Cell}(h:(iM op l).known=false):iM op l=fa:=by
 have hy:∀b,(iz b).known=true:=fun b=>by cases b<;>simp[iz]
 unfold iM at h ⊢;split<;>rename_i c1
 ·rw[if_pos c1] at h;split<;>rename_i c2
  ·rw[if_pos c2,hy] at h;cases h
  ·rfl
 rw[if_neg c1] at h;split<;>rename_i c2
 ·rw[if_pos c2,hy] at h;cases h
 rw[if_neg c2] at h;split<;>rename_i c3
 ·rw[if_pos c3] at h;split<;>rename_i c4
  ·rw[if_pos c4,c4.1] at h;cases h
  ·rfl
 rw[if_neg c3] at h;split<;>rename_i c4
 ·rfl
 rw[if_neg c4] at h
 repeat' split at h
 all_goals first|(rw[hy] at h;cases h)|cases h
theorem aj8:∀(L:Nat) (cs:List Cell) (t:Tm) (k:Int),t.OK→cX L t≤60→cE L t=(k,0)→aj T 202 [Rw cs,dP t] (.tup [dg (bR L cs t),ints (eI L cs t)])
 |0,cs,t,k,ht,hm,hc=>by simp[cX] at hm
 |L+1,cs,t,k,ht,hm,hc=>by
  refine .of_tree rfl (lA 52 (by kernel_rfl)) aBv ?_;obtain⟨hl,hp⟩:=T9 hm;obtain⟨ha,_⟩:=Rb hc;obtain⟨hn,aHm⟩:=Rc hc;have jr:∀a,a∈t.args→aj T 202 [Rw cs,dP a] (.tup [dg (bR L cs a),ints (eI L cs a)]):=fun a fE=>aj8 L cs a (cE L a).1 (ht.arg fE) (hp a fE) (by rw[←ha a fE]);have yO:∀a,a∈t.args→xN (cE L a).1 (bR L cs a):=fun a fE=>acB cs (show cE L a=((cE L a).1,0) by rw[←ha a fE]);have hnl:∀a,a∈t.args→(eI L cs a).length≤60:=fun a fE=>by have:=af3 L cs a (hp a fE);have:=hp a fE;omega
  by_cases jE:t.op=0∨t.op=1
  ·
   have e1:bR (L+1) cs t=⟨true,t.n⟩:=by rw[K8,if_pos jE]
   have e2:eI (L+1) cs t=[]:=by rw[ME,if_pos jE]
   rw[e1,e2];rcases jE with h|h<;>simp[IB,h]<;>exact⟨rfl,rfl⟩
  have o0:t.op≠0:=fun h=>jE (.inl h);have o1:t.op≠1:=fun h=>jE (.inr h);by_cases o2:t.op=2
  ·have hv:0≤t.n:=by
    cases hn with
    |var h0 ha hn=>exact hn.1
    |_=>omega
   have e1:bR (L+1) cs t=mh cs t.n:=by rw[K8,if_neg jE,if_pos o2]
   have e2:eI (L+1) cs t=if(mh cs t.n).known=true then[] else[t.n]:=by rw[ME,if_neg jE,if_pos o2]
   rw[e1,e2];simp[IB,o2];refine⟨_,ayV cs t.n hv,?_⟩;cases e:(mh cs t.n).known
   ·have:mh cs t.n=fa:=by
     unfold mh at e ⊢;split
     ·rfl
     ·rename_i h;rw[if_neg h] at e;split at e
      ·cases hb:decide ((cellAt cs t.n).n≠0)<;>rw[hb] at e<;>cases e
      ·cases e
    rw[this];simp[ints]
   ·have h:mh cs t.n=⟨true,(mh cs t.n).n⟩:=by rw[←e]
    rw[h];simp[ints]
    try rfl
  have hlen:1≤t.args.length∧(t.op≠3→2≤t.args.length)∧(t.op=6→3≤t.args.length):=by
   cases hn with
   |int h0 ha hn=>omega
   |bool h0 ha hn=>omega
   |var h0 ha hn=>omega
   |not h0 hk=>obtain⟨a,hl,_⟩:=avq hk;rw[hl];simp;omega
   |log h0 hk=>obtain⟨a,b,hl,_⟩:=CC hk;rw[hl];simp;omega
   |ite k h0 hk=>obtain⟨a,b,c,hl,_⟩:=T7 hk;rw[hl];simp
   |less h0 hk=>obtain⟨a,b,hl,_⟩:=CC hk;rw[hl];simp;omega
   |equal k h0 hk=>obtain⟨a,b,hl,_⟩:=CC hk;rw[hl];simp;omega
   |num h0 hk=>obtain⟨a,b,hl,_⟩:=CC hk;rw[hl];simp;omega
  have hb9:9≤t.op→(-1099511627776≤(bA (t.args.map (bR L cs)) 0).n∧(bA (t.args.map (bR L cs)) 0).n≤1099511627776)∧(-1099511627776≤(bA (t.args.map (bR L cs)) 1).n∧(bA (t.args.map (bR L cs)) 1).n≤1099511627776):=by
   intro h9;have rb:∀c:Cell,xN 0 c→-1099511627776≤c.n∧c.n≤1099511627776:=by
    intro c hr;cases e:c.known with
    |false=>rw[hr.1 e];simp
    |true=>exact(hr.2 e).2 rfl
   cases hn with
   |num h0 hk=>
    obtain⟨a,b,hl,ea,eb⟩:=CC hk;rw[hl] at yO ⊢;have r1:=yO a (by simp);have r2:=yO b (by simp);rw[ea] at r1;rw[eb] at r2;exact⟨rb _ r1,rb _ r2⟩
   |log h0 hk=>omega
   |_=>omega
  have h6:t.op=6→(bA (t.args.map (bR L cs)) 0).known=true→(bA (t.args.map (bR L cs)) 0).n=0∨(bA (t.args.map (bR L cs)) 0).n=1:=by
   intro o6 FH;cases hn with
   |ite k h0 hk=>
    obtain⟨a,b,c,hl,ea,_⟩:=T7 hk;rw[hl] at yO FH ⊢;have r1:=yO a (by simp);rw[ea] at r1;exact(r1.2 FH).1 rfl
   |log h0 hk=>omega
   |num h0 hk=>omega
   |_=>omega
  have eE:t.op<3∨8<t.op→9≤t.op:=by
   cases hn with
   |log h0 hk=>omega
   |num h0 hk=>omega
   |_=>omega
  have e1:bR (L+1) cs t=if t.op=6∧(bA (t.args.map (bR L cs)) 0).known=true then bA (t.args.map (bR L cs)) (2-(bA (t.args.map (bR L cs)) 0).n).toNat else iM t.op (t.args.map (bR L cs)):=by
   rw[K8,if_neg jE,if_neg o2]
  have e2:eI (L+1) cs t=if t.op=6∧(bA (t.args.map (bR L cs)) 0).known=true then(t.args.map (eI L cs)).getD (2-(bA (t.args.map (bR L cs)) 0).n).toNat [] else if(iM t.op (t.args.map (bR L cs))).known=true then[] else(t.args.map (eI L cs)).flatten:=by
   rw[ME,if_neg jE,if_neg o2]
  rw[e1,e2];simp[IB,o0,o1,o2];refine⟨by omega,?_⟩;refine aK.forRounds t.args.length (fun k=>[.int k]) (fun k=>[cells ((t.args.map (bR L cs)).take k++List.replicate (t.args.length-k) fa),lists ((t.args.map (eI L cs)).take k++List.replicate (t.args.length-k) [])]) ?_ (fun k hk=>?_) ?_
  ·simp[cells,lists,ints]
  ·have hw:=bu hk (by omega);have dc:=bW hk;have hr:=jr _ dc;have s1:=Xd (t.args.map (bR L cs)) fa (n:=t.args.length) (by simp) hk;have s2:=Xd (t.args.map (eI L cs)) [] (n:=t.args.length) (by simp) hk;rw[←s1,←s2];have l1:((t.args.map (bR L cs)).take k++List.replicate (t.args.length-k) fa).length=t.args.length:=by simp;omega
   have l2:((t.args.map (eI L cs)).take k++List.replicate (t.args.length-k) []).length=t.args.length:=by simp;omega
   have g1:(t.args.map (bR L cs))[k]'(by simpa using hk)=bR L cs t.args[k]:=by simp
   have g2:(t.args.map (eI L cs))[k]'(by simpa using hk)=eI L cs t.args[k]:=by simp
   rw[g1,g2];generalize (t.args.map (bR L cs)).take k++List.replicate (t.args.length-k) fa=A at*;generalize (t.args.map (eI L cs)).take k++List.replicate (t.args.length-k) []=B at*;generalize bR L cs t.args[k]=c at*;generalize eI L cs t.args[k]=d at*;simp[WU,H7,hk];refine⟨_,hr,?_⟩;simp[hw,hk,l1,l2,cells,lists]
  ·have hA:(t.args.map (bR L cs)).take t.args.length++List.replicate (t.args.length-t.args.length) fa=t.args.map (bR L cs):=by rw[PV,List.replicate_zero,tK,xE (by simp)]
   have hB:(t.args.map (eI L cs)).take t.args.length++List.replicate (t.args.length-t.args.length) []=t.args.map (eI L cs):=by rw[PV,List.replicate_zero,tK,xE (by simp)]
   have lA:(t.args.map (bR L cs)).length=t.args.length:=by simp
   have lB:(t.args.map (eI L cs)).length=t.args.length:=by simp
   have B9:∀l:List Tm,(∀a,a∈l→a∈t.args)→((l.map (eI L cs)).flatten.length≤l.length*60):=by
    intro l
    induction l with
    |nil=>intro _;simp
    |cons a l ih=>
     intro h;have h1:=hnl a (h a (by simp));have h2:=ih (fun b hb=>h b (by simp[hb]));rw[jc,aaW,mm,oL];omega
   have B9:=B9 t.args (fun a h=>h);have hBg:∀m:Nat,(Option.map (eI L cs) t.args[m]?).getD []=(t.args.map (eI L cs)).getD m []:=fun m=>by simp[aI]
   rw[hA,hB];generalize t.args.map (bR L cs)=A at*;generalize t.args.map (eI L cs)=B at*;have g0:0<A.length:=by omega
   have yk:A[0]=bA A 0:=by simp[bA,g0]
   by_cases Ls:t.op=6∧(bA A 0).known=true
   ·obtain⟨o6,kn⟩:=Ls;have hv:=h6 o6 kn;have hw:IntKind.i64.wrap (2-(bA A 0).n)=2-(bA A 0).n:=aN (by omega);have h3:3≤t.args.length:=hlen.2.2 o6;rw[if_pos ⟨o6,kn⟩,if_pos ⟨o6,kn⟩];obtain⟨m,fE⟩:∃m:Nat,m=(2-(bA A 0).n).toNat:=⟨_,rfl⟩
    have FM:m<A.length:=by omega
    have SF:m<B.length:=by omega
    simp[WU,H7,o6,kn,g0,yk,hw,←fE,FM,SF,cells,lists];refine⟨by omega,by omega,by simp[bA,FM],?_⟩;rw[hBg,aI,aX SF];rfl
   ·rw[if_neg Ls,if_neg Ls];have aqR:=ayR t.op A (by omega) (by omega) (by omega) hb9 eE;have aqS:=akM B (by omega) (by omega);simp[WU,H7,g0,yk];rw[if_neg Ls];refine⟨_,aqR,?_⟩;cases e:(iM t.op A).known
    ·have gl:iM t.op A=fa:=amU e;rw[gl];simp;exact aqS
    ·have h:iM t.op A=⟨true,(iM t.op A).n⟩:=by rw[←e]
     rw[h];simp[ints]
     try rfl
end Rm
namespace Rm
open Go Go.Proofs Cx
def mP (n:Nat)(g:Nat→Bool):Int:=if(List.range n).findIdx g<n then((List.range n).findIdx g:Nat) else-1
theorem Gn (n:Nat)(g:Nat→Bool):(mP n g=-1∧∀k,k<n→g k=false)∨∃k:Nat,k<n∧mP n g=k∧g k=true∧∀i,i<k→g i=false:=by
 unfold mP;split
 ·rename_i h;refine .inr ⟨_,h,rfl,?_,fun i hi=>?_⟩
  ·have:=List.findIdx_getElem (p:=g) (xs:=List.range n) (w:=by simpa using h);simpa using this
  ·have:=List.not_of_lt_findIdx (p:=g) (xs:=List.range n) hi;simpa using this
 ·rename_i h;refine .inl ⟨rfl,fun k hk=>?_⟩;have:=List.not_of_lt_findIdx (p:=g) (xs:=List.range n) (i:=k) (by omega);simpa using this
theorem Mn {n:Nat}{g:Nat→Bool}(h:∀k,k<n→g k=false):mP n g=-1:=by
 rcases Gn n g with⟨h1,_⟩|⟨k,hk,_,h2,_⟩
 ·exact h1
 ·rw[h k hk] at h2;cases h2
theorem Mo {n k:Nat}{g:Nat→Bool}(hk:k<n)(h:g k=true)(hj:∀i,i<k→g i=false):mP n g=k:=by
 rcases Gn n g with⟨_,h1⟩|⟨m,hm,h1,h2,h3⟩
 ·rw[h1 k hk] at h;cases h
 ·rcases Nat.lt_trichotomy m k with h4|h4|h4
  ·rw[hj m h4] at h2;cases h2
  ·rw[h1,h4]
  ·rw[h3 k h4] at h;cases h
theorem TR (n:Nat)(g:Nat→Bool):decide (0≤mP n g)=(List.range n).any g:=by
 rcases Gn n g with⟨h1,h2⟩|⟨m,hm,h1,h2,h3⟩
 ·rw[h1]
  symm
  simp;exact h2
 ·rw[h1];simp;exact⟨m,hm,h2⟩
theorem akV (l:List Rule)(f:Nat)(caps:List D)(g:Nat→Bool)(hg:∀k (hk:k<l.length),aj T f (ug l[k]::caps) (.bool (g k)))(hl:l.length≤4294967296):
 aj T 199 [rules l,.clo f caps] (.int (mP l.length g)):=by
 refine .of_tree rfl (lA 43 (by kernel_rfl)) aBd ?_;simp[ZD];refine .scan l.length (fun k=>g k=false) (fun k=>[.int 0,.int k]) (fun _=>[]) ?_ (fun k hk hj ho=>?_) (fun k hk hj ho=>?_) (fun hj=>?_)
 ·simp
 ·have hw:=bu hk hl;simp[WM,H2,hk,hw];refine⟨_,_,⟨rfl,rfl⟩,_,hg k hk,?_⟩;simp[ho,hw]
 ·have he:=Mo hk (by simpa using ho) hj;simp[WM,H2,hk,he];refine⟨_,_,⟨rfl,rfl⟩,_,hg k hk,?_⟩;simp[ho]
 ·have he:=Mn hj;simp[WM,H2,he]
theorem akW (l:List Int)(f:Nat)(caps:List D)(g:Nat→Bool)(hg:∀k (hk:k<l.length),aj T f (.int l[k]::caps) (.bool (g k)))(hl:l.length≤4294967296):
 aj T 224 [ints l,.clo f caps] (.int (mP l.length g)):=by
 refine .of_tree rfl (lA 38 (by kernel_rfl)) aBe ?_;simp[ZE];refine .scan l.length (fun k=>g k=false) (fun k=>[.int 0,.int k]) (fun _=>[]) ?_ (fun k hk hj ho=>?_) (fun k hk hj ho=>?_) (fun hj=>?_)
 ·simp
 ·have hw:=bu hk hl;simp[WN,H3,hk,hw,ints];refine⟨_,_,⟨rfl,rfl⟩,_,hg k hk,?_⟩;simp[ho,hw]
 ·have he:=Mo hk (by simpa using ho) hj;simp[WN,H3,hk,he,ints];refine⟨_,_,⟨rfl,rfl⟩,_,hg k hk,?_⟩;simp[ho]
 ·have he:=Mn hj;simp[WN,H3,he,ints]
theorem akT (l:List Alter)(f:Nat)(caps:List D)(g:Nat→Bool)(hg:∀k (hk:k<l.length),aj T f (qH l[k]::caps) (.bool (g k)))(hl:l.length≤4294967296):
 aj T 223 [alters l,.clo f caps] (.int (mP l.length g)):=by
 refine .of_tree rfl (lA 26 (by kernel_rfl)) aBb ?_;simp[ZB];refine .scan l.length (fun k=>g k=false) (fun k=>[.int 0,.int k]) (fun _=>[]) ?_ (fun k hk hj ho=>?_) (fun k hk hj ho=>?_) (fun hj=>?_)
 ·simp
 ·have hw:=bu hk hl;simp[WK,HZ,hk,hw];refine⟨_,_,⟨rfl,rfl⟩,_,hg k hk,?_⟩;simp[ho,hw]
 ·have he:=Mo hk (by simpa using ho) hj;simp[WK,HZ,hk,he];refine⟨_,_,⟨rfl,rfl⟩,_,hg k hk,?_⟩;simp[ho]
 ·have he:=Mn hj;simp[WK,HZ,he]
theorem akP (l:List Int)(f:Nat)(caps:List D)(g:Nat→Bool)(hg:∀k (hk:k<l.length),aj T f (.int l[k]::caps) (.bool (g k)))(hl:l.length≤4294967296):
 aj T 215 [ints l,.clo f caps] (.bool ((List.range l.length).any g)):=by
 refine .of_tree rfl (lA 37 (by kernel_rfl)) aA8 ?_;simp[Zy];refine⟨_,akW l f caps g hg hl,?_⟩;have:=TR l.length g;simp[←this]
theorem akN (l:List Alter)(f:Nat)(caps:List D)(g:Nat→Bool)(hg:∀k (hk:k<l.length),aj T f (qH l[k]::caps) (.bool (g k)))(hl:l.length≤4294967296):
 aj T 211 [alters l,.clo f caps] (.bool ((List.range l.length).any g)):=by
 refine .of_tree rfl (lA 25 (by kernel_rfl)) aA6 ?_;simp[Zw];refine⟨_,akT l f caps g hg hl,?_⟩;have:=TR l.length g;simp[←this]
def BM (cs:List Cell)(t:Tm):Cell:=if(oR t).2=0 then bR 8 cs t else fa
theorem amD {t:Tm}(h:(oR t).2=0):cX 8 t≤60∧cE 8 t=((oR t).1,0):=by
 unfold oR at h ⊢;split at h
 ·cases h
 ·rename_i hm;rw[if_neg hm];exact⟨by omega,by rw[←h]⟩
theorem ayP (t:Tm)(cs:List Cell)(ht:t.OK):aj T 182 [dP t,cells cs] (dg (BM cs t)):=by
 refine .of_tree rfl (lA 51 (by kernel_rfl)) aBo ?_;simp[ZO,BM];refine⟨_,aj6 t ht,?_⟩;by_cases h:(oR t).2=0
 ·obtain⟨h1,h2⟩:=amD h;simp[h];refine⟨_,aj8 8 cs t _ ht h1 h2,?_⟩;simp
  try rfl
 ·simp[h]
  try rfl
def Ui:List Int:=[6,7,10,12,13,14,15,16,20,21]
def rM (ask:Int):Int×Bool:=if ask<0∨22≤ask then(0,false) else if hasB Ui ask then(0,true) else(1,true)
theorem Vk (ask:Int):aj T 178 [.int ask] (.tup [.int (rM ask).1,.bool (rM ask).2]):=by
 refine .of_tree rfl (lA 31 (by kernel_rfl)) azM ?_;simp[X8,rM];by_cases h0:ask<0
 ·simp[h0]
 by_cases h1:22≤ask
 ·simp[h0,h1]
 simp[h0,h1];refine⟨_,xo Ui ask (by decide),?_⟩;cases h:hasB Ui ask<;>simp[h]
def MF:Tm:=⟨0,0,[]⟩
def wQ (o:Order)(ask:Int)(k:Nat):Bool:=decide ((o.rules.getD k default).ask=ask)
def Ii (o:Order)(i:Int):Tm:=(o.rules.getD i.toNat default).term
def findF (o:Order)(ask:Int):Tm×Int:=
 if(rM ask).2=false then(MF,1) else if mP o.rules.length (wQ o ask)<0 then(MF,4) else
    if(oR (Ii o (mP o.rules.length (wQ o ask)))).2≠0∨(oR (Ii o (mP o.rules.length (wQ o ask)))).1≠(rM ask).1 then(MF,11) else(Ii o (mP o.rules.length (wQ o ask)),0)
theorem ajJ {o:Order}(ho:o.OK){m:Nat}(hm:m<o.rules.length):o.rules[m].term.OK:=(ho.2.2 _ (bW hm)).2
theorem Uh:MF.OK:=by
 exact .mk 0 0 [] (by unfold aY;omega) (by unfold aY;omega) (by decide) (fun _ h=>by cases h)
theorem aoE {o:Order}(ho:o.OK)(ask:Int):(findF o ask).1.OK:=by
 unfold findF;split
 ·exact Uh
 split
 ·exact Uh
 split
 ·exact Uh
 ·rename_i h _;rcases Gn o.rules.length (wQ o ask) with⟨h1,h2⟩|⟨m,hm,h1,h2,h3⟩
  ·exact absurd (by rw[h1];decide) h
  ·rw[h1];simp[Ii,hm];exact ajJ ho hm
theorem aoC (r:Rule)(ask:Int):aj T 200 [ug r,.ref (.int ask)] (.bool (decide (r.ask=ask))):=by
 refine .of_tree rfl (lA 42 (by kernel_rfl)) azN ?_;simp[Ya]
theorem awg (o:Order)(ask:Int)(ho:o.OK)(hl:o.rules.length≤4294967296):aj T 181 [j3 o,.int ask] (.tup [dP (findF o ask).1,.int (findF o ask).2]):=by
 refine .of_tree rfl (lA 41 (by kernel_rfl)) azO ?_;simp[X9,findF];refine⟨_,Vk ask,?_⟩;cases h0:(rM ask).2
 ·simp[h0]
  try rfl
 simp[h0];refine⟨_,akV o.rules 200 [.ref (.int ask)] (wQ o ask) (fun k hk=>by simpa [wQ,hk] using aoC o.rules[k] ask) hl,?_⟩;rcases Gn o.rules.length (wQ o ask) with⟨h1,h2⟩|⟨m,hm,h1,h2,h3⟩
 ·rw[h1];simp
  try rfl
 ·rw[h1];have FP:¬((m:Int)<0):=by omega
  have htm:o.rules[m].term.OK:=ajJ ho hm;simp[hm,Ii,FP];refine⟨_,aj6 _ htm,?_⟩;by_cases h4:(oR o.rules[m].term).2=0<;>by_cases h5:(oR o.rules[m].term).1=(rM ask).1<;>simp[h4,h5]<;>try rfl
def Ax (o:Order)(ask:Int)(cs:List Cell):Cell×Int:=
 if(findF o ask).2≠0 then(fa,(findF o ask).2) else
    (if(rM ask).1=0∧(BM cs (findF o ask).1).known=true then⟨true,min (max (BM cs (findF o ask).1).n 0) 20000⟩ else BM cs (findF o ask).1,0)
theorem awe (o:Order)(ask:Int)(cs:List Cell)(ho:o.OK)(hl:o.rules.length≤4294967296):aj T 145 [j3 o,.int ask,cells cs] (.tup [dg (Ax o ask cs).1,.int (Ax o ask cs).2]):=by
 refine .of_tree rfl (lA 40 (by kernel_rfl)) azL ?_;simp[X7];refine⟨_,awg o ask ho hl,?_⟩;have hf:(findF o ask).1.OK:=aoE ho ask;by_cases h:(findF o ask).2=0
 ·simp[h,Ax];refine⟨_,ayP _ cs hf,_,Vk ask,?_⟩;generalize BM cs (findF o ask).1=c;obtain⟨kn,n⟩:=c;by_cases h1:(rM ask).1=0
  ·cases kn
   ·simp[h1,dg]
   ·by_cases h2:n<0
    ·have:min (max n 0) 20000=0:=by omega
     simp[h1,dg,h2,this];rfl
    ·by_cases h3:20000<n
     ·have:min (max n 0) 20000=20000:=by omega
      simp[h1,dg,h2,h3,this];rfl
     ·have:min (max n 0) 20000=n:=by omega
      simp[h1,dg,h2,h3,this];rfl
  ·simp[h1,dg]
 ·simp[h,Ax]
  try rfl
end Rm
namespace Rm
open Go Go.Proofs Cx
theorem ajx (b:Bool):aj T 213 [.bool b] (dg (iz b)):=by
 refine .of_tree rfl (lA 29 (by kernel_rfl)) aA3 ?_;cases b<;>simp[Zt,iz]<;>rfl
def La (kind sign:Int)(x:Fact):Bool:=decide (x.kind=kind)&&decide (x.at_=sign)
def lT (f:File)(kind sign:Int):Cell:=match f.facts.find? (La kind sign) with|none=>fa|some x=>iz (decide (x.n≠0))
theorem E4 {α:Type}{p:α→Bool}:∀{l:List α} {k:Nat} (hk:k<l.length),p l[k]=true→(∀j (hj:j<k),p (l[j]'(by omega))=false)→l.find? p=some l[k]
 |a::l,0,hk,h,hj=>by simp at h;simp[h]
 |a::l,k+1,hk,h,hj=>by
  have h0:=hj 0 (by omega);simp at h0;simp only[List.find?_cons,h0,List.getElem_cons_succ];exact E4 (by simpa using hk) (by simpa using h) (fun j bK=>by simpa using hj (j+1) (by omega))
theorem Lc {α:Type}{p:α→Bool}{l:List α}(h:∀j (hj:j<l.length),p l[j]=false):l.find? p=none:=by
 rw[An];intro x hx;obtain⟨j,hj,rfl⟩:=fX hx;rw[h j hj];decide
theorem Ic (f:File)(kind sign:Int)(hl:f.facts.length≤4294967296):aj T 214 [cg f,.int kind,.int sign] (dg (lT f kind sign)):=by
 refine .of_tree rfl (lA 30 (by kernel_rfl)) aAZ ?_;simp[Zq];refine .scan f.facts.length (fun k=>La kind sign (f.facts.getD k default)=false) (fun k=>[.int k]) (fun _=>[dg fa]) ?_ (fun k hk hj ho=>?_) (fun k hk hj ho=>?_) (fun hj=>?_)
 ·simp
 ·have hw:=bu hk hl;simp[hk,La] at ho;by_cases h1:f.facts[k].kind=kind<;>by_cases h2:f.facts[k].at_=sign
  ·exact absurd h2 (ho h1)
  all_goals simp[WG,HW,hk,hw,h1,h2]
 ·have hw:=bu hk hl;have hf:lT f kind sign=iz (decide (f.facts[k].n≠0)):=by
   unfold lT;rw[E4 hk (by simpa [hk] using ho) (fun j bK=>by have:=hj j bK;simpa [show j<f.facts.length by omega] using this)]
  simp[hk,La] at ho;simp[WG,HW,hk,hw,ho,hf];refine⟨_,ajx _,?_⟩;simp
  try rfl
 ·have hf:lT f kind sign=fa:=by
   unfold lT;rw[Lc (fun j bK=>by have:=hj j bK;simpa [bK] using this)]
  simp[WG,HW,hf]
  try rfl
def gX (r:Realm)(c:Int):Int:=if aE c r.cities.length=true then(r.cities.getD c.toNat default).order else-1
theorem rD (r:Realm)(c:Int):aj T 147 [aT r,.int c] (.int (gX r c)):=by
 refine .of_tree rfl (lA 27 (by kernel_rfl)) aAM ?_;simp[Zd,gX];refine⟨_,fU c r.cities.length,?_⟩;cases h:aE c r.cities.length
 ·simp[h]
 ·simp[aE] at h;have h1:c.toNat<r.cities.length:=by omega
  simp[h,h1]
def Pl (day:Int)(l:List Sign):List Sign:=l.takeWhile fun s=>decide (s.day≤day)
def upA (day:Int)(l:List Act):List Act:=l.takeWhile fun s=>decide (s.day≤day)
def rX (n:Nat)(a:Alter):Bool:=decide (a.at_≤(n:Int))
def uj (n:Nat)(x:Fact):Bool:=aE x.at_ n
def cH (f:File)(day:Int):File:=
 ⟨f.bill,Pl day f.signs,f.alters.filter (rX (Pl day f.signs).length),upA day f.acts,f.facts.filter (uj (Pl day f.signs).length)⟩
theorem Pk {α:Type}(p:α→Bool):∀(l:List α),∃m,m≤l.length∧l.takeWhile p=l.take m∧(∀k (hk:k<l.length),k<m→p l[k]=true)∧(∀hk:m<l.length,p l[m]=false)
 |[]=>⟨0,by simp,by simp,fun k hk=>by simp at hk,fun hk=>by simp at hk⟩
 |a::l=>by
  by_cases h:p a=true
  ·obtain⟨m,h1,h2,h3,h4⟩:=Pk p l;refine⟨m+1,by simp;omega,by simp[h,h2],fun k hk hm=>?_,fun hk=>?_⟩
   ·cases k with
    |zero=>simpa using h
    |succ k=>simpa using h3 k (by simpa using hk) (by omega)
   ·simpa using h4 (by simpa using hk)
  ·refine⟨0,by simp,by simp[h],fun k hk hm=>by omega,fun hk=>by simpa using h⟩
theorem O0 {α:Type}(p:α→Bool)(l:List α){k:Nat}(hk:k<l.length):(l.take (k+1)).filter p=(l.take k).filter p++if p l[k] then[l[k]] else[]:=by
 rw[il hk,IX]
 congr 1
 cases h:p l[k]<;>simp[h]
def D2 (b:Bill)(w x y z:D):D:=.agg [.int b.drawer,.int b.drawee,.int b.payee,.int b.sum,.int b.currency,.int b.tenor.kind,.int b.tenor.n,.int b.tenor.unit,.int b.day,.int b.city,.int b.pay,.int b.need,.int b.rate,.int b.flags,.int b.parts,w,x,y,z]
def pk {α:Type}(l:List α):D:=match l with|[]=>.list []|_=>.none
@[simp] theorem aHA {α:Type}:pk ([]:List α)=.list []:=rfl
@[simp] theorem aHz {α:Type}(l:List α)(x:α):pk (l++[x])=.none:=by cases l<;>rfl
theorem WZ (f:File)(day:Int)(h1:f.signs.length≤4294967295)(h2:f.acts.length≤4294967295)(h3:f.alters.length≤4294967295)(h4:f.facts.length≤4294967295):aj T 62 [cg f,.int day] (cg (cH f day)):=by
 refine .of_tree rfl (lA 17 (by kernel_rfl)) aAY ?_;simp[Zp];obtain⟨m,hm,hS,hS1,BZ⟩:=Pk (fun s:Sign=>decide (s.day≤day)) f.signs;obtain⟨n,hn,hA,hA1,hA2⟩:=Pk (fun s:Act=>decide (s.day≤day)) f.acts;refine aK.forRounds m (fun k=>[.int k]) (fun k=>[signs (f.signs.take k),D2 f.bill (pk (f.signs.take k)) (.list []) (.list []) (.list [])]) ?_ (fun k hk=>?_) ?_
 ·simp[D2,signs]
  try rfl
 ·have bp:k<f.signs.length:=by omega
  have hw:=bu bp (by omega);have hd:=hS1 k bp hk;simp at hd;have gQ:¬day<f.signs[k].day:=by omega
  have hle:(k:Int)+1≤4294967296:=by omega
  have ht:=il bp;rw[ht];have hlen:(f.signs.take k).length=k:=by simp;omega
  generalize f.signs.take k=A at*;simp[WB,HR,bp,hw,gQ,hlen];exact⟨hle,by simp[signs],rfl⟩
 have hSl:(f.signs.take m).length≤4294967295:=by rw[ej];omega
 have hAt:cH f day=⟨f.bill,f.signs.take m,f.alters.filter (rX (f.signs.take m).length),f.acts.take n,f.facts.filter (uj (f.signs.take m).length)⟩:=by
  unfold cH Pl upA;rw[hS,hA]
 rw[hAt];generalize f.signs.take m=S at*;have hAl:(f.acts.take n).length≤4294967295:=by rw[ej];omega
 by_cases fE:m<f.signs.length
 case' pos=>
  have hd:=BZ fE;simp at hd;simp[WB,HR,fE,hd];generalize D.bool true=bb
 case' neg=>
  have FL:m=f.signs.length:=by omega
  simp[WB,HR,fE,FL];generalize D.bool false=bb
 all_goals
  refine aK.forRounds n (fun k=>[.int k]) (fun k=>[acts (f.acts.take k),D2 f.bill (pk S) (.list []) (pk (f.acts.take k)) (.list [])]) ?_ (fun k hk=>?_) ?_
  ·simp[acts]
  ·have bp:k<f.acts.length:=by omega
   have hw:=bu bp (by omega);have hd:=hA1 k bp hk;simp at hd;have gQ:¬day<f.acts[k].day:=by omega
   have hle:(k:Int)+1≤4294967296:=by omega
   have ht:=il bp;rw[ht];have hlen:(f.acts.take k).length=k:=by simp;omega
   generalize f.acts.take k=A at*;simp[WC,HT,bp,hw,gQ,hlen];exact⟨hle,by simp[acts],rfl⟩
  generalize f.acts.take n=A at*;by_cases ll:n<f.acts.length
  case' pos=>
   have hd:=hA2 ll;simp at hd;simp[WC,HT,ll,hd];generalize D.bool true=bc
  case' neg=>
   have qV:n=f.acts.length:=by omega
   simp[WC,HT,ll,qV];generalize D.bool false=bc
  all_goals
   refine aK.forRounds f.alters.length (fun k=>[.int k]) (fun k=>[D2 f.bill (pk S) (pk ((f.alters.take k).filter (rX S.length))) (pk A) (.list []),alters ((f.alters.take k).filter (rX S.length))]) ?_ (fun k hk=>?_) ?_
   ·simp[alters]
   ·have hw:=bu hk (by omega);have ht:=O0 (rX S.length) f.alters hk;rw[ht];have hlen:((f.alters.take k).filter (rX S.length)).length≤k:=dO (oM _ _) (by simp;omega);generalize (f.alters.take k).filter (rX S.length)=B at*;by_cases hd:f.alters[k].at_≤(S.length:Int)
    ·simp[WD,HU,rX,hk,hw,hd];exact⟨by omega,rfl,by simp[alters]⟩
    ·simp[WD,HU,rX,hk,hw,hd]
   simp[WD,HU];generalize f.alters.filter (rX S.length)=B at*;refine aK.forRounds f.facts.length (fun k=>[.int k]) (fun k=>[D2 f.bill (pk S) (pk B) (pk A) (pk ((f.facts.take k).filter (uj S.length))),facts ((f.facts.take k).filter (uj S.length))]) ?_ (fun k hk=>?_) ?_
   ·simp[facts]
   ·have hw:=bu hk (by omega);have ht:=O0 (uj S.length) f.facts hk;rw[ht];have hlen:((f.facts.take k).filter (uj S.length)).length≤k:=dO (oM _ _) (by simp;omega);generalize (f.facts.take k).filter (uj S.length)=C at*;cases hd:aE f.facts[k].at_ S.length
    ·simp[WE,HV,uj,hk,hw,hd];refine⟨_,rE _ _,?_⟩;simp[hd,hw]
    ·simp[WE,HV,uj,hk,hw,hd];refine⟨_,rE _ _,?_⟩;simp[hd,hw];exact⟨by omega,rfl,by simp[facts]⟩
   simp[WE,HV];rfl
end Rm
namespace Rm
open Go Go.Proofs Cx
def CH:List Int→Int
 |[]=>-1
 |x::l=>l.foldl min x
theorem ak8 (x:Int)(l:List Int)(hl:l.length<4294967296):aj T 109 [ints (x::l)] (.int (CH (x::l))):=by
 refine .of_tree rfl (lA 64 (by kernel_rfl)) aBh ?_;have h0:¬((l.length:Int)+1<1):=by omega
 simp[ZH,h0,CH,ints];refine aK.forRounds l.length (fun k=>[.int ((l.take k).foldl min x),.int ((k:Int)+1)]) (fun k=>[]) ?_ (fun k hk=>?_) ?_
 ·simp
 ·have hw:IntKind.i64.wrap ((k:Int)+1+1)=(k:Int)+1+1:=aN (by omega);rw[il hk,rT];generalize (l.take k).foldl min x=y;have ht:((k:Int)+1).toNat=k+1:=by omega
  have af:(k:Int)+1<(l.length:Int)+1:=by omega
  simp[ajt,Om,hk,hw,ht,af];refine⟨by omega,?_⟩;by_cases h:l[k]<y
  ·simp[h];omega
  ·simp[h];omega
 ·simp[ajt,Om]
def oB (f:File)(n:Nat):List Int:=if f.bill.tenor.kind=1 then((f.signs.take n).filter (fun s=>decide (s.kind=1))).map (·.day) else[]
def me (f:File)(n:Nat):List Int:=if f.bill.tenor.kind=1 then((f.acts.take n).filter (fun s=>decide (s.kind=1))).map (·.day) else[]
def Ip (f:File)(a:Act):Bool:=decide (f.bill.tenor.kind=0)&&decide (a.kind=2)
def tp (f:File):Int:=match f.acts.find? (Ip f) with|some a=>a.day|none=>CH (oB f f.signs.length++me f f.acts.length)
theorem axL (f:File)(h1:f.signs.length≤100000)(h2:f.acts.length≤100000):aj T 66 [cg f] (.int (tp f)):=by
 refine .of_tree rfl (lA 63 (by kernel_rfl)) aA0 ?_;simp[Zr];refine aK.forRounds f.signs.length (fun k=>[.none,.int k]) (fun k=>[ints (oB f k)]) ?_ (fun k hk=>?_) ?_
 ·simp[oB,ints]
 ·have hw:=bu hk (by omega);have hs:oB f (k+1)=oB f k++if f.bill.tenor.kind=1∧f.signs[k].kind=1 then[f.signs[k].day] else[]:=by
   unfold oB;by_cases h:f.bill.tenor.kind=1
   ·simp only[if_pos h,O0 _ _ hk,np,h,true_and]
    congr 1
    by_cases h':f.signs[k].kind=1<;>simp[h']
   ·simp[h]
  have hlen:(oB f k).length≤k:=by
   unfold oB;split
   ·rw[dM];exact dO (oM _ _) (by simp;omega)
   ·simp
  rw[hs];generalize oB f k=A at*;by_cases hc:f.bill.tenor.kind=1∧f.signs[k].kind=1
  ·simp[WH,HX,hk,hw,hc];exact⟨by omega,by simp[ints]⟩
  ·simp[WH,HX,hk,hw,hc]
 ·have hlS:(oB f f.signs.length).length≤100000:=by
   unfold oB;split
   ·rw[dM];exact dO (oM _ _) (by simp;omega)
   ·simp
  have hE:tp f=match f.acts.find? (Ip f) with|some a=>a.day|none=>CH (oB f f.signs.length++me f f.acts.length):=rfl
  generalize oB f f.signs.length=A at*;simp[WH,HX];refine aK.scan f.acts.length (fun k=>Ip f (f.acts.getD k default)=false) (fun k=>[.int 0,.none,.int k]) (fun k=>[ints (A++me f k)]) ?_ (fun k hk hj ho=>?_) (fun k hk hj ho=>?_) (fun hj=>?_)
  ·simp[me,ints]
  ·have hw:=bu hk (by omega);have hs:me f (k+1)=me f k++if f.bill.tenor.kind=1∧f.acts[k].kind=1 then[f.acts[k].day] else[]:=by
        unfold me;by_cases h:f.bill.tenor.kind=1
        ·simp only[if_pos h,O0 _ _ hk,np,h,true_and]
         congr 1
         by_cases h':f.acts[k].kind=1<;>simp[h']
        ·simp[h]
   have hlen:(me f k).length≤k:=by
        unfold me;split
        ·rw[dM];exact dO (oM _ _) (by simp;omega)
        ·simp
   rw[hs];generalize me f k=B at*;simp[Ip,hk] at ho;by_cases hc:f.bill.tenor.kind=1∧f.acts[k].kind=1
   ·simp[HY,zM,hk,hw,hc];exact⟨by omega,by simp[ints]⟩
   ·have hn:¬(f.bill.tenor.kind=0∧f.acts[k].kind=2):=fun h=>ho h.1 h.2;simp[HY,zM,hk,hw,hc,hn]
  ·have hf:tp f=f.acts[k].day:=by
        rw[hE,E4 hk (by simpa [hk] using ho) (fun j bK=>by have:=hj j bK;simpa [show j<f.acts.length by omega] using this)]
   simp[Ip,hk] at ho;simp[HY,zM,hk,ho,hf]
  ·have hf:tp f=CH (A++me f f.acts.length):=by
        rw[hE,Lc (fun j bK=>by have:=hj j bK;simpa [bK] using this)]
   have hlA:(me f f.acts.length).length≤100000:=by
        unfold me;split
        ·rw[dM];exact dO (oM _ _) (by simp;omega)
        ·simp
   rw[hf];have hL:(A++me f f.acts.length).length≤200000:=by rw[mm];omega
   generalize A++me f f.acts.length=L at*;cases L with
   |nil=>simp[HY,zM,CH,ints]
   |cons x l=>
    have ay:¬((l.length:Int)+1=0):=by omega
    simp[HY,zM,ay];exact ak8 x l (by simp at hL;omega)
end Rm
namespace Rm
open Go Go.Proofs Cx
def iL (g:Nat→Cell):D:=.list ((List.range 20).map fun i=>dg (g i))
theorem abQ {g g':Nat→Cell}(h:∀i,i<20→g i=g' i):iL g=iL g':=by
 unfold iL
 congr 1
 exact tL fun i hi=>by rw[h i (by simpa using hi)]
theorem abR (g:Nat→Cell)(k:Nat)(c:Cell):D.list ((iL g).l.set k (dg c))=iL (fun i=>if i=k then c else g i):=by
 unfold iL
 congr 1
 show((List.range 20).map fun i=>dg (g i)).set k (dg c)=_;apply PA
 ·simp
 ·intro i h1 h2;simp at h2;rw[List.getElem_set];by_cases h:k=i
  ·simp[h]
  ·have h':¬i=k:=fun e=>h e.symm;simp[h,h']
@[simp] theorem aFv (g:Nat→Cell):(iL g).l.length=20:=by
  show((List.range 20).map fun i=>dg (g i)).length=20;simp
theorem Jo (g:Nat→Cell){k:Nat}(hk:k<20):(iL g).l[k]?.getD D.none=dg (g k):=by
 show((List.range 20).map fun i=>dg (g i))[k]?.getD D.none=dg (g k);simp[hk]
theorem ams (g:Nat→Cell){k:Nat}(hk:k<(iL g).l.length):(iL g).l[k]=dg (g k):=by
 have h:=Jo g (k:=k) (by simpa using hk);rw[aX hk] at h;exact h
theorem amu (g:Nat→Cell)(k:Nat)(c:Cell):(iL g).l.set k (dg c)=(iL (fun i=>if i=k then c else g i)).l:=congrArg D.l (abR g k c)
theorem amt (g:Nat→Cell):D.list (iL g).l=iL g:=rfl
@[simp] theorem aJg (x:Cell)(b:Bool)(n:Int):wV (dg x) 0 (D.agg [D.bool b,D.int n])=dg ⟨b,n⟩:=_root_.id rfl
def BN {α:Type}(l:List (Int×α))(val:α→Cell)(g0:Nat→Cell)(i:Nat):Cell:=match l.find? (fun p=>decide (p.1=(i:Int))) with|some p=>val p.2|none=>g0 i
def sZ {α:Type}(enc:α→D)(p:Int×α):D:=.tup [.int p.1,enc p.2]
theorem afJ {α:Type}{J o:Nat}{ps dj:List Nat}{a:PC}{ρ:Env}{Q:Out→Prop}(l:List (Int×α))(enc:α→D)(val:α→Cell)(g0:Nat→Cell)
 (nd:∀p q,p∈l→q∈l→p.1=q.1→p=q) (W5:∀p,p∈l→0≤p.1) (he:ρ.o J=.tup [.list [],.map (l.map fun p=>(.int p.1,enc p.2))]) (h0:ρ.o o=iL g0)
 (step:∀p,p∈l→∀g done,aH T (rG [o] a) ((ρ.put ps (dj.map (sZ enc p).tget) [o] [iL g]).setO J (.tup [.list (done++[sZ enc p]),.map (l.map fun p=>(.int p.1,enc p.2))])) (fun y=>∃ρ',y=.next ρ'∧ρ'.o o=.list ((iL g).l.set p.1.toNat (dg (val p.2)))))
 (last:Q (.next (ρ.put [] [] [o] [iL (BN l val g0)]))):aK T (.meach J ps dj [o] a) ρ Q:=by
 have nY:iY (.map (l.map fun p=>((D.int p.1,enc p.2):D×D)))=l.map (sZ enc):=by
  simp[iY,sZ]
 refine .meachR _ he (fun done vo=>∃g:Nat→Cell,vo=[iL g]∧(∀p,p∈l→sZ enc p∈done→g p.1.toNat=val p.2)∧∀i:Nat,(∀p,p∈l→sZ enc p∈done→p.1≠i)→g i=g0 i) ⟨g0,by simp[h0],(fun p _ h=>by cases h),fun i _=>rfl⟩ (fun done x rest vo hp ⟨g,hv,jo,gR⟩=>?_) ⟨_,fun done hp vo ⟨g,hv,jo,gR⟩=>?_,last⟩
 ·subst hv;rw[nY] at hp;have hx:x∈l.map (sZ enc):=hp.subset (by simp);obtain⟨p,jH,rfl⟩:=cu.mp hx;refine Av _ (fun y ⟨ρ',e,ho⟩=>⟨ρ',e,fun i=>if i=p.1.toNat then val p.2 else g i,by simp[ho,abR],fun q hq Tf=>?_,fun i hi=>?_⟩) (step p jH g done)
  ·have yM:=W5 q hq;have mJ:=W5 p jH;by_cases h:q.1=p.1
   ·rw[nd q p hq jH h];simp
   ·show(if q.1.toNat=p.1.toNat then val p.2 else g q.1.toNat)=val q.2;rw[if_neg (by omega)];rcases dN.mp Tf with h1|h1
    ·exact jo q hq h1
    ·simp[sZ] at h1;exact absurd h1.1 h
  ·have mJ:=W5 p jH;have db:=hi p jH (by simp);show(if i=p.1.toNat then val p.2 else g i)=g0 i;rw[if_neg (by omega)];exact gR i fun q hq Tf=>hi q hq (by simp[Tf])
 ·rw[hv,nY] at*
  congr 1
  refine abQ fun i hi=>?_;unfold BN;cases hf:l.find? (fun p=>decide (p.1=(i:Int))) with
  |some p=>
   have jH:=DQ hf;have L6:p.1=(i:Int):=by simpa using PB hf
   have:=jo p jH (hp.symm.subset (Ar jH));simp only;rw[←this,L6];rfl
  |none=>
   refine gR i fun p jH _=>?_;have:=An.mp hf p jH;simpa using this
@[simp] theorem aH4 (a b:Int):iW (D.int a) (D.int b)=decide (a=b):=by
  show((a==b)&&true)=decide (a=b);rw[Bool.and_true];by_cases h:a=b<;>simp[h]
def E8 (n k:Int):Bool:=decide (bX .and .i64 n k≠0)
def CA (s:Sign)(due:Int):Int:=if due=-1 then 0 else s.day-due
def abq (f:File)(sign:Int):Bool:=(List.range f.alters.length).any fun k=>decide ((f.alters.getD k default).at_≤sign)
def qX (c:Case):Int:=if c.holder<0 then 0 else c.holder
def wO (c:Case)(s:Sign):List (Int×Int):=[(0,c.file.bill.sum),(1,c.file.bill.parts),(2,c.file.bill.tenor.kind),(3,c.file.bill.rate),(4,s.kind),(5,c.defence),(6,CA s c.due)]
def wP (r:Realm)(c:Case)(s:Sign):List (Int×Bool):=[(7,E8 c.file.bill.flags 1),(8,decide (c.file.bill.payee=-1)),(9,E8 c.file.bill.flags 4),(10,E8 c.file.bill.flags 2),(11,decide (gX r c.file.bill.city≠gX r c.file.bill.pay)),(12,abq c.file c.sign),(13,E8 s.flags 1),(14,decide (0<CA s c.due))]
def RN (r:Realm)(c:Case)(s:Sign):List Cell:=
 (wO c s).map (fun p=>⟨true,p.2⟩)++(wP r c s).map (fun p=>iz p.2)++
    [lT c.file 0 c.sign,lT c.file 1 c.sign,lT c.file 2 c.sign,lT c.file 3 (qX c),lT c.file 4 (qX c)]
@[simp] theorem aE4 (x:Case):jZ 19 (fL x)=cg x.file:=_root_.id rfl
@[simp] theorem aE2 (x:Case):jZ 15 (fL x)=eA x.file.bill:=_root_.id rfl
@[simp] theorem aE3 (x:File):jZ 15 (cg x)=eA x.bill:=_root_.id rfl
def vl (c:Case):Bool:=aE c.sign c.file.signs.length&&decide (-1≤c.holder)&&decide (qX c<c.file.signs.length)&&(decide (c.due=-1)||aE c.due 100001)
def kR (r:Realm)(c:Case):List Cell:=if vl c=true∧aE (c.file.signs.getD c.sign.toNat default).day 100001=true then RN r c (c.file.signs.getD c.sign.toNat default) else[]
theorem axM (r:Realm)(c:Case)(h2:c.file.facts.length≤100000)(h3:c.file.alters.length≤100000):aj T 196 [aT r,fL c] (cells (kR r c)):=by
 refine .of_tree rfl (lA 23 (by kernel_rfl)) aA2 ?_;cases hs:aE c.sign c.file.signs.length
 ·have hv:kR r c=[]:=by unfold kR vl;rw[hs];simp
  rw[hv];simp[wZ];refine⟨_,rE _ _,?_⟩;simp[hs];rfl
 by_cases hh:c.holder< -1
 ·have hv:kR r c=[]:=by unfold kR vl;rw[hs];simp;intros;omega
  rw[hv];simp[wZ,hh];exact⟨⟨_,rE _ _⟩,rfl⟩
 by_cases hm:(c.file.signs.length:Int)≤qX c
 ·have hv:kR r c=[]:=by unfold kR vl;rw[hs];simp;intros;omega
  rw[hv];unfold qX at hm;simp[wZ,hm];exact⟨⟨_,rE _ _⟩,rfl⟩
 by_cases hd:c.due≠-1∧aE c.due 100001=false
 ·have hv:kR r c=[]:=by unfold kR vl;rw[hs];simp[hd]
  rw[hv];unfold qX at hm;obtain⟨bB,dR⟩:=hd;simp[wZ,hh,hm,bB];refine⟨_,rE _ _,?_⟩;simp[hs,hh,hm,bB];refine⟨_,rE _ _,?_⟩;simp[hs,hh,hm,bB,dR];rfl
 have hcb:vl c=true:=by
  unfold vl;rw[hs];simp;refine⟨⟨by omega,by omega⟩,?_⟩;by_cases h:c.due=-1
  ·exact .inl h
  ·right;cases hb:aE c.due 100001
   ·exact absurd ⟨h,hb⟩ hd
   ·rfl
 have hlen:c.sign.toNat<c.file.signs.length:=by simp[aE] at hs;omega
 have dT:0≤c.sign∧c.sign<(c.file.signs.length:Int):=by simpa [aE] using hs
 obtain⟨s,F5⟩:∃s:Sign,s=c.file.signs[c.sign.toNat]:=⟨_,rfl⟩
 have sO:c.file.signs.getD c.sign.toNat default=s:=by rw[F5];simp[hlen]
 have hv:kR r c=if aE s.day 100001=true then RN r c s else[]:=by
  unfold kR;rw[sO,hcb];simp
 rw[hv];unfold qX at hm;by_cases Fw:c.due=-1
 case' pos=>
  have adD:(c.due=-1)=True:=eq_true Fw;simp[wZ,hh,hm,adD];refine⟨_,rE _ _,?_⟩;simp[hs,hh,hm,adD,hlen,←F5,dT]
 case' neg=>
  have Ft:aE c.due 100001=true:=by
   cases hb:aE c.due 100001
   ·exact absurd ⟨Fw,hb⟩ hd
   ·rfl
  simp[wZ,hh,hm,Fw];refine⟨_,rE _ _,?_⟩;simp[hs,hh,hm,Fw];refine⟨_,rE _ _,?_⟩;simp[hs,hh,hm,Fw,Ft,hlen,←F5,dT]
 all_goals
  refine⟨_,rE _ _,?_⟩;cases yx:aE s.day 100001
  ·simp[yx];rfl
  simp[yx,fT];refine afJ (wO c s) D.int (fun n=>⟨true,n⟩) (fun _=>fa) ?_ ?_ ?_ ?_ (fun p hp g done=>?_) ?_
  ·intro p q hp hq h;simp[wO] at hp hq;rcases hp with rfl|rfl|rfl|rfl|rfl|rfl|rfl<;>rcases hq with rfl|rfl|rfl|rfl|rfl|rfl|rfl<;>first|rfl|(simp at h)
  ·intro p hp;simp[wO] at hp;rcases hp with rfl|rfl|rfl|rfl|rfl|rfl|rfl<;>simp
  ·have Sr:(if c.due=-1 then(0:Int) else IntKind.i64.wrap (s.day-c.due))=CA s c.due:=by
        unfold CA;by_cases h:c.due=-1
        ·simp[h]
        ·have Ft:aE c.due 100001=true:=by
          cases hb:aE c.due 100001
          ·exact absurd ⟨h,hb⟩ hd
          ·rfl
         simp[aE] at Ft yx;rw[if_neg h,if_neg h];exact aN (by omega)
   simp[wO,fT,hlen,←F5];rw[←Sr];by_cases h:c.due=-1<;>simp[h]
  ·simp[iL];rfl
  ·have hr:0≤p.1∧p.1<20:=by
        simp[wO] at hp;rcases hp with rfl|rfl|rfl|rfl|rfl|rfl|rfl<;>simp
   have hk:p.1.toNat<20:=by omega
   simp[axA,WI,sZ,Jo g hk];exact hr
  have arS:∀k (hk:k<c.file.alters.length),aj T 212 (qH c.file.alters[k]::[.ref (fL c)]) (.bool (decide ((c.file.alters.getD k default).at_≤c.sign))):=fun k hk=>by
   refine .of_tree rfl (lA 24 (by kernel_rfl)) aA1 ?_;simp[Zs,hk]
  simp;refine⟨_,akN c.file.alters _ _ _ arS (by omega),_,rD r _,_,rD r _,?_⟩;have Sr:(if c.due=-1 then(0:Int) else IntKind.i64.wrap (s.day-c.due))=CA s c.due:=by
   unfold CA;by_cases h:c.due=-1
   ·simp[h]
   ·have Ft:aE c.due 100001=true:=by
     cases hb:aE c.due 100001
     ·exact absurd ⟨h,hb⟩ hd
     ·rfl
    simp[aE] at Ft yx;rw[if_neg h,if_neg h];exact aN (by omega)
  have Sp:cells (RN r c s)=iL (fun i=>if i=15 then lT c.file 0 c.sign else if i=16 then lT c.file 1 c.sign else if i=17 then lT c.file 2 c.sign else if i=18 then lT c.file 3 (qX c) else if i=19 then lT c.file 4 (qX c) else BN (wP r c s) iz (BN (wO c s) (fun n=>⟨true,n⟩) (fun _=>fa)) i):=by
   rfl
  generalize BN (wO c s) (fun n=>(⟨true,n⟩:Cell)) (fun _=>fa)=g1 at*;refine afJ (wP r c s) D.bool iz g1 ?_ ?_ ?_ ?_ (fun p hp g done=>?_) ?_
  ·intro p q hp hq h;simp[wP] at hp hq;rcases hp with rfl|rfl|rfl|rfl|rfl|rfl|rfl|rfl<;>rcases hq with rfl|rfl|rfl|rfl|rfl|rfl|rfl|rfl<;>first|rfl|(simp at h)
  ·intro p hp;simp[wP] at hp;rcases hp with rfl|rfl|rfl|rfl|rfl|rfl|rfl|rfl<;>simp
  ·simp[wP,fT,hlen,←F5,E8];rw[←Sr];by_cases h:c.due=-1<;>simp[h,abq]
  ·simp
  ·have hr:0≤p.1∧p.1<20:=by
        simp[wP] at hp;rcases hp with rfl|rfl|rfl|rfl|rfl|rfl|rfl|rfl<;>simp
   have hk:p.1.toNat<20:=by omega
   simp[axB,WJ,sZ,Jo g hk];refine⟨_,ajx _,?_⟩;simp[Jo g hk];exact hr
  simp;generalize BN (wP r c s) iz g1=g2 at*;have hho:(if c.holder<0 then D.int 0 else D.int c.holder)=D.int (qX c):=by
   unfold qX;split<;>rfl
  rw[hho];refine⟨_,Ic _ _ _ (by omega),_,Ic _ _ _ (by omega),_,Ic _ _ _ (by omega),_,Ic _ _ _ (by omega),_,Ic _ _ _ (by omega),?_⟩;rw[Sp];simp only[ams,ayA,amu,amt];refine abQ fun i hi=>?_;by_cases Lm:i=15
  ·subst Lm;simp
  by_cases Ln:i=16
  ·subst Ln;simp
  by_cases Lo:i=17
  ·subst Lo;simp
  by_cases Lp:i=18
  ·subst Lp;simp
  by_cases h19:i=19
  ·subst h19;simp
  simp[Lm,Ln,Lo,Lp,h19]
end Rm
namespace Rm
open Go Go.Proofs Cx
def M9 (n:Nat)(x:Int):Bool:=decide (x<0)||decide ((n:Int)≤x)
def mA (r:Realm)(a q:Int)(l:List Int):Bool:=
 !(decide (a<0)||decide ((r.orders.length:Int)≤a)||decide (q<0)||decide (22≤q)||decide (l.length≠5))&& !((List.range l.length).any fun k=>M9 r.orders.length (l.getD k 0))
theorem aoF (x n:Int):aj T 216 [.int x,.ref (.int n)] (.bool (decide (x<0)||decide (n≤x))):=by
 refine .of_tree rfl (lA 36 (by kernel_rfl)) azA ?_;by_cases h:x<0<;>simp[XX,h]
theorem acJ (r:Realm)(a q:Int)(l:List Int)(hl:l.length≤100000):aj T 197 [aT r,.int a,.int q,ints l] (.bool (mA r a q l)):=by
 refine .of_tree rfl (lA 35 (by kernel_rfl)) azB ?_;by_cases h1:a<0
 ·simp[wY,mA,h1]
 by_cases h2:(r.orders.length:Int)≤a
 ·simp[wY,mA,h1,h2]
 by_cases h3:q<0
 ·simp[wY,mA,h1,h2,h3]
 by_cases h4:22≤q
 ·simp[wY,mA,h1,h2,h3,h4]
 by_cases h5:(l.length:Int)=5
 ·have Lr:l.length=5:=by omega
  simp[wY,h1,h2,h3,h4,Lr];refine⟨_,akP l 216 [.ref (.int r.orders.length)] (fun k=>M9 r.orders.length (l.getD k 0)) (fun k hk=>by simpa [M9,hk] using aoF l[k] r.orders.length) (by omega),?_⟩;simp only[mA,Lr];simp[h1,h2,h3,h4]
 ·have Lr:¬l.length=5:=by omega
  simp[wY,mA,h1,h2,h3,h4,Lr];intro h;omega
theorem RB {r:Realm}{a q:Int}{l:List Int}(h:mA r a q l=true):(0≤a∧a<r.orders.length)∧l.length=5∧(∀x,x∈l→0≤x∧x<r.orders.length)∧∀b:Int,0≤b→b<r.orders.length→mA r b q l=true:=by
 unfold mA at h ⊢;rw[aw] at h;obtain⟨h1,h2⟩:=h;simp at h1;refine⟨by omega,h1.2,fun x hx=>?_,fun b jF dG=>?_⟩
 ·obtain⟨k,hk,rfl⟩:=fX hx;simp[M9] at h2;have:=h2 k hk;simp[hk] at this;omega
 ·rw[h2];simp;omega
def DM (r:Realm):Prop:=∀o,o∈r.orders→o.choices.length≤100000∧∀ch,ch∈o.choices→0≤ch.by_∧ch.by_<5
def y8 (q:Int)(ch:Choice):Bool:=decide (ch.ask=q)&&decide (ch.by_≠0)
def pH (r:Realm)(a:Int):Order:=r.orders.getD a.toNat default
def gu (r:Realm)(a q:Int)(l:List Int):Int×Bool:=
 (match(pH r a).choices.find? (y8 q) with|some ch=>l.getD ch.by_.toNat 0|none=>a,match(pH r a).choices.find? (y8 q) with|some ch=>ch.whole|none=>false)
theorem aaS (r:Realm)(qP:DM r)(a q:Int)(l:List Int)(hl:l.length≤100000)(hf:mA r a q l=true):
 aj T 198 [aT r,.int a,.int q,ints l] (.tup [.int (gu r a q l).1,.bool (gu r a q l).2])∧0≤(gu r a q l).1∧(gu r a q l).1<r.orders.length:=by
 obtain⟨ha,hl5,hx,_⟩:=RB hf;have B2:a.toNat<r.orders.length:=by omega
 obtain⟨aZ,kB⟩:=qP _ (bW B2);obtain⟨o,ho⟩:∃o,o=r.orders[a.toNat]:=⟨_,rfl⟩
 rw[←ho] at aZ kB;have SX:pH r a=o:=by rw[ho];simp[pH,B2]
 unfold gu;rw[SX];refine⟨?_,?_⟩
 ·refine .of_tree rfl (lA 39 (by kernel_rfl)) azz ?_;simp[XW];refine⟨_,acJ r a q l hl,?_⟩;simp[hf,B2,←ho,ha];refine aK.scan o.choices.length (fun k=>y8 q (o.choices.getD k default)=false) (fun k=>[.int 0,.bool false,.int k]) (fun _=>[]) ?_ (fun k hk hj ax=>?_) (fun k hk hj ax=>?_) (fun hj=>?_)
  ·simp
  ·have hw:=bu hk (by omega);have hn:¬(o.choices[k].ask=q∧¬o.choices[k].by_=0):=by simpa [y8,hk] using ax
   simp[V7,Hh,B2,←ho,hk,hw,hn]
  ·have pf:=E4 hk (by simpa [hk] using ax) (fun j bK=>by have:=hj j bK;simpa [show j<o.choices.length by omega] using this);rw[pf];have hc:o.choices[k].ask=q∧¬o.choices[k].by_=0:=by simpa [y8,hk] using ax
   have hb:=kB _ (bW hk);have Fq:o.choices[k].by_.toNat<l.length:=by omega
   simp[V7,Hh,B2,←ho,hk,hc,ints,Fq];omega
  ·have pf:=Lc (l:=o.choices) (p:=y8 q) (fun j bK=>by have:=hj j bK;simpa [bK] using this);rw[pf];simp[V7,Hh,B2,←ho]
 ·cases pf:o.choices.find? (y8 q) with
  |none=>exact ha
  |some ch=>
   have hb:=kB _ (DQ pf);have Fq:ch.by_.toNat<l.length:=by omega
   simp[Fq];exact hx _ (bW Fq)
theorem Vr:∀(N:Nat) (l:List Int),l.Nodup→(∀x,x∈l→0≤x∧x<(N:Int))→l.length≤N
 |0,l,hn,h=>by
  cases l with
  |nil=>simp
  |cons a l=>have:=h a (by simp);omega
 |N+1,l,hn,h=>by
  by_cases hm:(N:Int)∈l
  ·have h1:=Vr N (l.erase (N:Int)) (hn.erase _) (fun x hx=>by
    have dh:=(hn.mem_erase_iff).mp hx;have:=h x dh.2;have ay:=dh.1;omega)
   rw[List.length_erase_of_mem hm] at h1;omega
  ·have h1:=Vr N l hn (fun x hx=>by
    have:=h x hx;have ay:x≠(N:Int):=fun e=>hm (e▸hx);omega)
   omega
def dw (l:List Int):Int:=l.getD (l.length-1) 0
def ly (r:Realm)(q:Int)(l:List Int):Nat→List Int→List Int×Int
 |0,p=>(p,0)
 |n+1,p=>
  if(gu r (dw p) q l).1=dw p then(p,0)
  else if(gu r (dw p) q l).2=false∨(hasB p (gu r (dw p) q l).1=true∧(pH r (gu r (dw p) q l).1).accepts=true) then(p++[(gu r (dw p) q l).1],0)
  else if hasB p (gu r (dw p) q l).1=true then(p++[(gu r (dw p) q l).1],12)
  else ly r q l n (p++[(gu r (dw p) q l).1])
theorem TW (r:Realm)(q:Int)(l:List Int)(n:Nat)(p:List Int):ly r q l (n+1) p=
 if(gu r (dw p) q l).1=dw p then(p,0)
 else if(gu r (dw p) q l).2=false∨(hasB p (gu r (dw p) q l).1=true∧(pH r (gu r (dw p) q l).1).accepts=true) then(p++[(gu r (dw p) q l).1],0)
 else if hasB p (gu r (dw p) q l).1=true then(p++[(gu r (dw p) q l).1],12)
 else ly r q l n (p++[(gu r (dw p) q l).1]):=rfl
def jJ (r:Realm)(a q:Int)(l:List Int):List Int×Int:=if mA r a q l=true∧l.getD 0 0=a then ly r q l r.orders.length [a] else([],1)
theorem ak3 (r:Realm)(qP:DM r)(hn:r.orders.length≤100000)(a q:Int)(l:List Int)(hl:l.length≤100000):aj T 180 [aT r,.int a,.int q,ints l] (.tup [ints (jJ r a q l).1,.int (jJ r a q l).2]):=by
 refine .of_tree rfl (lA 34 (by kernel_rfl)) azy ?_;simp[XV];refine⟨_,acJ r a q l hl,?_⟩;cases hf:mA r a q l
 ·simp[jJ,hf];rfl
 obtain⟨ha,hl5,hx,yt⟩:=RB hf;have h0:0<l.length:=by omega
 by_cases yE:l[0]=a
 ·have hE:jJ r a q l=ly r q l r.orders.length [a]:=by unfold jJ;rw[if_pos ⟨hf,by simp[h0,yE]⟩]
  rw[hE];simp[h0,yE,ints];refine aK.forLoop (α:=Nat×List Int) (fun s vr vo=>vr=[.list [],.int 0,.none]∧vo=[ints s.2]∧s.2.Nodup∧(∀x,x∈s.2→0≤x∧x<(r.orders.length:Int))∧s.2≠[]∧s.1+s.2.length=r.orders.length+1∧ly r q l s.1 s.2=ly r q l r.orders.length [a]) (fun s=>s.1) (r.orders.length,[a]) ?_ ?_
  ·simp[ints];exact ha
  ·rintro⟨n,p⟩ vr vo ⟨rfl,rfl,bx,cf,ay,hlen,FI⟩;simp only at*;have jH:p.length≤r.orders.length:=Vr _ p bx cf;have FZ:0<p.length:=DP.mpr ay;obtain⟨m,rfl⟩:∃m,n=m+1:=⟨n-1,by omega⟩
   have af:p.length-1<p.length:=by omega
   have lj:dw p=p[p.length-1]:=by simp[dw,af]
   have yF:=cf _ (bW af);rw[←lj] at yF;obtain⟨BY,gn,gp⟩:=aaS r qP (dw p) q l hl (yt _ yF.1 yF.2);have SD:((p.length:Int)-1).toNat=p.length-1:=by omega
   have TG:IntKind.i64.wrap ((p.length:Int)-1)=(p.length:Int)-1:=aN (by omega);rw[←FI,TW];obtain⟨L,hL⟩:∃L,L=gu r (dw p) q l:=⟨_,rfl⟩
   rw[←hL] at BY gn gp ⊢;obtain⟨to,whole⟩:=L;simp only at BY gn gp;have yU:to.toNat<r.orders.length:=by omega
   have SX:pH r to=r.orders[to.toNat]:=by simp[pH,yU]
   simp only[SX];simp[axy,V6,TG,SD,af,←lj,ints];refine⟨by omega,_,BY,?_⟩;by_cases h1:to=dw p
   ·simp[h1]
   simp[h1];refine⟨_,xo p to (by omega),by omega,?_⟩;cases whole
   ·simp
   cases h2:hasB p to
   ·have dv:to∉p:=fun hm=>by
     have:hasB p to=true:=by simp[hasB,hm]
     rw[h2] at this;cases this
    simp[h2];refine⟨m,by omega,p++[to],by simp,?_,?_,by simp,by simp;omega,rfl⟩
    ·exact IZ.mpr ⟨bx,by simp,fun x hx y hy=>by simp at hy;subst hy;exact fun e=>dv (e▸hx)⟩
    ·intro x hx;rcases dN.mp hx with h|h
     ·exact cf x h
     ·simp at h;subst h;exact⟨gn,gp⟩
   ·cases h3:r.orders[to.toNat].accepts<;>simp[h2,h3,yU]<;>omega
 ·have hE:jJ r a q l=([],1):=by unfold jJ;rw[if_neg (by simp[h0,yE])]
  rw[hE];simp[h0,yE];rfl
end Rm
namespace Rm
open Go Go.Proofs Cx
def fc (f:File)(i:Int):Sign:=f.signs.getD i.toNat default
def mT (r:Realm)(forum:Int)(c:Case):List Int:=[forum,gX r (fc c.file c.sign).city,gX r c.file.bill.pay,gX r c.file.bill.city,gX r (r.firms.getD (fc c.file c.sign).who.toNat default).city]
def rY (r:Realm)(forum:Int)(c:Case):Prop:=(fc c.file c.sign).who<0∨(r.firms.length:Int)≤(fc c.file c.sign).who∨forum<0∨(r.orders.length:Int)≤forum
instance (r:Realm) (forum:Int) (c:Case):Decidable (rY r forum c):=by unfold rY;infer_instance
def kK (r:Realm)(forum:Int)(c:Case):List Int:=if rY r forum c then[] else if hasB (mT r forum c) (-1)=true then[] else mT r forum c
@[simp] theorem aFo (r:Realm)(x:Int):AA (aT r) x=gX r x:=by
  unfold AA gX aE;by_cases h:0≤x∧x<(r.cities.length:Int)
  ·have hx:x.toNat<r.cities.length:=by omega
   rw[if_pos (by simpa using h),if_pos (by simpa using h)];simp[hx]
  ·rw[if_neg (by simpa using h),if_neg (by simpa using h)]
theorem aif (r:Realm)(forum:Int)(c:Case)(h1:c.sign.toNat<c.file.signs.length):Vs [aT r,.int forum,fL c]=ints (kK r forum c):=by
 have hs:fc c.file c.sign=c.file.signs[c.sign.toNat]:=by simp[fc,h1]
 unfold Vs kK;simp[h1];by_cases hb:rY r forum c
 ·rw[if_pos (by simpa [rY,hs] using hb),if_pos hb];rfl
 ·rw[if_neg (by simpa [rY,hs] using hb),if_neg hb];have Me:(fc c.file c.sign).who.toNat<r.firms.length:=by unfold rY at hb;omega
  have aeN:c.file.signs[c.sign.toNat].who.toNat<r.firms.length:=by rw[←hs];exact Me
  have kD:mT r forum c=[forum,gX r c.file.signs[c.sign.toNat].city,gX r c.file.bill.pay,gX r c.file.bill.city,gX r r.firms[c.file.signs[c.sign.toNat].who.toNat].city]:=by
   simp[mT,hs,aeN]
  have dc:∀l:List Int,hasB l (-1)=true↔-1∈l:=fun l=>by simp[hasB]
  rw[kD];simp[aeN];split
  ·rename_i h;rw[if_pos ((dc _).mpr (by simpa using h))];rfl
  ·rename_i h;rw[if_neg (fun h'=>h (by simpa using(dc _).mp h'))]
theorem awF (r:Realm)(forum:Int)(c:Case)(h1:0≤c.sign∧c.sign<c.file.signs.length):aj T 179 [aT r,.int forum,fL c] (ints (kK r forum c)):=by
 have cJ:c.sign.toNat<c.file.signs.length:=by omega
 rw[←aif r forum c cJ];have hs:fc c.file c.sign=c.file.signs[c.sign.toNat]:=by simp[fc,cJ]
 refine aj.of_nsl rfl azb azc ?_;rw[aif r forum c cJ];by_cases hb:rY r forum c
 ·refine .inr ⟨by simp[kK,hb];rfl,?_⟩;have eB:=hb;simp[rY,hs] at eB;simp[O5,h1,cJ]
  intros;omega
 have sv:kK r forum c=if hasB (mT r forum c) (-1)=true then[] else mT r forum c:=by unfold kK;rw[if_neg hb]
 have eB:=hb;simp[rY,hs] at eB;have hw:c.file.signs[c.sign.toNat].who.toNat<r.firms.length:=by omega
 have hC:=xo (mT r forum c) (-1) (by simp[mT]);cases hh:hasB (mT r forum c) (-1)<;>rw[hh] at hC<;>simp[mT,ints,hs,hw] at hC
 ·refine .inl ⟨(mT r forum c).map .int,by simp[mT],by rw[sv,hh];rfl,?_⟩;simp[XB,h1,cJ,hw];rw[if_neg (by omega)];refine⟨_,rD r _,_,rD r _,_,rD r _,by omega,_,rD r _,_,by simpa using hC,?_⟩;simp[mT,hs,hw]
 ·refine .inr ⟨by rw[sv,hh];rfl,?_⟩;simp[O5,h1,cJ,hw]
  intros
  refine⟨_,rD r _,_,rD r _,_,rD r _,by omega,_,rD r _,_,by simpa using hC,?_⟩;simp
end Rm
namespace Rm
open Go Go.Proofs Cx
structure Right (r:Realm):Prop where
 by_:DM r
 len:r.orders.length≤100000
 ok:∀o,o∈r.orders→o.OK∧o.rules.length≤100000
structure FewS (f:File):Prop where
 signs:f.signs.length≤1000
 alters:f.alters.length≤1000
 acts:f.acts.length≤1000
 facts:f.facts.length≤1000
theorem akl {α:Type}(p:α→Bool)(l:List α):(l.takeWhile p).length≤l.length:=by
 obtain⟨m,h1,h2,_⟩:=Pk p l;rw[h2,ej];omega
theorem FewS.at_ {f:File}(h:FewS f)(day:Int):FewS (cH f day):=
 ⟨dO (akl _ _) h.1,dO (oM _ _) h.2,dO (akl _ _) h.3,dO (oM _ _) h.4⟩
def jv (c:Case):Case:={c with file:=cH c.file c.day}
@[simp] theorem aFf (x:File)(a0 a1 a2 a3 a4 a5 a6 a7 a8 a9 qm qn a12 qo qp tS tT a17 tV:D)(s h d u y:Int):jZ 24 (D.agg (dK [a0,a1,a2,a3,a4,a5,a6,a7,a8,a9,qm,qn,a12,qo,qp,tS,tT,a17,tV,.int s,.int h,.int d,.int u,.int y] 0 [.int x.bill.drawer,.int x.bill.drawee,.int x.bill.payee,.int x.bill.sum,.int x.bill.currency,.int x.bill.tenor.kind,.int x.bill.tenor.n,.int x.bill.tenor.unit,.int x.bill.day,.int x.bill.city,.int x.bill.pay,.int x.bill.need,.int x.bill.rate,.int x.bill.flags,.int x.bill.parts,signs x.signs,alters x.alters,acts x.acts,facts x.facts]))=fL ⟨x,s,h,d,u,y⟩:=_root_.id rfl
theorem alL (r:Realm)(c:Case)(hf:FewS c.file):aj T 177 [aT r,fL c] (.tup [fL (jv c),cells (kR r (jv c))]):=by
 refine .of_tree rfl (lA 22 (by kernel_rfl)) aza ?_;simp[XA];have h1:=hf.1;have h2:=hf.2;have h3:=hf.3;have h4:=hf.4;refine⟨_,WZ c.file c.day (by omega) (by omega) (by omega) (by omega),?_⟩;have LJ:=hf.at_ c.day;have h5:=LJ.4;have h6:=LJ.2;simp;exact⟨axM r (jv c) (by show(cH c.file c.day).facts.length≤_;omega) (by show(cH c.file c.day).alters.length≤_;omega),(congrArg (jZ 24) (awk (jv c) _ _ _ _ _ _ _ _ _ _ _ _ _ _ _ _ _ _ _ _ _ _ _ _)).trans (alD (jv c))⟩
theorem aBU {r:Realm}{c:Case}(h:kR r c≠[]):0≤c.sign∧c.sign<c.file.signs.length:=by
 unfold kR at h;split at h
 ·rename_i hh;have h1:=hh.1;unfold vl at h1;simp[aE] at h1;omega
 ·exact absurd rfl h
theorem afm (r:Realm)(qP:DM r)(q:Int)(l:List Int)(hl:l.length≤100000)(yt:∀b:Int,0≤b→b<r.orders.length→mA r b q l=true):∀(n:Nat) (p:List Int),p≠[]→(∀x,x∈p→0≤x∧x<(r.orders.length:Int))→
 (ly r q l n p).1≠[]∧∀x,x∈(ly r q l n p).1→0≤x∧x<(r.orders.length:Int)
 |0,p,ay,hp=>⟨ay,hp⟩
 |n+1,p,ay,hp=>by
  have af:p.length-1<p.length:=by have:=DP.mpr ay;omega
  have lj:dw p=p[p.length-1]:=by simp[dw,af]
  have yF:=hp _ (bW af);rw[←lj] at yF;obtain⟨_,ht⟩:=aaS r qP (dw p) q l hl (yt _ yF.1 yF.2)
  have aV:∀x,x∈p++[(gu r (dw p) q l).1]→0≤x∧x<(r.orders.length:Int):=fun x hx=>by
   rcases dN.mp hx with h|h
   ·exact hp x h
   ·simp at h;subst h;exact ht
  rw[TW];split
  ·exact⟨ay,hp⟩
  split
  ·exact⟨by simp,aV⟩
  split
  ·exact⟨by simp,aV⟩
  ·exact afm r qP q l hl yt n _ (by simp) aV
theorem afl {r:Realm}(hr:Right r){a q:Int}{l:List Int}(hl:l.length≤100000)(h:(jJ r a q l).2=0):(jJ r a q l).1≠[]∧0≤dw (jJ r a q l).1∧dw (jJ r a q l).1<r.orders.length:=by
 unfold jJ at h ⊢;split at h
 ·rename_i hh;rw[if_pos hh];obtain⟨ha,hl5,hx,yt⟩:=RB hh.1;obtain⟨h1,h2⟩:=afm r hr.by_ q l hl yt r.orders.length [a] (by simp) (fun x hx=>by simp at hx;subst hx;exact ha);refine⟨h1,?_⟩;have af:(ly r q l r.orders.length [a]).1.length-1<(ly r q l r.orders.length [a]).1.length:=by have:=DP.mpr h1;omega
  have lj:dw (ly r q l r.orders.length [a]).1=(ly r q l r.orders.length [a]).1[(ly r q l r.orders.length [a]).1.length-1]:=by simp[dw,af]
  rw[lj];exact h2 _ (bW af)
 ·cases h
theorem afn (r:Realm)(q:Int)(l:List Int):∀(n:Nat) (p:List Int),(ly r q l n p).1.length≤p.length+n
 |0,p=>by simp[ly]
 |n+1,p=>by
  rw[TW];split
  ·simp
  split
  ·simp
  split
  ·simp
  ·have:=afn r q l n (p++[(gu r (dw p) q l).1]);simp at this;omega
theorem atN (r:Realm)(a q:Int)(l:List Int):(jJ r a q l).1.length≤1+r.orders.length:=by
 unfold jJ;split
 ·exact afn r q l _ [a]
 ·simp
@[simp] theorem aJd (a b c d e x:D):dK [a,b,c,d,e] 2 [x]=[a,b,x,d,e]:=_root_.id rfl
@[simp] theorem aJe (a b c d e x:D):dK [a,b,c,d,e] 3 [x]=[a,b,c,x,e]:=_root_.id rfl
@[simp] theorem aJf (a b c d e x:D):dK [a,b,c,d,e] 4 [x]=[a,b,c,d,x]:=_root_.id rfl
def Uf:Said:=⟨fa,-1,[],1⟩
def kq (r:Realm)(forum q:Int)(c:Case):Said×List Cell:=
 if kR r (jv c)=[] then(Uf,[]) else if(rM q).2=false then(Uf,[]) else if kK r forum (jv c)=[] then(Uf,[]) else
    (⟨fa,if(jJ r forum q (kK r forum (jv c))).2=0 then dw (jJ r forum q (kK r forum (jv c))).1 else-1,(jJ r forum q (kK r forum (jv c))).1,(jJ r forum q (kK r forum (jv c))).2⟩,kR r (jv c))
theorem aih (r:Realm)(forum:Int)(c:Case):(kK r forum c).length≤5:=by
 unfold kK;split
 ·simp
 split<;>simp[mT]
theorem alK (r:Realm)(hr:Right r)(forum q:Int)(c:Case)(hf:FewS c.file):aj T 144 [aT r,.int forum,.int q,fL c] (.tup [qK (kq r forum q c).1,cells (kq r forum q c).2]):=by
 refine .of_tree rfl (lA 21 (by kernel_rfl)) ay9 ?_;simp[Xz];refine⟨_,alL r c hf,?_⟩;by_cases hv:kR r (jv c)=[]
 ·simp[hv,kq];exact⟨rfl,rfl⟩
 simp[hv,kq];refine⟨_,Vk q,?_⟩;cases hq:(rM q).2
 ·simp[hq];exact⟨rfl,rfl⟩
 simp[hq];refine⟨_,awF r forum (jv c) (aBU hv),?_⟩;by_cases hp:kK r forum (jv c)=[]
 ·simp[hp];exact⟨rfl,rfl⟩
 have jH:=aih r forum (jv c);have ay:ints (kK r forum (jv c))≠.list []:=fun e=>hp (by simpa [ints] using e);simp[hp];generalize kK r forum (jv c)=l at*;refine⟨_,ak3 r hr.by_ hr.len forum q l (by omega),?_⟩;have hlen:=atN r forum q l;have FI:=afl hr (a:=forum) (q:=q) (l:=l) (by omega);have S5:=hr.len;generalize jJ r forum q l=L at*;obtain⟨path,err⟩:=L;simp only at*;by_cases he:err=0
 ·obtain⟨h1,h2⟩:=FI he;have FZ:=DP.mpr h1;have TG:IntKind.i64.wrap ((path.length:Int)-1)=(path.length:Int)-1:=aN (by omega);have SD:((path.length:Int)-1).toNat=path.length-1:=by omega
  have af:path.length-1<path.length:=by omega
  have lj:dw path=path[path.length-1]:=by simp[dw,af]
  simp[he,TG,SD,af,←lj];exact⟨by omega,rfl⟩
 ·simp[he];rfl
def D5 (r:Realm)(forum q:Int)(c:Case):Said:=
 if(kq r forum q c).1.order=-1 then(kq r forum q c).1
 else⟨(Ax (pH r (kq r forum q c).1.order) q (kq r forum q c).2).1,(kq r forum q c).1.order,(kq r forum q c).1.path,(Ax (pH r (kq r forum q c).1.order) q (kq r forum q c).2).2⟩
theorem alI {r:Realm}(hr:Right r)(forum q:Int)(c:Case):(kq r forum q c).1.order=-1∨(0≤(kq r forum q c).1.order∧(kq r forum q c).1.order<r.orders.length):=by
 unfold kq;split
 ·exact .inl rfl
 split
 ·exact .inl rfl
 split
 ·exact .inl rfl
 ·have jH:=aih r forum (jv c);have FI:=afl hr (a:=forum) (q:=q) (l:=kK r forum (jv c)) (by omega);show(if _ then _ else _)=_∨_;split
  ·rename_i h;exact .inr (FI h).2
  ·exact .inl rfl
theorem abt (r:Realm)(hr:Right r)(forum q:Int)(c:Case)(hf:FewS c.file):aj T 103 [aT r,.int forum,.int q,fL c] (qK (D5 r forum q c)):=by
 refine .of_tree rfl (lA 20 (by kernel_rfl)) ay4 ?_;simp[Xu];refine⟨_,alK r hr forum q c hf,?_⟩;have ho:=alI hr forum q c;unfold D5;generalize kq r forum q c=S at*;obtain⟨s,cs⟩:=S;simp only at*;by_cases h:s.order=-1
 ·obtain⟨⟨kn,n⟩,o,pth,e⟩:=s;simp only at h;subst h;simp;rfl
 ·have h1:0≤s.order∧s.order<r.orders.length:=by omega
  have h2:s.order.toNat<r.orders.length:=by omega
  have h3:pH r s.order=r.orders[s.order.toNat]:=by simp[pH,h2]
  obtain⟨ax,hlen⟩:=hr.ok _ (bW h2);simp[h,h1,h2,h3];refine⟨_,awe _ q cs ax (by omega),?_⟩;simp;rfl
def nv (r:Realm)(forum q:Int)(f:File)(day:Int):Said:=D5 r forum q ⟨{f with facts:=[]},0,-1,-1,-1,day⟩
theorem abu (r:Realm)(hr:Right r)(forum q:Int)(f:File)(day:Int)(hf:FewS f):aj T 64 [aT r,.int forum,.int q,cg f,.int day] (qK (nv r forum q f day)):=by
 refine .of_tree rfl (lA 19 (by kernel_rfl)) ay5 ?_;simp[Xv];refine⟨qK (nv r forum q f day),abt r hr forum q ⟨{f with facts:=[]},0,-1,-1,-1,day⟩ ⟨hf.1,hf.2,hf.3,by simp⟩,?_⟩;simp
 try rfl
def IC (s:Said):Int:=if s.err≠0 then 0 else if s.cell.known=false then 2 else if s.cell.n≠0 then 1 else 0
theorem abv (s:Said):aj T 78 [qK s] (.int (IC s)):=by
 refine .of_tree rfl (lA 60 (by kernel_rfl)) ay8 ?_;unfold IC;by_cases h1:s.err=0<;>cases h2:s.cell.known<;>by_cases h3:s.cell.n=0<;>simp[Xy,h1,h2,h3]
def rh (s:Said):Int:=if s.err≠0∨s.cell.known=false then-1 else s.cell.n
theorem alJ (s:Said):aj T 63 [qK s] (.int (rh s)):=by
 refine .of_tree rfl (lA 62 (by kernel_rfl)) ay7 ?_;unfold rh;by_cases h1:s.err=0<;>cases h2:s.cell.known<;>simp[Xx,h1,h2]
end Rm
namespace Rm
open Go Go.Proofs Cx
def lK (day:Int)(l:List Act)(es:List (D×D)):List (D×D):=l.foldl (fun es a=>if a.kind=7∧a.day≤day then fT (.int a.at_) (.bool true) es else es) es
theorem ayD (day:Int)(l:List Act){k:Nat}(hk:k<l.length):lK day (l.take (k+1)) []=if l[k].kind=7∧l[k].day≤day then fT (.int l[k].at_) (.bool true) (lK day (l.take k) []) else lK day (l.take k) []:=by
 unfold lK;rw[il hk,rT];rfl
theorem aip (k v:D):∀es:List (D×D),(fT k v es).length≤es.length+1
 |[]=>by simp[fT]
 |e::es=>by
  unfold fT;split
  ·simp
  ·have:=aip k v es;simp;omega
theorem aj3 (day:Int):∀(l:List Act) (es:List (D×D)),(lK day l es).length≤es.length+l.length
 |[],es=>by simp[lK]
 |a::l,es=>by
  have h:=aj3 day l (if a.kind=7∧a.day≤day then fT (.int a.at_) (.bool true) es else es);have hp:=aip (.int a.at_) (.bool true) es;show(lK day l (if a.kind=7∧a.day≤day then fT (.int a.at_) (.bool true) es else es)).length≤_;split at h
  ·rename_i hc;rw[if_pos hc];simp;omega
  ·rename_i hc;rw[if_neg hc];simp;omega
theorem ay1 (f:File)(day:Int)(hl:f.acts.length≤100000):aj T 124 [cg f,.int day] (.map (lK day f.acts [])):=by
 refine .of_tree rfl (lA 101 (by kernel_rfl)) aBB ?_;simp[Z0];refine aK.forRounds f.acts.length (fun k=>[.int k]) (fun k=>[.map (lK day (f.acts.take k) [])]) ?_ (fun k hk=>?_) ?_
 ·simp[lK]
 ·have hw:=bu hk (by omega);have hs:=ayD day f.acts hk;have hlen:=aj3 day (f.acts.take k) [];rw[hs];simp at hlen;generalize lK day (f.acts.take k) []=es at*;by_cases hc:f.acts[k].kind=7∧f.acts[k].day≤day
  ·simp[WW,H9,hk,hw,hc];omega
  ·simp[WW,H9,hk,hw,hc]
 ·simp[WW,H9]
theorem aiq {k v:D}:∀{es:List (D×D)} {e:D×D},e∈fT k v es→e.2=v∨e∈es
 |[],e,h=>by simp[fT] at h;exact .inl (by rw[h])
 |x::es,e,h=>by
  unfold fT at h;split at h
  ·rcases cC.mp h with rfl|h
   ·exact .inl rfl
   ·exact .inr (by simp[h])
  ·rcases cC.mp h with rfl|h
   ·exact .inr (by simp)
   ·rcases aiq h with h|h
    ·exact .inl h
    ·exact .inr (by simp[h])
theorem aj4 (day:Int):∀(l:List Act) (es:List (D×D)),(∀e,e∈es→e.2=.bool true)→∀e,e∈lK day l es→e.2=.bool true
 |[],es,h,e,he=>h e he
 |a::l,es,h,e,he=>by
  refine aj4 day l (if a.kind=7∧a.day≤day then fT (.int a.at_) (.bool true) es else es) (fun x hx=>?_) e he;split at hx
  ·rcases aiq hx with h'|h'
   ·exact h'
   ·exact h x h'
  ·exact h x hx
theorem afv {k d:D}:∀{es:List (D×D)},jL k es=some d→∃e,e∈es∧e.2=d
 |x::es,h=>by
  unfold jL at h;split at h
  ·exact⟨x,by simp,by simpa using h⟩
  ·obtain⟨e,h1,h2⟩:=afv h;exact⟨e,by simp[h1],h2⟩
theorem ayC (day:Int)(l:List Act)(k:D):(jL k (lK day l [])).getD (.bool false)=.bool ((jL k (lK day l [])).getD (.bool false)).b:=by
 cases h:jL k (lK day l []) with
 |none=>rfl
 |some d=>
  obtain⟨e,h1,h2⟩:=afv h;have:=aj4 day l [] (fun e h=>by cases h) e h1;rw[h2] at this;rw[this];rfl
def OR (f:File)(sign day:Int):Bool:=aE sign f.signs.length&&((jL (.int sign) (lK day f.acts [])).getD (.bool false)).b
theorem ay0 (f:File)(sign day:Int)(hl:f.acts.length≤100000):aj T 79 [cg f,.int sign,.int day] (.bool (OR f sign day)):=by
 refine .of_tree rfl (lA 100 (by kernel_rfl)) aBA ?_;by_cases h1:0≤sign<;>by_cases h2:sign<f.signs.length<;>simp[ZZ,h1,h2,OR,aE];refine⟨_,ay1 f day hl,?_⟩;exact ayC day f.acts (.int sign)
def oD (f:File)(sign:Int)(n:Nat):Int:=(f.alters.take n).foldl (fun s a=>if a.at_≤sign then a.sum else s) f.bill.sum
theorem aws (f:File)(sign:Int)(hl:f.alters.length≤100000):aj T 125 [cg f,.int sign] (.int (oD f sign f.alters.length)):=by
 refine .of_tree rfl (lA 105 (by kernel_rfl)) azQ ?_;simp[Yc];refine aK.forRounds f.alters.length (fun k=>[.int (oD f sign k),.int k]) (fun k=>[]) ?_ (fun k hk=>?_) ?_
 ·simp[oD]
 ·have hw:=bu hk (by omega);have hs:oD f sign (k+1)=if f.alters[k].at_≤sign then f.alters[k].sum else oD f sign k:=by
   unfold oD;rw[il hk,rT];rfl
  rw[hs];generalize oD f sign k=s at*;by_cases hc:f.alters[k].at_≤sign<;>simp[aje,N2,hk,hw,hc]
 ·simp[aje,N2]
end Rm
namespace Rm
open Go Go.Proofs Cx
theorem Ml (r:Realm)(c:Int):aj T 104 [aT r,.int c] (.bool (aE c r.cities.length)):=by
 refine .of_tree rfl (lA 82 (by kernel_rfl)) aBj ?_;by_cases h1:0≤c<;>by_cases h2:c<r.cities.length<;>simp[ZJ,h1,h2,aE]
def iN (n:Int):Bool:=decide (0≤n)&&decide (n≤100000)
theorem Gk (n:Int):aj T 105 [.int n] (.bool (iN n)):=by
 refine .of_tree rfl (lA 83 (by kernel_rfl)) aBk ?_;by_cases h1:0≤n<;>by_cases h2:n≤100000<;>simp[ZK,h1,h2,iN]
theorem IF (n:Int):aj T 184 [.int n] (.bool (iN n)):=by
 refine .of_tree rfl (lA 88 (by kernel_rfl)) azu ?_;by_cases h1:0≤n<;>by_cases h2:n≤100000<;>simp[XR,h1,h2,iN]
def OH (t:Tenor):Bool:=decide (t.kind=0)||decide (t.kind=1)
theorem P0 (t:Tenor):aj T 106 [uh t] (.bool (OH t)):=by
 refine .of_tree rfl (lA 84 (by kernel_rfl)) aBi ?_;by_cases h1:t.kind=0<;>simp[ZI,h1,OH]
theorem af7 (y m d:Int):∃n:Int,aj T 222 [.int y,.int m,.int d] (.int n):=by
 by_cases h:m<3
 ·refine⟨?w,?h⟩
  case h=>
   refine aj.of_tree (d:=.int ?w) rfl aby ake ?_;simp[Pa,h];exact rfl
 ·refine⟨?v,?g⟩
  case g=>
   refine aj.of_tree (d:=.int ?v) rfl aby ake ?_;simp[Pa,h];exact rfl
def Gz (y m d:Int):Int:=(af7 y m d).choose
theorem MI (y m d:Int):aj T 222 [.int y,.int m,.int d] (.int (Gz y m d)):=(af7 y m d).choose_spec
def CB (y m:Int):Int:=if m=12 then 31 else IntKind.i64.wrap (Gz y (IntKind.i64.wrap (m+1)) 1-Gz y m 1)
theorem Ms (y m:Int):aj T 205 [.int y,.int m] (.int (CB y m)):=by
 refine .of_tree rfl (lA 90 (by kernel_rfl)) azs ?_;unfold CB;by_cases h:m=12
 ·simp[O9,h]
 ·simp[O9,h];refine⟨_,MI _ _ _,_,MI _ _ _,?_⟩;simp
theorem akR (y m d:Int):∃n e:Int,aj T 204 [.int y,.int m,.int d] (.tup [.int n,.int e])∧(e=0→0≤n∧n≤100000):=by
 by_cases h0:(((2000≤y∧y≤2300)∧1≤m)∧m≤12)∧1≤d
 ·by_cases h2:d≤CB y m
  ·cases h1:iN (Gz y m d)
   ·refine⟨0,3,.of_tree rfl Jh O8 ?_,by simp⟩;simp[DA];rw[if_pos h0];refine⟨_,Ms y m,?_⟩;simp[h0,h2];refine⟨_,MI _ _ _,_,IF _,?_⟩;simp[h1]
   ·refine⟨Gz y m d,0,.of_tree rfl Jh O8 ?_,fun _=>by simpa [iN] using h1⟩;simp[DA];rw[if_pos h0];exact⟨_,Ms y m,⟨h0,h2⟩,_,MI _ _ _,_,IF _,h1,rfl⟩
  ·refine⟨0,3,.of_tree rfl Jh O8 ?_,by simp⟩;simp[DA];rw[if_pos h0];refine⟨_,Ms y m,?_⟩;simp[h0,h2]
 ·refine⟨0,3,.of_tree rfl Jh O8 ?_,by simp⟩;simp[DA];rw[if_neg h0];intro a1 a2 a3 a4 a5;exact absurd ⟨⟨⟨⟨a1,a2⟩,a3⟩,a4⟩,a5⟩ h0
theorem abi (r:Realm)(fr to:Int)(hl:r.usances.length≤100000):∃n e:Int,aj T 97 [aT r,.int fr,.int to] (.tup [.int n,.int e])∧(e=0→∃u,u∈r.usances∧n=u.days)∧(e=0↔∃u,u∈r.usances∧u.fr=fr∧u.to=to):=by
 let p:Usance→Bool:=fun u=>decide (u.fr=fr)&&decide (u.to=to)
 refine⟨match r.usances.find? p with|some u=>u.days|none=>0,match r.usances.find? p with|some u=>0|none=>4,?_,?_⟩
 ·refine .of_tree rfl (lA 93 (by kernel_rfl)) aAN ?_;simp[Ze];refine aK.scan r.usances.length (fun k=>p (r.usances.getD k default)=false) (fun k=>[.int 0,.int 0,.int k]) (fun _=>[]) ?_ (fun k hk hj ax=>?_) (fun k hk hj ax=>?_) (fun hj=>?_)
  ·simp
  ·have hw:=bu hk (by omega);have hn:¬(r.usances[k].fr=fr∧r.usances[k].to=to):=by simpa [p,hk] using ax
   simp[Wt,HG,hk,hw,hn]
  ·have pf:=E4 hk (by simpa [hk] using ax) (fun j bK=>by have:=hj j bK;simpa [show j<r.usances.length by omega] using this);have hc:r.usances[k].fr=fr∧r.usances[k].to=to:=by simpa [p,hk] using ax
   rw[pf];simp[Wt,HG,hk,hc]
  ·have pf:=Lc (l:=r.usances) (p:=p) (fun j bK=>by have:=hj j bK;simpa [bK] using this);rw[pf];simp[Wt,HG]
 ·cases h:r.usances.find? p with
  |none=>
   refine⟨fun h=>(by cases h),fun h=>(by cases h),fun⟨u,hu,h1,h2⟩=>?_⟩;have:=An.1 h u hu;simp[p,h1,h2] at this
  |some u=>
   have h2:u.fr=fr∧u.to=to:=by simpa [p] using PB h
   exact⟨fun _=>⟨u,DQ h,rfl⟩,fun _=>⟨u,DQ h,h2⟩,fun _=>rfl⟩
theorem alp (r:Realm)(fr to:Int)(hl:r.usances.length≤100000):∃n e:Int,aj T 97 [aT r,.int fr,.int to] (.tup [.int n,.int e])∧(e=0→∃u,u∈r.usances∧n=u.days):=by
 obtain⟨n,e,h1,h2,_⟩:=abi r fr to hl;exact⟨n,e,h1,h2⟩
end Rm
