/-
  Shared texts of this claim.
-/
import Derived.Test.YtibbcfbmjlehcaaGreatDoorNAO
import Derived.Lib.Mul64
set_option linter.defProp false
set_option linter.unusedSimpArgs false
set_option linter.unusedVariables false
noncomputable section
open Go.IntKind (i64)
namespace Rm
open Go Go.Proofs Cx
abbrev u (n:Nat):D:=.v (.int .u64 n)
def Iz (n:Int):IntKind.u64.wrap n=n%18446744073709551616:=rfl
def kI {n:Int}(h:0<=n/\n<18446744073709551616):IntKind.u64.wrap n=n:=by
 rw[Iz];omega
def j6 {n:Nat}(h:n<18446744073709551616):IntKind.u64.wrap (n:Int)=n:=kI (by omega)
def Ik (a s:Nat)(h:s<=64):bW .shr .u64 a s=((a/2^s:Nat):Int):=by
 show Int.fdiv (a:Int) (2^(min (s:Int).toNat 64))=_;have:min (s:Int).toNat 64=s:=by simp;omega
 rw[this,akd _ (Int.le_of_lt (Int.pow_pos (by decide)))];rw[Int.natCast_ediv,Int.natCast_pow];rfl
def WD (a s:Nat)(h:s<=64):bW .shl .u64 a s=((a*2^s%18446744073709551616:Nat):Int):=by
 show IntKind.u64.wrap ((a:Int)*(2^(min (s:Int).toNat 64)))=_;have:min (s:Int).toNat 64=s:=by simp;omega
 rw[this,Iz,Int.natCast_emod,Int.natCast_mul,Int.natCast_pow];rfl
def DY (a:Nat)(h:a<18446744073709551616):bW .and .u64 a 4294967295=((a%4294967296:Nat):Int):=by
 show IntKind.u64.wrap ((BitVec.ofInt 64 (a:Int)&&& BitVec.ofInt 64 4294967295).toNat:Nat)=_;have e:(BitVec.ofInt 64 (a:Int)&&& BitVec.ofInt 64 4294967295).toNat=a%4294967296:=by
  rw[BitVec.toNat_and];have e1:(BitVec.ofInt 64 (a:Int)).toNat=a:=by simp[BitVec.ofInt,BitVec.toNat_ofNat];omega
  have e2:(BitVec.ofInt 64 4294967295).toNat=2^32-1:=by decide
  rw[e1,e2,Nat.and_two_pow_sub_one_eq_mod]
 rw[e,j6 (by omega)]
@[simp] def dH (a:Nat):bW .shr .u64 a 32=((a/4294967296:Nat):Int):=Ik a 32 (by decide)
@[simp] def aHQ (a:Nat):bW .shr .u64 a 16=((a/65536:Nat):Int):=Ik a 16 (by decide)
@[simp] def aHR (a:Nat):bW .shr .u64 a 8=((a/256:Nat):Int):=Ik a 8 (by decide)
set_option maxHeartbeats 2000000 in
def afp (a b:Nat)(ha:a<18446744073709551616)(hb:b<18446744073709551616):ah T 79 [u a,u b] (.tup [u (a*b/18446744073709551616),u (a*b%18446744073709551616)]):=by
 refine zyw 58 aya ?_;obtain⟨h1,h2,h3,h4⟩:=Go.Lib.mul64_hi a b ha hb;have elo:IntKind.u64.wrap ((a:Int)*(b:Int))=((a*b%18446744073709551616:Nat):Int):=by rw[Iz,Int.natCast_emod,Int.natCast_mul];rfl
 have QL:bW .shr .u64 (a:Int) 32=((a/4294967296:Nat):Int):=dH a;have ea0:bW .and .u64 (a:Int) 4294967295=((a%4294967296:Nat):Int):=DY a ha;have QM:bW .shr .u64 (b:Int) 32=((b/4294967296:Nat):Int):=dH b;have eb0:bW .and .u64 (b:Int) 4294967295=((b%4294967296:Nat):Int):=DY b hb;have aF7:=Go.Lib.half_mul_le (a:=a/4294967296) (b:=b/4294967296) (by omega) (by omega);have aF6:=Go.Lib.half_mul_le (a:=a/4294967296) (b:=b%4294967296) (by omega) (by omega);have aF5:=Go.Lib.half_mul_le (a:=a%4294967296) (b:=b/4294967296) (by omega) (by omega);have aF4:=Go.Lib.half_mul_le (a:=a%4294967296) (b:=b%4294967296) (by omega) (by omega);have B0:a*b/18446744073709551616<18446744073709551616:=by
  have:a*b<18446744073709551616*18446744073709551616:=Nat.mul_lt_mul'' ha hb;exact Nat.div_lt_of_lt_mul this
 simp only[Xj];generalize a/4294967296=a1 at*;generalize a%4294967296=a0 at*;generalize b/4294967296=b1 at*;generalize b%4294967296=b0 at*;have p11:IntKind.u64.wrap ((a1:Int)*(b1:Int))=((a1*b1:Nat):Int):=by rw[<-Int.natCast_mul];exact j6 (by omega)
 have p10:IntKind.u64.wrap ((a1:Int)*(b0:Int))=((a1*b0:Nat):Int):=by rw[<-Int.natCast_mul];exact j6 (by omega)
 have p01:IntKind.u64.wrap ((a0:Int)*(b1:Int))=((a0*b1:Nat):Int):=by rw[<-Int.natCast_mul];exact j6 (by omega)
 have p00:IntKind.u64.wrap ((a0:Int)*(b0:Int))=((a0*b0:Nat):Int):=by rw[<-Int.natCast_mul];exact j6 (by omega)
 rw[<-h4] at B0 ⊢;generalize a1*b1=P at*;generalize a1*b0=Q at*;generalize a0*b1=R at*;generalize a0*b0=S at*;have s1:bW .shr .u64 (S:Int) 32=((S/4294967296:Nat):Int):=dH S;have s2:IntKind.u64.wrap ((Q:Int)+((S/4294967296:Nat):Int))=((Q+S/4294967296:Nat):Int):=by rw[kI (by omega)];omega
 generalize S/4294967296=S1 at*;generalize hT:Q+S1=TT at*;have s3:bW .shr .u64 (TT:Int) 32=((TT/4294967296:Nat):Int):=dH TT;have s4:bW .and .u64 (TT:Int) 4294967295=((TT%4294967296:Nat):Int):=DY TT (by omega);have s5:IntKind.u64.wrap (((TT%4294967296:Nat):Int)+(R:Int))=((TT%4294967296+R:Nat):Int):=by rw[kI (by omega)];omega
 generalize hU:TT%4294967296+R=U at*;have s6:bW .shr .u64 (U:Int) 32=((U/4294967296:Nat):Int):=dH U;have s7:IntKind.u64.wrap ((P:Int)+((TT/4294967296:Nat):Int))=((P+TT/4294967296:Nat):Int):=by rw[kI (by omega)];omega
 have s8:IntKind.u64.wrap (((P+TT/4294967296:Nat):Int)+((U/4294967296:Nat):Int))=((P+TT/4294967296+U/4294967296:Nat):Int):=by rw[kI (by omega)];omega
 simp[-dH,-Int.natCast_add,-Int.natCast_mul,-Int.natCast_ediv,-Int.natCast_emod,elo,QL,ea0,QM,eb0,p11,p10,p01,p00,s1,s2,s3,s4,s5,s6,s7,s8]
def uZ (m:Nat):Int:=if m<1099511627776 then m else 1099511627776
def CK (a b:Int):Int:=if(decide (a<0)!=decide (b<0))=true then-uZ (a.natAbs*b.natAbs) else uZ (a.natAbs*b.natAbs)
def ahz (m:Nat):0<=uZ m/\uZ m<=1099511627776:=by unfold uZ;split<;>omega
set_option maxHeartbeats 1000000 in
def axH (a b:Int)(ha:-1099511627776<=a/\a<=1099511627776)(hb:-1099511627776<=b/\b<=1099511627776):ah T 215 [.int a,.int b] (.int (CK a b)):=by
 refine zyw 57 az8 ?_;have wa:IntKind.u64.wrap (a.natAbs:Int)=a.natAbs:=j6 (by omega);have wb:IntKind.u64.wrap (b.natAbs:Int)=b.natAbs:=j6 (by omega);have w0a:i64.wrap (0-a)=-a:=by rw[aQ (by omega)];omega
 have w0b:i64.wrap (0-b)=-b:=by rw[aQ (by omega)];omega
 have aAy:i64.wrap (-a)=-a:=aQ (by omega);have aAz:i64.wrap (-b)=-b:=aQ (by omega);have ea:(if a< -a then D.int (-a) else D.int a)=D.int a.natAbs:=by split<;>congr 1<;>omega
 have eb:(if b< -b then D.int (-b) else D.int b)=D.int b.natAbs:=by split<;>congr 1<;>omega
 have ea':(if a< -a then-a else a)=(a.natAbs:Int):=by split<;>omega
 have eb':(if b< -b then-b else b)=(b.natAbs:Int):=by split<;>omega
 simp[Zk,aAy,aAz,ea,eb,ea',eb'];rw[wa,wb];refine⟨_,afp a.natAbs b.natAbs (by omega) (by omega),?_⟩;unfold CK;generalize a.natAbs*b.natAbs=m;have hs:(decide (a<0)!=decide (b<0))=false↔(a<0↔b<0):=by
  by_cases h1:a<0<;>by_cases h2:b<0<;>simp[h1,h2]
 have key:((if((m/18446744073709551616:Nat):Int)=0/\((m%18446744073709551616:Nat):Int)<1099511627776 then i64.wrap ((m%18446744073709551616:Nat):Int) else 1099511627776):Int)=uZ m:=by
  unfold uZ;by_cases hm:m<1099511627776
  .have h1:m/18446744073709551616=0:=by omega
   have h2:m%18446744073709551616=m:=by omega
   rw[h1,h2,if_pos ⟨rfl,by omega⟩,if_pos hm,aQ (by omega)]
  .rw[if_neg hm,if_neg];rintro⟨h1,h2⟩;omega
 have fF:=ahz m;have asx:(if((m/18446744073709551616:Nat):Int)=0/\((m%18446744073709551616:Nat):Int)<1099511627776 then D.int (i64.wrap ((m%18446744073709551616:Nat):Int)) else D.int 1099511627776)=D.int (uZ m):=by
  rw[<-key];split<;>rfl
 show(if a<0↔b<0 then(if((m/18446744073709551616:Nat):Int)=0/\((m%18446744073709551616:Nat):Int)<1099511627776 then D.int (i64.wrap ((m%18446744073709551616:Nat):Int)) else D.int 1099511627776)=_ else
  i64.wrap (-(if((m/18446744073709551616:Nat):Int)=0/\((m%18446744073709551616:Nat):Int)<1099511627776 then i64.wrap ((m%18446744073709551616:Nat):Int) else 1099511627776))=_)
 rw[asx,key];generalize uZ m=n at*;split
 .rename_i h;rw[hs.2 h];simp
 .rename_i h;have:(decide (a<0)!=decide (b<0))=true:=by
   cases e:(decide (a<0)!=decide (b<0)) with
   |true=>rfl
   |false=>exact absurd (hs.1 e) h
  rw[this,aQ (by omega)];simp
def Am (op a b:Int):Int:=if op=9 then qW (a+b) else if op=10 then qW (a-b) else if op=11 then CK a b else if op=12 then min a b else max a b
def axE (op a b:Int)(ha:-1099511627776<=a/\a<=1099511627776)(hb:-1099511627776<=b/\b<=1099511627776):ah T 213 [.int op,.int a,.int b] (.int (Am op a b)):=by
 refine zyw 56 az1 ?_;have w1:i64.wrap (a+b)=a+b:=aQ (by omega);have w2:i64.wrap (a-b)=a-b:=aQ (by omega);simp[Ze,Am,w1,w2];by_cases h1:op=9
 .simp[h1];exact On _
 by_cases h2:op=10
 .simp[h1,h2];exact On _
 by_cases h3:op=11
 .simp[h1,h2,h3];exact axH a b ha hb
 by_cases h4:op=12
 .simp[h1,h2,h3,h4];by_cases h5:b<a<;>simp[h5]<;>omega
 simp[h1,h2,h3,h4];by_cases h5:b>a<;>simp[h5]<;>omega
def iM (b:Bool):Cell:=if b then⟨true,1⟩ else⟨true,0⟩
def w7 (b:Bool):ah T 211 [.bool b] (cY (iM b)):=by
 refine zyw 54 aAa ?_;cases b<;>simp[Zm,iM]<;>rfl
def fa:Cell:=⟨false,0⟩
@[simp] def aHa:D.agg [.bool false,.int 0]=cY fa:=zyz
@[simp] def aHb:fa.known=false:=rfl
@[simp] def aHc:fa.n=0:=rfl
def cellAt (cs:List Cell)(v:Int):Cell:=cs.getD v.toNat default
def mC (cs:List Cell)(v:Int):Cell:=if cs.length<=v.toNat\/(cellAt cs v).known=false then fa else if(nz v).1=1 then iM (decide ((cellAt cs v).n≠0)) else⟨true,qW (cellAt cs v).n⟩
abbrev QP (cs:List Cell):D:=.agg [cells cs]
def axJ (cs:List Cell)(v:Int)(hv:0<=v):ah T 201 [QP cs,.int v] (cY (mC cs v)):=by
 refine zyw 53 az7 ?_;obtain⟨k,rfl⟩:=qF hv;simp[Zj,mC,cellAt];by_cases h1:cs.length<=k
 .simp[h1]
 have cA:k<cs.length:=by omega
 simp[h1,cA];cases h2:cs[k].known
 .simp[h2]
 simp[h2];refine⟨_,ajp _,?_⟩;by_cases h3:(nz k).1=1
 .simp[h3,cA];refine⟨_,w7 _,?_⟩;simp;rfl
 .simp[h3,cA];refine⟨_,On _,?_⟩;simp;rfl
@[simp] def aGv (a b:Int):(a==b)=decide (a=b):=zyz
@[simp] def aGw (a b:Int):(a !=b)= !decide (a=b):=zyz
def bz (l:List Cell)(k:Nat):Cell:=l.getD k default
def iV (op:Int)(l:List Cell):Cell:=
 if op=3 then(if(bz l 0).known=true then iM (decide ((bz l 0).n=0)) else fa)
 else if(op=4\/op=5)/\(bz l 0=iM (decide (op=5))\/bz l 1=iM (decide (op=5))) then iM (decide (op=5))
 else if op=6 then(if(bz l 1).known=true/\bz l 1=bz l 2 then bz l 1 else fa)
 else if(bz l 0).known=false\/(bz l 1).known=false then fa
 else if op=4\/op=5 then iM (decide (op=4))
 else if op=7 then iM (decide ((bz l 0).n<(bz l 1).n)) else if op=8 then iM (decide ((bz l 0).n=(bz l 1).n)) else⟨true,Am op (bz l 0).n (bz l 1).n⟩
def alq (a b:Cell):a=b↔a.known=b.known/\a.n=b.n:=by cases a;cases b;simp
def axF (op:Int)(l:List Cell)(h1:1<=l.length)(h2:op≠3->2<=l.length)(h3:op=6->3<=l.length)
 (hb:9<=op->(-1099511627776<=(bz l 0).n/\(bz l 0).n<=1099511627776)/\(-1099511627776<=(bz l 1).n/\(bz l 1).n<=1099511627776)) (h9:op<3\/8<op->9<=op):
 ah T 202 [.int op,cells l] (cY (iV op l)):=by
 refine zyw 55 az3 ?_;have g0:0<l.length:=by omega
 have yh:l[0]=bz l 0:=by simp[bz,g0]
 simp[Zg];unfold iV;by_cases o3:op=3
 .simp[o3,g0,yh];cases e:(bz l 0).known
  .simp
  .simp[g0];refine⟨_,w7 _,?_⟩;simp
 have g1:1<l.length:=by have:=h2 o3;omega
 have E6:l[1]=bz l 1:=by simp[bz,g1]
 have fD:(1:Int)<l.length:=by omega
 simp[o3];have fin:∀a b:Cell,(a=b)=(a.known=b.known/\a.n=b.n):=λa b=>propext (alq a b);rcases IG (op=4) with o4|o4
 .subst o4;simp;refine⟨_,w7 _,?_⟩;simp[g0,g1,fD,yh,E6,fin];split
  .rfl
  .split
   .rfl
   .refine⟨_,w7 _,?_⟩;simp
 rcases IG (op=5) with o5|o5
 .subst o5;simp;refine⟨_,w7 _,?_⟩;simp[g0,g1,fD,yh,E6,fin];split
  .rfl
  .split
   .rfl
   .refine⟨_,w7 _,?_⟩;simp
 rcases IG (op=6) with o6|o6
 .subst o6;have g2:2<l.length:=by have:=h3 rfl;omega
  have gg2:l[2]=bz l 2:=by simp[bz,g2]
  have pH:(2:Int)<l.length:=by omega
  simp[g1,g2,fD,pH,E6,gg2,fin];cases e1:(bz l 1).known
  .simp
  by_cases e2:(bz l 1).known=(bz l 2).known/\(bz l 1).n=(bz l 2).n
  .rw[e1] at e2;simp[e1,e2]
  .rw[e1] at e2;have sI:¬((bz l 2).known=true/\(bz l 1).n=(bz l 2).n):=λh=>e2 ⟨h.1.symm,h.2⟩;simp only[e1,true_and,if_true]
   first|(rw[if_neg sI,if_neg sI])|(simp[sI])
 simp[o4,o5,o6,g0,g1,fD,yh,E6];cases e1:(bz l 0).known
 .simp
 cases e2:(bz l 1).known
 .simp
 simp[g1,fD,E6];rcases IG (op=7) with o7|o7
 .subst o7;simp;refine⟨_,w7 _,?_⟩;simp
 rcases IG (op=8) with o8|o8
 .subst o8;simp;refine⟨_,w7 _,?_⟩;simp
 simp[o7,o8];obtain⟨b1,b2⟩:=hb (h9 (by omega));refine⟨_,axE op _ _ b1 b2,?_⟩;simp;rfl
def auZ (a b s:Nat)(h:a<18446744073709551616)(hb:b<2^s)(ha:a%2^s=0)(hs:s<=64):bW .or .u64 a b=((a+b:Nat):Int):=by
 show IntKind.u64.wrap ((BitVec.ofInt 64 (a:Int)|||BitVec.ofInt 64 (b:Int)).toNat:Nat)=_;have fF:b<18446744073709551616:=ln hb (by have:=Nat.pow_le_pow_right (n:=2) (by decide) hs;simpa using this);have e1:∀n:Nat,n<18446744073709551616->(BitVec.ofInt 64 (n:Int)).toNat=n:=λn hn=>by simp[BitVec.ofInt,BitVec.toNat_ofNat];omega
 have e:(BitVec.ofInt 64 (a:Int)|||BitVec.ofInt 64 (b:Int)).toNat=a+b:=by
  rw[BitVec.toNat_or,e1 a h,e1 b fF];have e3:a=2^s*(a/2^s):=by have:=Ai a (2^s);omega
  rw[e3];exact(Nat.two_pow_add_eq_or_of_lt hb (a/2^s)).symm
 have af:a+b<18446744073709551616:=by rw[<-e];exact BitVec.isLt _
 rw[e,j6 af]
def bl (x L:Nat):Prop:=(L=0->x=0)/\(0<L->2^(L-1)<=x)/\x<2^L/\L<=64
def L6:ByteArray:=⟨#[0,1,2,2,3,3,3,3,4,4,4,4,4,4,4,4,5,5,5,5,5,5,5,5,5,5,5,5,5,5,5,5,6,6,6,6,6,6,6,6,6,6,6,6,6,6,6,6,6,6,6,6,6,6,6,6,6,6,6,6,6,6,6,6,7,7,7,7,7,7,7,7,7,7,7,7,7,7,7,7,7,7,7,7,7,7,7,7,7,7,7,7,7,7,7,7,7,7,7,7,7,7,7,7,7,7,7,7,7,7,7,7,7,7,7,7,7,7,7,7,7,7,7,7,7,7,7,7,8,8,8,8,8,8,8,8,8,8,8,8,8,8,8,8,8,8,8,8,8,8,8,8,8,8,8,8,8,8,8,8,8,8,8,8,8,8,8,8,8,8,8,8,8,8,8,8,8,8,8,8,8,8,8,8,8,8,8,8,8,8,8,8,8,8,8,8,8,8,8,8,8,8,8,8,8,8,8,8,8,8,8,8,8,8,8,8,8,8,8,8,8,8,8,8,8,8,8,8,8,8,8,8,8,8,8,8,8,8,8,8,8,8,8,8,8,8,8,8,8,8,8,8,8,8,8,8]⟩
def len8 (y:Nat):Nat:=(L6.data.getD y 0).toNat
def asF:(List.range 256).all (λy=>(len8 y==0&&y==0||Nat.ble (2^(len8 y-1)) y&&Nat.blt 0 (len8 y))&&Nat.blt y (2^len8 y)&&Nat.ble (len8 y) 8)=true:=by kernel_rfl
def p9 {y:Nat}(h:y<256):((len8 y=0/\y=0)\/(2^(len8 y-1)<=y/\0<len8 y))/\y<2^len8 y/\len8 y<=8:=by
 have:=cP.1 asF y (fS.2 h);simp only[ao,kK,beq_iff_eq,Nat.ble_eq,pj] at this;exact⟨this.1.1,this.1.2,this.2⟩
def aaY {y:Nat}(h:y<256):bl y (len8 y):=by
 obtain⟨h1,h2,h3⟩:=p9 h;refine⟨λh0=>?_,λh0=>?_,h2,by omega⟩
 .rcases h1 with h1|h1
  .exact h1.2
  .omega
 .rcases h1 with h1|h1
  .omega
  .exact h1.1
def Qf {x s L:Nat}(hx:2^s<=x)(h:bl (x/2^s) L)(hs:L+s<=64):bl x (L+s):=by
 have hp:0<2^s:=xH s;have hL:0<L:=by
  rcases DQ L with h0|h0
  .have:=h.1 h0;have:=Nat.div_pos hx hp;omega
  .exact h0
 refine⟨λh0=>by omega,λ_=>?_,?_,hs⟩
 .have h1:=h.2.1 hL;have e:L+s-1=(L-1)+s:=by omega
  rw[e,O9];exact(O7 hp).1 h1
 .rw[O9];exact(xF hp).1 h.2.2.1
@[simp] def xn {n:Nat}(h:n<256):IntKind.u8.wrap (n:Int)=n:=by
  show(n:Int)%256=n;omega
def asE:(⟨#[0,1,2,2,3,3,3,3,4,4,4,4,4,4,4,4,5,5,5,5,5,5,5,5,5,5,5,5,5,5,5,5,6,6,6,6,6,6,6,6,6,6,6,6,6,6,6,6,6,6,6,6,6,6,6,6,6,6,6,6,6,6,6,6,7,7,7,7,7,7,7,7,7,7,7,7,7,7,7,7,7,7,7,7,7,7,7,7,7,7,7,7,7,7,7,7,7,7,7,7,7,7,7,7,7,7,7,7,7,7,7,7,7,7,7,7,7,7,7,7,7,7,7,7,7,7,7,7,8,8,8,8,8,8,8,8,8,8,8,8,8,8,8,8,8,8,8,8,8,8,8,8,8,8,8,8,8,8,8,8,8,8,8,8,8,8,8,8,8,8,8,8,8,8,8,8,8,8,8,8,8,8,8,8,8,8,8,8,8,8,8,8,8,8,8,8,8,8,8,8,8,8,8,8,8,8,8,8,8,8,8,8,8,8,8,8,8,8,8,8,8,8,8,8,8,8,8,8,8,8,8,8,8,8,8,8,8,8,8,8,8,8,8,8,8,8,8,8,8,8,8,8,8,8,8,8]⟩:ByteArray)=L6:=rfl
def wx:L6.size=256:=by kernel_rfl
def len8_eq (y:Nat):(L6.data[y]?.getD 0).toNat=len8 y:=by simp[len8]
def l8 (x:Nat):Nat:=if 256<=x then len8 (x/256)+8 else len8 x
def Cn (x:Nat):Nat:=if 65536<=x then l8 (x/65536)+16 else l8 x
def wu (x:Nat):Nat:=if 4294967296<=x then Cn (x/4294967296)+32 else Cn x
def aeE {x:Nat}(h:x<65536):bl x (l8 x):=by
 unfold l8;split
 .rename_i h1;exact Qf (s:=8) h1 (aaY (by omega)) (by have:=(p9 (y:=x/256) (by omega)).2.2;omega)
 .exact aaY (by omega)
def aeF {x:Nat}(h:x<65536):l8 x<=16:=by
 unfold l8;split
 .have:=(p9 (y:=x/256) (by omega)).2.2;omega
 .have:=(p9 (y:=x) (by omega)).2.2;omega
def aeC {x:Nat}(h:x<4294967296):bl x (Cn x)/\Cn x<=32:=by
 unfold Cn;split
 .rename_i h1;have:=aeF (x:=x/65536) (by omega);exact⟨Qf (s:=16) h1 (aeE (by omega)) (by omega),by omega⟩
 .have:=aeF (x:=x) (by omega);exact⟨aeE (by omega),by omega⟩
def aeD {x:Nat}(h:x<18446744073709551616):bl x (wu x):=by
 unfold wu;split
 .rename_i h1;have:=aeC (x:=x/4294967296) (by omega);exact Qf (s:=32) h1 this.1 (by omega)
 .exact(aeC (by omega)).1
set_option maxRecDepth 10000 in
set_option maxHeartbeats 1000000 in
def asD (x:Nat)(h:x<18446744073709551616):ah T 104 [u x] (.int (wu x:Nat)):=by
 refine zyw 115 ax9 ?_;unfold wu Cn l8;simp only[Xi, la, asE];have w8:i64.wrap 8=8:=aQ (by omega);have xe:i64.wrap 16=16:=aQ (by omega);have xf:i64.wrap 24=24:=aQ (by omega);have xg:i64.wrap 32=32:=aQ (by omega);have xh:i64.wrap 40=40:=aQ (by omega);have xj:i64.wrap 48=48:=aQ (by omega);have xk:i64.wrap 56=56:=aQ (by omega);by_cases h1:4294967296<=x
 .have g1:(4294967296:Int)<=x:=by omega
  generalize jx:x/4294967296=x1 at*;by_cases h2:65536<=x1
  .have g2:(65536:Int)<=(x1:Nat):=by omega
   generalize yT:x1/65536=x2 at*;by_cases h3:256<=x2
   .have g3:(256:Int)<=(x2:Nat):=by omega
    have hY:x2/256<256:=by omega
    have hl:=(p9 hY).2.2;have k1:IntKind.u8.wrap ((x2/256:Nat):Int)=((x2/256:Nat):Int):=xn hY;have k2:i64.wrap ((len8 (x2/256):Nat):Int)=len8 (x2/256):=aQ (by omega);have k3:i64.wrap (56+(len8 (x2/256):Int))=56+(len8 (x2/256):Int):=aQ (by omega);simp[h1,h2,h3,g1,g2,g3,k1,wx,len8_eq,k2,k3,w8,xe,xf,xg,xh,xj,xk,jx,yT,-Int.natCast_ediv];omega
   .have g3:¬(256:Int)<=(x2:Nat):=by omega
    have hY:x2<256:=by omega
    have hl:=(p9 hY).2.2;have k1:IntKind.u8.wrap ((x2:Nat):Int)=((x2:Nat):Int):=xn hY;have k2:i64.wrap ((len8 (x2):Nat):Int)=len8 (x2):=aQ (by omega);have k3:i64.wrap (48+(len8 (x2):Int))=48+(len8 (x2):Int):=aQ (by omega);simp[h1,h2,h3,g1,g2,g3,k1,wx,len8_eq,k2,k3,w8,xe,xf,xg,xh,xj,xk,jx,yT,-Int.natCast_ediv];omega
  .have g2:¬(65536:Int)<=(x1:Nat):=by omega
   by_cases h3:256<=x1
   .have g3:(256:Int)<=(x1:Nat):=by omega
    have hY:x1/256<256:=by omega
    have hl:=(p9 hY).2.2;have k1:IntKind.u8.wrap ((x1/256:Nat):Int)=((x1/256:Nat):Int):=xn hY;have k2:i64.wrap ((len8 (x1/256):Nat):Int)=len8 (x1/256):=aQ (by omega);have k3:i64.wrap (40+(len8 (x1/256):Int))=40+(len8 (x1/256):Int):=aQ (by omega);simp[h1,h2,h3,g1,g2,g3,k1,wx,len8_eq,k2,k3,w8,xe,xf,xg,xh,xj,xk,jx,-Int.natCast_ediv];omega
   .have g3:¬(256:Int)<=(x1:Nat):=by omega
    have hY:x1<256:=by omega
    have hl:=(p9 hY).2.2;have k1:IntKind.u8.wrap ((x1:Nat):Int)=((x1:Nat):Int):=xn hY;have k2:i64.wrap ((len8 (x1):Nat):Int)=len8 (x1):=aQ (by omega);have k3:i64.wrap (32+(len8 (x1):Int))=32+(len8 (x1):Int):=aQ (by omega);simp[h1,h2,h3,g1,g2,g3,k1,wx,len8_eq,k2,k3,w8,xe,xf,xg,xh,xj,xk,jx,-Int.natCast_ediv];omega
 .have g1:¬(4294967296:Int)<=x:=by omega
  by_cases h2:65536<=x
  .have g2:(65536:Int)<=(x:Nat):=by omega
   generalize yT:x/65536=x2 at*;by_cases h3:256<=x2
   .have g3:(256:Int)<=(x2:Nat):=by omega
    have hY:x2/256<256:=by omega
    have hl:=(p9 hY).2.2;have k1:IntKind.u8.wrap ((x2/256:Nat):Int)=((x2/256:Nat):Int):=xn hY;have k2:i64.wrap ((len8 (x2/256):Nat):Int)=len8 (x2/256):=aQ (by omega);have k3:i64.wrap (24+(len8 (x2/256):Int))=24+(len8 (x2/256):Int):=aQ (by omega);simp[h1,h2,h3,g1,g2,g3,k1,wx,len8_eq,k2,k3,w8,xe,xf,xg,xh,xj,xk,yT,-Int.natCast_ediv];omega
   .have g3:¬(256:Int)<=(x2:Nat):=by omega
    have hY:x2<256:=by omega
    have hl:=(p9 hY).2.2;have k1:IntKind.u8.wrap ((x2:Nat):Int)=((x2:Nat):Int):=xn hY;have k2:i64.wrap ((len8 (x2):Nat):Int)=len8 (x2):=aQ (by omega);have k3:i64.wrap (16+(len8 (x2):Int))=16+(len8 (x2):Int):=aQ (by omega);simp[h1,h2,h3,g1,g2,g3,k1,wx,len8_eq,k2,k3,w8,xe,xf,xg,xh,xj,xk,yT,-Int.natCast_ediv];omega
  .have g2:¬(65536:Int)<=(x:Nat):=by omega
   by_cases h3:256<=x
   .have g3:(256:Int)<=(x:Nat):=by omega
    have hY:x/256<256:=by omega
    have hl:=(p9 hY).2.2;have k1:IntKind.u8.wrap ((x/256:Nat):Int)=((x/256:Nat):Int):=xn hY;have k2:i64.wrap ((len8 (x/256):Nat):Int)=len8 (x/256):=aQ (by omega);have k3:i64.wrap (8+(len8 (x/256):Int))=8+(len8 (x/256):Int):=aQ (by omega);simp[h1,h2,h3,g1,g2,g3,k1,wx,len8_eq,k2,k3,w8,xe,xf,xg,xh,xj,xk,-Int.natCast_ediv];omega
   .have g3:¬(256:Int)<=(x:Nat):=by omega
    have hY:x<256:=by omega
    have hl:=(p9 hY).2.2;have k1:IntKind.u8.wrap ((x:Nat):Int)=((x:Nat):Int):=xn hY;have k2:i64.wrap ((len8 (x):Nat):Int)=len8 (x):=aQ (by omega);have k3:i64.wrap (0+(len8 (x):Int))=0+(len8 (x):Int):=aQ (by omega);simp[h1,h2,h3,g1,g2,g3,k1,wx,len8_eq,k2,k3,w8,xe,xf,xg,xh,xj,xk,-Int.natCast_ediv];omega
def aby {v1 v0 u32 d:Nat}(hv:0<v1)(hd:d<4294967296)(hu:u32<v1*4294967296+v0):(u32*4294967296+d)/(v1*4294967296+v0)<=u32/v1:=by
 have h1:(u32*4294967296+d)/(v1*4294967296+v0)<=(u32*4294967296+d)/(v1*4294967296):=Nat.div_le_div_left (by omega) (by omega);have h2:(u32*4294967296+d)/(v1*4294967296)=u32/v1:=by
  rw[xG v1,<-Nat.div_div_eq_div_mul]
  congr 1;omega
 omega
def abB {v1 v0 u32:Nat}(eH:v0<4294967296)(aO:2147483648<=v1)(hu:u32<v1*4294967296+v0):u32/v1<=4294967297:=by
 have h1:u32/v1*v1<=u32:=Nat.div_mul_le_self u32 v1;have h2:u32/v1*v1<4294967298*v1:=by omega
 have:=Nat.lt_of_mul_lt_mul_right h2;omega
def QG (q v1 v0:Nat):q*(v1*4294967296+v0)=q*v1*4294967296+q*v0:=by rw[Nat.mul_add,aau]
def abA {v1 v0 u32 d q r:Nat}(hu:u32<v1*4294967296+v0)(hd:d<4294967296)(h1:q*v1+r=u32)(c:4294967296<=q\/4294967296*r+d<q*v0):(u32*4294967296+d)/(v1*4294967296+v0)<q:=by
 rw[xF (by omega)];rcases c with c|c
 .have h2:4294967296*(v1*4294967296+v0)<=q*(v1*4294967296+v0):=kf _ c;omega
 .rw[QG];omega
def abz {v1 v0 u32 d q r:Nat}(hv:0<v1)(h1:q*v1+r=u32)(c:q*v0<=4294967296*r+d):q<=(u32*4294967296+d)/(v1*4294967296+v0):=by
 rw[O7 (by omega),QG];omega
def abx {v1 v0 u32 d q r:Nat}(eH:v0<4294967296)(h1:q*v1+r=u32)(hu:u32<v1*4294967296+v0)(c:4294967296<=r):q<=(u32*4294967296+d)/(v1*4294967296+v0):=by
 have hv:0<v1*4294967296+v0:=by omega
 have hq:q<4294967296:=by
  rcases IQ q 4294967296 with h|h
  .exact h
  .have:4294967296*v1<=q*v1:=kf _ h;omega
 have h2:q*v0<=4294967295*4294967295:=DR (by omega) (by omega);rw[O7 hv,QG];omega
def asJ (O:Env)(q0 r0 v1 v0 u32 d:Nat)(eH:v0<4294967296)(aO:2147483648<=v1)(arZ:v1<4294967296)(hd:d<4294967296)(hu:u32<v1*4294967296+v0)
 (hq:q0=u32/v1) (hr:r0=u32%v1) (h9:O.r 9=u v1) (jr:O.r 10=u v0) (yr:O.r 13=u d) (yI:O.r 15=u q0) (Sy:O.r 16=u r0) (K:Env->Prop) (Q:Out->Prop)
 (hK:∀O':Env,O'.r 15=u ((u32*4294967296+d)/(v1*4294967296+v0))->(∀t,t∉[15,16,67,68,69,78]->O'.r t=O.r t)->K O'):aL T (Gu xP) O (gI K Q):=by
 have dm:=λq r=>abA (v1:=v1) (v0:=v0) (u32:=u32) (d:=d) (q:=q) (r:=r) hu hd;have dl:=λq r=>abz (v1:=v1) (v0:=v0) (u32:=u32) (d:=d) (q:=q) (r:=r) (by omega);have dd:=λq r=>abx (v1:=v1) (v0:=v0) (u32:=u32) (d:=d) (q:=q) (r:=r) eH;have di:=aby (v1:=v1) (v0:=v0) (u32:=u32) (d:=d) (by omega) hd hu;have hQ0:0<=(u32*4294967296+d)/(v1*4294967296+v0):=kg _;generalize (u32*4294967296+d)/(v1*4294967296+v0)=QQ at*;refine aL.forLoop (α:=Nat×Nat) (λs vr vo=>s.1*v1+s.2=u32/\QQ<=s.1/\s.2<4294967296/\s.1<=4294967297/\vr=[u s.1,u s.2]/\vo=[]) (λs=>s.1) (q0,r0) ⟨?_,?_,?_,?_,?_,rfl⟩ ?_
 .subst hq hr;exact DP u32 v1
 .subst hq;exact di
 .subst hr;have:=qI u32 (show v1>0 by omega);omega
 .subst hq;exact abB eH aO hu
 .simp[yI,Sy]
 .rintro⟨q,r⟩ vr vo ⟨h1,h2,h3,h4,rfl,rfl⟩;dsimp only at h1 h2 h3 h4;have hm:q*v0<=4294967297*4294967295:=DR h4 (by omega);have w1:IntKind.u64.wrap ((q:Int)*(v0:Int))=(q*v0:Nat):=by rw[<-Int.natCast_mul];exact j6 (by omega)
  have w2:IntKind.u64.wrap (4294967296*(r:Int))=(4294967296*r:Nat):=by rw[kI (by omega)];omega
  have w3:IntKind.u64.wrap (((4294967296*r:Nat):Int)+(d:Int))=(4294967296*r+d:Nat):=by rw[kI (by omega)];omega
  have dm:=dm q r h1;have dl:=dl q r h1;generalize q*v0=M at*;by_cases c:4294967296<=q\/4294967296*r+d<M
  .have af:=dm c;have w4:IntKind.u64.wrap ((q:Int)-1)=(q-1:Nat):=by rw[kI (by omega)];omega
   have w5:IntKind.u64.wrap ((r:Int)+(v1:Int))=(r+v1:Nat):=by rw[kI (by omega)];omega
   have e1:(q-1)*v1+(r+v1)=u32:=by rw[Nat.sub_mul,Nat.one_mul];have:v1<=q*v1:=Nat.le_mul_of_pos_left v1 (by omega);omega
   have uj:(4294967296:Int)<=(q:Int)\/4294967296*r+d<M:=by omega
   by_cases c2:4294967296<=r+v1
   .have xT:(4294967296:Int)<=((r+v1:Nat):Int):=by omega
    have:=dd _ _ e1 hu c2;have e2:q-1=QQ:=by omega
    simp[Vv,Ha,h9,jr,yr,w1,w2,w3,w4,w5,uj,xT,-Int.natCast_add,-Int.natCast_mul];refine hK _ ?_ ?_
    .simp[w4,e2]
    .intro t ht;simp at ht;simp[ht]
   .have xT:¬(4294967296:Int)<=((r+v1:Nat):Int):=by omega
    simp[Vv,Ha,h9,jr,yr,w1,w2,w3,w4,w5,uj,xT,-Int.natCast_add,-Int.natCast_mul];exact⟨q-1,by omega,r+v1,e1,by omega,by omega,by omega,rfl,rfl⟩
  .have:=dl (by omega);have e2:q=QQ:=by omega
   have uj:¬((4294967296:Int)<=(q:Int)):=by omega
   have Qi:¬(4294967296*r+d<M):=by omega
   simp[Vv,Ha,h9,jr,yr,w1,w2,w3,uj,Qi,-Int.natCast_add,-Int.natCast_mul];refine hK _ ?_ ?_
   .simp[e2]
   .intro t ht;simp at ht;simp[ht]
def asK (O:Env)(q0 r0 v1 v0 u32 d:Nat)(eH:v0<4294967296)(aO:2147483648<=v1)(arZ:v1<4294967296)(hd:d<4294967296)(hu:u32<v1*4294967296+v0)
 (hq:q0=u32/v1) (hr:r0=u32%v1) (h9:O.r 9=u v1) (jr:O.r 10=u v0) (yr:O.r 14=u d) (yI:O.r 18=u q0) (Sy:O.r 16=u r0) (K:Env->Prop) (Q:Out->Prop)
 (hK:∀O':Env,O'.r 18=u ((u32*4294967296+d)/(v1*4294967296+v0))->(∀t,t∉[16,18,102,103,104,113]->O'.r t=O.r t)->K O'):aL T (Gv xP) O (gI K Q):=by
 have dm:=λq r=>abA (v1:=v1) (v0:=v0) (u32:=u32) (d:=d) (q:=q) (r:=r) hu hd;have dl:=λq r=>abz (v1:=v1) (v0:=v0) (u32:=u32) (d:=d) (q:=q) (r:=r) (by omega);have dd:=λq r=>abx (v1:=v1) (v0:=v0) (u32:=u32) (d:=d) (q:=q) (r:=r) eH;have di:=aby (v1:=v1) (v0:=v0) (u32:=u32) (d:=d) (by omega) hd hu;have hQ0:0<=(u32*4294967296+d)/(v1*4294967296+v0):=kg _;generalize (u32*4294967296+d)/(v1*4294967296+v0)=QQ at*;refine aL.forLoop (α:=Nat×Nat) (λs vr vo=>s.1*v1+s.2=u32/\QQ<=s.1/\s.2<4294967296/\s.1<=4294967297/\vr=[u s.2,u s.1]/\vo=[]) (λs=>s.1) (q0,r0) ⟨?_,?_,?_,?_,?_,rfl⟩ ?_
 .subst hq hr;exact DP u32 v1
 .subst hq;exact di
 .subst hr;have:=qI u32 (show v1>0 by omega);omega
 .subst hq;exact abB eH aO hu
 .simp[yI,Sy]
 .rintro⟨q,r⟩ vr vo ⟨h1,h2,h3,h4,rfl,rfl⟩;dsimp only at h1 h2 h3 h4;have hm:q*v0<=4294967297*4294967295:=DR h4 (by omega);have w1:IntKind.u64.wrap ((q:Int)*(v0:Int))=(q*v0:Nat):=by rw[<-Int.natCast_mul];exact j6 (by omega)
  have w2:IntKind.u64.wrap (4294967296*(r:Int))=(4294967296*r:Nat):=by rw[kI (by omega)];omega
  have w3:IntKind.u64.wrap (((4294967296*r:Nat):Int)+(d:Int))=(4294967296*r+d:Nat):=by rw[kI (by omega)];omega
  have dm:=dm q r h1;have dl:=dl q r h1;generalize q*v0=M at*;by_cases c:4294967296<=q\/4294967296*r+d<M
  .have af:=dm c;have w4:IntKind.u64.wrap ((q:Int)-1)=(q-1:Nat):=by rw[kI (by omega)];omega
   have w5:IntKind.u64.wrap ((r:Int)+(v1:Int))=(r+v1:Nat):=by rw[kI (by omega)];omega
   have e1:(q-1)*v1+(r+v1)=u32:=by rw[Nat.sub_mul,Nat.one_mul];have:v1<=q*v1:=Nat.le_mul_of_pos_left v1 (by omega);omega
   have uj:(4294967296:Int)<=(q:Int)\/4294967296*r+d<M:=by omega
   by_cases c2:4294967296<=r+v1
   .have xT:(4294967296:Int)<=((r+v1:Nat):Int):=by omega
    have:=dd _ _ e1 hu c2;have e2:q-1=QQ:=by omega
    simp[Vw,Hb,h9,jr,yr,w1,w2,w3,w4,w5,uj,xT,-Int.natCast_add,-Int.natCast_mul];refine hK _ ?_ ?_
    .simp[w4,e2]
    .intro t ht;simp at ht;simp[ht]
   .have xT:¬(4294967296:Int)<=((r+v1:Nat):Int):=by omega
    simp[Vw,Hb,h9,jr,yr,w1,w2,w3,w4,w5,uj,xT,-Int.natCast_add,-Int.natCast_mul];exact⟨q-1,by omega,r+v1,e1,by omega,by omega,by omega,rfl,rfl⟩
  .have:=dl (by omega);have e2:q=QQ:=by omega
   have uj:¬((4294967296:Int)<=(q:Int)):=by omega
   have Qi:¬(4294967296*r+d<M):=by omega
   simp[Vw,Hb,h9,jr,yr,w1,w2,w3,uj,Qi,-Int.natCast_add,-Int.natCast_mul];refine hK _ ?_ ?_
   .simp[e2]
   .intro t ht;simp at ht;simp[ht]
def bN:Nat->List Cell->Tm->Cell
 |0,_,_=>fa
 |L+1,cs,t=>if t.op=0\/t.op=1 then⟨true,t.n⟩ else if t.op=2 then mC cs t.n else
   if t.op=6/\(bz (t.args.map (bN L cs)) 0).known=true then bz (t.args.map (bN L cs)) (2-(bz (t.args.map (bN L cs)) 0).n).toNat else iV t.op (t.args.map (bN L cs))
def eK:Nat->List Cell->Tm->List Int
 |0,_,_=>[]
 |L+1,cs,t=>if t.op=0\/t.op=1 then[] else if t.op=2 then(if(mC cs t.n).known=true then[] else[t.n]) else
   if t.op=6/\(bz (t.args.map (bN L cs)) 0).known=true then(t.args.map (eK L cs)).getD (2-(bz (t.args.map (bN L cs)) 0).n).toNat [] else
   if(iV t.op (t.args.map (bN L cs))).known=true then[] else(t.args.map (eK L cs)).flatten
def KL (L:Nat)(cs:List Cell)(t:Tm):bN (L+1) cs t=if t.op=0\/t.op=1 then⟨true,t.n⟩ else if t.op=2 then mC cs t.n else
 if t.op=6/\(bz (t.args.map (bN L cs)) 0).known=true then bz (t.args.map (bN L cs)) (2-(bz (t.args.map (bN L cs)) 0).n).toNat else iV t.op (t.args.map (bN L cs)):=rfl
def Ml (L:Nat)(cs:List Cell)(t:Tm):eK (L+1) cs t=if t.op=0\/t.op=1 then[] else if t.op=2 then(if(mC cs t.n).known=true then[] else[t.n]) else
 if t.op=6/\(bz (t.args.map (bN L cs)) 0).known=true then(t.args.map (eK L cs)).getD (2-(bz (t.args.map (bN L cs)) 0).n).toNat [] else
 if(iV t.op (t.args.map (bN L cs))).known=true then[] else(t.args.map (eK L cs)).flatten:=rfl
def Qu {L:Nat}{t:Tm}{k:Int}(h:cH (L+1) t=(k,0)):(∀a,a∈t.args->(cH L a).2=0)/\za t (t.args.map λa=>(cH L a).1)=(k,0):=by
 rw[Qt] at h;by_cases e:fC t.args.length (λk=>(cH L (t.args.getD k default)).2)=0
 .rw[if_neg (by simpa using e)] at h;refine⟨λa ha=>?_,h⟩;obtain⟨j,hj,rfl⟩:=fu ha;have:=Q0.1 e j hj;simpa [hj] using this
 .rw[if_pos e] at h;injection h with _ h
  exact absurd h e
inductive Node (ks:List Int) (t:Tm):Int->Prop where
 |int (h:t.op=0) (ha:t.args=[]) (hn:-1099511627776<=t.n/\t.n<=1099511627776):Node ks t 0
 |bool (h:t.op=1) (ha:t.args=[]) (hn:t.n=0\/t.n=1):Node ks t 1
 |var (h:t.op=2) (ha:t.args=[]) (hn:0<=t.n/\t.n<=19):Node ks t (nz t.n).1
 |not (h:t.op=3) (hk:ks=[1]):Node ks t 1
 |log (h:t.op=4\/t.op=5) (hk:ks=[1,1]):Node ks t 1
 |ite (k:Int) (h:t.op=6) (hk:ks=[1,k,k]):Node ks t k
 |less (h:t.op=7) (hk:ks=[0,0]):Node ks t 1
 |equal (k:Int) (h:t.op=8) (hk:ks=[k,k]):Node ks t 1
 |num (h:9<=t.op/\t.op<=13) (hk:ks=[0,0]):Node ks t 0
def aAu (v:Int):(nz v).1=0\/(nz v).1=1:=by
 unfold nz;repeat' split
 all_goals simp
def aur {t:Tm}{ks:List Int}{k:Int}(hl:ks.length=t.args.length)(jN:∀x,x∈ks->x=0\/x=1)(h:za t ks=(k,0)):Node ks t k:=by
 unfold za at h;split at h
 .injection h with _ h;cases h
 rename_i eF;split at h
 .rename_i h3;unfold Gq at h;split at h
  .injection h with _ h;cases h
  rename_i ha0;have ha:t.args=[]:=OV (by omega);split at h
  .rename_i h0;split at h
   .injection h with _ h;cases h
   .rename_i hc;injection h with h _
    subst h;refine .int h0 ha ?_;unfold qW at hc;omega
  split at h
  .rename_i h0;split at h
   .injection h with _ h;cases h
   .rename_i hc;injection h with h _
    subst h;exact .bool h0 ha (by omega)
  split at h
  .injection h with _ h;cases h
  .rename_i g0 g1 hc;injection h with h _
   subst h;refine .var (by omega) ha ?_;unfold nz at hc;split at hc
   .simp at hc
   .omega
 rename_i h3;split at h
 .injection h with _ h;cases h
 rename_i hlen;have pO:ks.length=(fo t.op).1.length:=by
  refine DC λhh=>hlen (.inl hh)
 split at h
 .injection h with _ h;cases h
 rename_i ar;have kA:∀j,j<(fo t.op).1.length->p8 (fo t.op).1 ks j=true:=xK.1 (by simpa using ar)
 have two:∀{n:Nat},ks.length=2->∃a b,ks=[a,b]:=λh=>by
  match ks,h with
  |[a,b],_=>exact⟨a,b,rfl⟩
 by_cases o3:t.op=3
 .have e:fo t.op=([1],1):=by simp[fo,o3]
  rw[e] at pO kA h
  match ks,pO with
  |[a],_=>
   have:=kA 0 (by simp);simp[p8] at this;simp at h;subst h this;exact .not o3 rfl
 by_cases Mr:t.op=4\/t.op=5
 .have e:fo t.op=([1,1],1):=by simp[fo,o3,Mr]
  rw[e] at pO kA h
  match ks,pO with
  |[a,b],_=>
   have t1:=kA 0 (by simp);have t2:=kA 1 (by simp);simp[p8] at t1 t2;simp at h;subst h t1 t2;exact .log Mr rfl
 by_cases o6:t.op=6
 .have e:fo t.op=([1,-1,-1],-1):=by simp[fo,o6]
  rw[e] at pO kA h
  match ks,pO,jN with
  |[a,b,c],_,jN=>
   have t1:=kA 0 (by simp);have t3:=kA 2 (by simp);have hb:=jN b (by simp);have sQ:¬b=-1:=by omega
   simp[p8] at t1;simp[p8,oH,sQ] at t3;simp[oH,sQ] at h;subst h t1 t3;exact .ite _ o6 rfl
 by_cases o7:t.op=7
 .have e:fo t.op=([0,0],1):=by simp[fo,o7]
  rw[e] at pO kA h
  match ks,pO with
  |[a,b],_=>
   have t1:=kA 0 (by simp);have t2:=kA 1 (by simp);simp[p8] at t1 t2;simp at h;subst h t1 t2;exact .less o7 rfl
 by_cases o8:t.op=8
 .have e:fo t.op=([-1,-1],1):=by simp[fo,o8]
  rw[e] at pO kA h
  match ks,pO,jN with
  |[a,b],_,jN=>
   have t2:=kA 1 (by simp);have ha:=jN a (by simp);have han:¬a=-1:=by omega
   simp[p8,oH,han] at t2;simp at h;subst h t2;exact .equal _ o8 rfl
 have e:fo t.op=([0,0],0):=by simp[fo,o3,Mr,o6,o7,o8]
 rw[e] at pO kA h
 match ks,pO with
 |[a,b],_=>
  have t1:=kA 0 (by simp);have t2:=kA 1 (by simp);simp[p8] at t1 t2;simp at h;subst h t1 t2;exact .num (by omega) rfl
def Qv:∀{L:Nat} {t:Tm} {k:Int},cH (L+1) t=(k,0)->Node (t.args.map λa=>(cH L a).1) t k/\(k=0\/k=1)
 |L,t,k,h=>by
  obtain⟨h1,h2⟩:=Qu h
  have jN:∀x,x∈(t.args.map λa=>(cH L a).1)->x=0\/x=1:=by
   intro x hx;obtain⟨a,ha,rfl⟩:=bZ.1 hx;cases L with
   |zero=>exact .inl rfl
   |succ L=>exact(Qv (L:=L) (t:=a) (k:=(cH (L+1) a).1) (by rw[<-h1 a ha])).2
  have hn:=aur (by simp) jN h2;refine⟨hn,?_⟩;cases hn with
  |int=>simp
  |bool=>simp
  |var=>exact aAu _
  |not=>simp
  |log=>simp
  |ite k _ hk=>exact jN k (by rw[hk];simp)
  |less=>simp
  |equal=>simp
  |num=>simp
def xI (k:Int)(c:Cell):Prop:=(c.known=false->c=fa)/\(c.known=true->(k=1->c.n=0\/c.n=1)/\(k=0->-1099511627776<=c.n/\c.n<=1099511627776))
def wS (k:Int):xI k fa:=⟨λ_=>rfl,λh=>by cases h⟩
def De (b:Bool):xI 1 (iM b):=⟨λh=>(by cases b<;>cases h),λ_=>⟨λ_=>(by cases b<;>simp[iM]),λh=>by cases h⟩⟩
def QC (n:Int):-1099511627776<=qW n/\qW n<=1099511627776:=by unfold qW;omega
def awP (cs:List Cell)(v:Int)(hv:0<=v/\v<=19):xI (nz v).1 (mC cs v):=by
 unfold mC;split
 .exact wS _
 .split
  .rename_i h;rw[h];exact De _
  .rename_i h;refine⟨λh=>(by cases h),λ_=>⟨λh'=>absurd h' h,λ_=>QC _⟩⟩
def avI (a b:Int):-1099511627776<=CK a b/\CK a b<=1099511627776:=by
 unfold CK;have:=ahz (a.natAbs*b.natAbs);split<;>omega
def akJ (op a b:Int)(ha:-1099511627776<=a/\a<=1099511627776)(hb:-1099511627776<=b/\b<=1099511627776):-1099511627776<=Am op a b/\Am op a b<=1099511627776:=by
 unfold Am;split
 .exact QC _
 split
 .exact QC _
 split
 .exact avI _ _
 split<;>omega
def auc {α β:Type}{f:α->β}{l:List α}{x:β}(h:l.map f=[x]):∃a,l=[a]/\f a=x:=by
 match l,h with
 |[a],h=>exact⟨a,rfl,by simpa using h⟩
def Cq {α β:Type}{f:α->β}{l:List α}{x y:β}(h:l.map f=[x,y]):∃a b,l=[a,b]/\f a=x/\f b=y:=by
 match l,h with
 |[a,b],h=>exact⟨a,b,rfl,by simpa using h⟩
def Tr {α β:Type}{f:α->β}{l:List α}{x y z:β}(h:l.map f=[x,y,z]):∃a b c,l=[a,b,c]/\f a=x/\f b=y/\f c=z:=by
 match l,h with
 |[a,b,c],h=>exact⟨a,b,c,rfl,by simpa using h⟩
def abU:∀{L:Nat} {t:Tm} {k:Int} (cs:List Cell),cH L t=(k,0)->xI k (bN L cs t)
 |0,t,k,cs,h=>wS _
 |L+1,t,k,cs,h=>by
  obtain⟨hn,hk⟩:=Qv h;obtain⟨ha,_⟩:=Qu h;have ih:∀a,a∈t.args->xI (cH L a).1 (bN L cs a):=λa hm=>abU cs (show cH L a=((cH L a).1,0) by rw[<-ha a hm]);rw[KL];cases hn with
  |int h0 ha hn=>rw[if_pos (.inl h0)];exact⟨λh=>(by cases h),λ_=>⟨λh=>(by cases h),λ_=>hn⟩⟩
  |bool h0 ha hn=>rw[if_pos (.inr h0)];exact⟨λh=>(by cases h),λ_=>⟨λ_=>hn,λh=>by cases h⟩⟩
  |var h0 ha hn=>rw[if_neg (by omega),if_pos h0];exact awP cs _ hn
  |not h0 hk=>
   rw[if_neg (by omega),if_neg (by omega),if_neg (by omega)];unfold iV;rw[if_pos h0];split
   .exact De _
   .exact wS _
  |log h0 hk=>
   rw[if_neg (by omega),if_neg (by omega),if_neg (by omega)];unfold iV;rw[if_neg (by omega)];split
   .exact De _
   rw[if_neg (by omega)];split
   .exact wS _
   exact De _
  |ite k h0 cG=>
   obtain⟨a,b,c,hl,e1,e2,e3⟩:=Tr cG;rw[hl] at ih ⊢;have r1:=ih a (by simp);have r2:=ih b (by simp);have r3:=ih c (by simp);rw[e1] at r1;rw[e2] at r2;rw[e3] at r3;rw[if_neg (by omega),if_neg (by omega)];simp only[iP,List.map_nil,bz,sA];split
   .rename_i hh;rcases(r1.2 hh.2).1 rfl with h1|h1<;>rw[h1]
    .exact r3
    .exact r2
   .unfold iV;rw[if_neg (by omega),if_neg (by omega),if_pos h0];simp only[bz,sA,DH];split
    .exact r2
    .exact wS _
  |less h0 hk=>
   rw[if_neg (by omega),if_neg (by omega),if_neg (by omega)];unfold iV;rw[if_neg (by omega),if_neg (by omega),if_neg (by omega)];split
   .exact wS _
   repeat' split
   all_goals exact De _
  |equal k h0 hk=>
   rw[if_neg (by omega),if_neg (by omega),if_neg (by omega)];unfold iV;rw[if_neg (by omega),if_neg (by omega),if_neg (by omega)];split
   .exact wS _
   repeat' split
   all_goals exact De _
  |num h0 cG=>
   obtain⟨a,b,hl,e1,e2⟩:=Cq cG;rw[hl] at ih ⊢;have r1:=ih a (by simp);have r2:=ih b (by simp);rw[e1] at r1;rw[e2] at r2;rw[if_neg (by omega),if_neg (by omega),if_neg (by omega)];unfold iV;rw[if_neg (by omega),if_neg (by omega),if_neg (by omega)];simp only[iP,List.map_nil,bz,sA,DH];split
   .exact wS _
   rename_i FD;rw[if_neg (by omega),if_neg (by omega),if_neg (by omega)];have k1:(bN L cs a).known=true:=by
    cases e:(bN L cs a).known with
    |true=>rfl
    |false=>exact absurd (.inl e) FD
   have k2:(bN L cs b).known=true:=by
    cases e:(bN L cs b).known with
    |true=>rfl
    |false=>exact absurd (.inr e) FD
   exact⟨λh=>(by cases h),λ_=>⟨λh=>(by cases h),λ_=>akJ _ _ _ ((r1.2 k1).2 rfl) ((r2.2 k2).2 rfl)⟩⟩
def afr:∀(L:Nat) (cs:List Cell) (t:Tm),cU L t<=60->((eK L cs t).length:Int)<=cU L t
 |0,cs,t,h=>by simp[cU] at h
 |L+1,cs,t,h=>by
  have h1:=y8 (L+1) t;obtain⟨hl,hp⟩:=Tu h;have hs:∀(l:List Tm) (n:Int),(∀a,a∈l->cU L a<=60)->fZ (cU L) l n<=60->((l.map (eK L cs)).flatten.length:Int)+n<=fZ (cU L) l n/\∀j,(((l.map (eK L cs)).getD j []).length:Int)+n<=fZ (cU L) l n:=by
   intro l
   induction l with
   |nil=>intro n _ _;simp[fZ]
   |cons a l ih=>
    intro n hp hm;have ha:=afr L cs a (hp a (by simp));unfold fZ at hm ⊢;split at hm
    .omega
    .rename_i h60;rw[if_neg h60];obtain⟨i1,i2⟩:=ih (n+cU L a) (λb hb=>hp b (by simp[hb])) hm;refine⟨by rw[iP,aag,mF];omega,λj=>?_⟩;cases j with
     |zero=>simp;omega
     |succ j=>have:=i2 j;simp at this ⊢;omega
  obtain⟨LL,dX⟩:=hs t.args 1 hp h;rw[Ml];split
  .simp;omega
  split
  .split<;>simp<;>omega
  split
  .have:=dX (2-(bz (t.args.map (bN L cs)) 0).n).toNat;show _<=fZ _ _ _;omega
  split
  .simp;omega
  .show _<=fZ _ _ _;omega
@[simp] def aH4 (x y:List Int):wZ (ints x) 0 (ints y)=ints y:=zyz
@[simp] def axp (x y:Cell):wZ (cY x) 0 (cY y)=cY y:=zyz
@[simp] def aGx (a b:List Int):D.list (a.map D.int++b.map D.int)=ints (a++b):=by simp[ints]
def lists (l:List (List Int)):D:=.list (l.map ints)
@[simp] def aGJ (l:List (List Int)):(lists l).l=l.map ints:=zyz
def ajY (l:List (List Int))(hl:l.length<=1000)(hs:l.flatten.length<=1000000):ah T 203 [lists l] (ints l.flatten):=by
 refine zyw 59 azG ?_;simp[YI];have hb:∀k,(l.take k).flatten.length<=l.flatten.length:=by
  intro k
  conv=>rhs;rw[<-IP k l]
  rw[List.flatten_append,mF];omega
 have bC:∀k (hk:k<l.length),(l.take (k+1)).flatten=(l.take k).flatten++l[k]:=λk hk=>by
  rw[iQ hk,List.flatten_append];simp
 refine aL.forRounds l.length (λk=>[.int ((l.take k).flatten.length:Nat),.int k]) (λk=>[]) ?_ (λk hk=>?_) ?_
 .simp
 .have hw:=bt hk (by omega);have h1:=bC k hk;have h2:=hb (k+1);rw[h1] at h2 ⊢;rw[mF] at h2 ⊢;generalize (l.take k).flatten.length=m at*;have uQ:i64.wrap ((m:Int)+(l[k].length:Int))=(m:Int)+l[k].length:=aQ (by omega);have FK:¬((m:Int)+l[k].length<0):=by omega
  simp[aiE,NO,hk,hw,uQ,FK]
 .simp[aiE,NO];have fG:ah T 214 [.list [],.int (l.flatten.length:Nat)] (.list []):=by
   refine .of_ext (g:=λ_ ds=>KT ds) rfl ⟨0,λ_ _=>?_⟩;show(if(0:Int)<=(l.flatten.length:Nat)/\((l.flatten.length:Nat):Int)<=4294967296 then some (D.list []) else none)=some (D.list []);rw[if_pos (by omega)]
  rw[List.length_flatten] at fG;refine⟨_,fG,?_⟩;refine aL.forRounds l.length (λk=>[.none,.int k]) (λk=>[ints (l.take k).flatten]) ?_ (λk hk=>?_) ?_
  .simp[ints]
  .have hw:=bt hk (by omega);have h1:=bC k hk;have h2:=hb (k+1);rw[h1] at h2 ⊢;rw[mF] at h2;generalize (l.take k).flatten=m at*;simp[aiF,NP,hk,hw];omega
  .simp[aiF,NP]
def alT {op:Int}{l:List Cell}(h:(iV op l).known=false):iV op l=fa:=by
 have hy:∀b,(iM b).known=true:=λb=>by cases b<;>simp[iM]
 unfold iV at h ⊢;split<;>rename_i c1
 .rw[if_pos c1] at h;split<;>rename_i c2
  .rw[if_pos c2,hy] at h;cases h
  .rfl
 rw[if_neg c1] at h;split<;>rename_i c2
 .rw[if_pos c2,hy] at h;cases h
 rw[if_neg c2] at h;split<;>rename_i c3
 .rw[if_pos c3] at h;split<;>rename_i c4
  .rw[if_pos c4,c4.1] at h;cases h
  .rfl
 rw[if_neg c3] at h;split<;>rename_i c4
 .rfl
 rw[if_neg c4] at h
 repeat' split at h
 all_goals first|(rw[hy] at h;cases h)|cases h
def ajq:∀(L:Nat) (cs:List Cell) (t:Tm) (k:Int),t.OK->cU L t<=60->cH L t=(k,0)->ah T 182 [QP cs,dS t] (.tup [cY (bN L cs t),ints (eK L cs t)])
 |0,cs,t,k,ht,hm,hc=>by simp[cU] at hm
 |L+1,cs,t,k,ht,hm,hc=>by
  refine zyw 52 az6 ?_;obtain⟨hl,hp⟩:=Tu hm;obtain⟨ha,_⟩:=Qu hc;obtain⟨hn,aFW⟩:=Qv hc;have jw:∀a,a∈t.args->ah T 182 [QP cs,dS a] (.tup [cY (bN L cs a),ints (eK L cs a)]):=λa fH=>ajq L cs a (cH L a).1 (ht.arg fH) (hp a fH) (by rw[<-ha a fH]);have yK:∀a,a∈t.args->xI (cH L a).1 (bN L cs a):=λa fH=>abU cs (show cH L a=((cH L a).1,0) by rw[<-ha a fH]);have hnl:∀a,a∈t.args->(eK L cs a).length<=60:=λa fH=>by have:=afr L cs a (hp a fH);have:=hp a fH;omega
  by_cases jN:t.op=0\/t.op=1
  ·
   have e1:bN (L+1) cs t=⟨true,t.n⟩:=by rw[KL,if_pos jN]
   have e2:eK (L+1) cs t=[]:=by rw[Ml,if_pos jN]
   rw[e1,e2];rcases jN with h|h<;>simp[It,h]<;>exact⟨rfl,rfl⟩
  have o0:t.op≠0:=λh=>jN (.inl h);have o1:t.op≠1:=λh=>jN (.inr h);by_cases o2:t.op=2
  .have hv:0<=t.n:=by
    cases hn with
    |var h0 ha hn=>exact hn.1
    |_=>omega
   have e1:bN (L+1) cs t=mC cs t.n:=by rw[KL,if_neg jN,if_pos o2]
   have e2:eK (L+1) cs t=if(mC cs t.n).known=true then[] else[t.n]:=by rw[Ml,if_neg jN,if_pos o2]
   rw[e1,e2];simp[It,o2];refine⟨_,axJ cs t.n hv,?_⟩;cases e:(mC cs t.n).known
   .have:mC cs t.n=fa:=by
     unfold mC at e ⊢;split
     .rfl
     .rename_i h;rw[if_neg h] at e;split at e
      .cases hb:decide ((cellAt cs t.n).n≠0)<;>rw[hb] at e<;>cases e
      .cases e
    rw[this];simp[ints]
   .have h:mC cs t.n=⟨true,(mC cs t.n).n⟩:=by rw[<-e]
    rw[h];simp[ints]
    try rfl
  have hlen:1<=t.args.length/\(t.op≠3->2<=t.args.length)/\(t.op=6->3<=t.args.length):=by
   cases hn with
   |int h0 ha hn=>omega
   |bool h0 ha hn=>omega
   |var h0 ha hn=>omega
   |not h0 hk=>obtain⟨a,hl,_⟩:=auc hk;rw[hl];simp;omega
   |log h0 hk=>obtain⟨a,b,hl,_⟩:=Cq hk;rw[hl];simp;omega
   |ite k h0 hk=>obtain⟨a,b,c,hl,_⟩:=Tr hk;rw[hl];simp
   |less h0 hk=>obtain⟨a,b,hl,_⟩:=Cq hk;rw[hl];simp;omega
   |equal k h0 hk=>obtain⟨a,b,hl,_⟩:=Cq hk;rw[hl];simp;omega
   |num h0 hk=>obtain⟨a,b,hl,_⟩:=Cq hk;rw[hl];simp;omega
  have hb9:9<=t.op->(-1099511627776<=(bz (t.args.map (bN L cs)) 0).n/\(bz (t.args.map (bN L cs)) 0).n<=1099511627776)/\(-1099511627776<=(bz (t.args.map (bN L cs)) 1).n/\(bz (t.args.map (bN L cs)) 1).n<=1099511627776):=by
   intro h9;have rb:∀c:Cell,xI 0 c->-1099511627776<=c.n/\c.n<=1099511627776:=by
    intro c hr;cases e:c.known with
    |false=>rw[hr.1 e];simp
    |true=>exact(hr.2 e).2 rfl
   cases hn with
   |num h0 hk=>
    obtain⟨a,b,hl,ea,eb⟩:=Cq hk;rw[hl] at yK ⊢;have r1:=yK a (by simp);have r2:=yK b (by simp);rw[ea] at r1;rw[eb] at r2;exact⟨rb _ r1,rb _ r2⟩
   |log h0 hk=>omega
   |_=>omega
  have h6:t.op=6->(bz (t.args.map (bN L cs)) 0).known=true->(bz (t.args.map (bN L cs)) 0).n=0\/(bz (t.args.map (bN L cs)) 0).n=1:=by
   intro o6 FD;cases hn with
   |ite k h0 hk=>
    obtain⟨a,b,c,hl,ea,_⟩:=Tr hk;rw[hl] at yK FD ⊢;have r1:=yK a (by simp);rw[ea] at r1;exact(r1.2 FD).1 rfl
   |log h0 hk=>omega
   |num h0 hk=>omega
   |_=>omega
  have eF:t.op<3\/8<t.op->9<=t.op:=by
   cases hn with
   |log h0 hk=>omega
   |num h0 hk=>omega
   |_=>omega
  have e1:bN (L+1) cs t=if t.op=6/\(bz (t.args.map (bN L cs)) 0).known=true then bz (t.args.map (bN L cs)) (2-(bz (t.args.map (bN L cs)) 0).n).toNat else iV t.op (t.args.map (bN L cs)):=by
   rw[KL,if_neg jN,if_neg o2]
  have e2:eK (L+1) cs t=if t.op=6/\(bz (t.args.map (bN L cs)) 0).known=true then(t.args.map (eK L cs)).getD (2-(bz (t.args.map (bN L cs)) 0).n).toNat [] else if(iV t.op (t.args.map (bN L cs))).known=true then[] else(t.args.map (eK L cs)).flatten:=by
   rw[Ml,if_neg jN,if_neg o2]
  rw[e1,e2];simp[It,o0,o1,o2];refine⟨by omega,?_⟩;refine aL.forRounds t.args.length (λk=>[.int k]) (λk=>[cells ((t.args.map (bN L cs)).take k++List.replicate (t.args.length-k) fa),lists ((t.args.map (eK L cs)).take k++List.replicate (t.args.length-k) [])]) ?_ (λk hk=>?_) ?_
  .simp[cells,lists,ints]
  .have hw:=bt hk (by omega);have cW:=bV hk;have hr:=jw _ cW;have s1:=WB (t.args.map (bN L cs)) fa (n:=t.args.length) (by simp) hk;have s2:=WB (t.args.map (eK L cs)) [] (n:=t.args.length) (by simp) hk;rw[<-s1,<-s2];have l1:((t.args.map (bN L cs)).take k++List.replicate (t.args.length-k) fa).length=t.args.length:=by simp;omega
   have l2:((t.args.map (eK L cs)).take k++List.replicate (t.args.length-k) []).length=t.args.length:=by simp;omega
   have g1:(t.args.map (bN L cs))[k]'(by simpa using hk)=bN L cs t.args[k]:=by simp
   have g2:(t.args.map (eK L cs))[k]'(by simpa using hk)=eK L cs t.args[k]:=by simp
   rw[g1,g2];generalize (t.args.map (bN L cs)).take k++List.replicate (t.args.length-k) fa=A at*;generalize (t.args.map (eK L cs)).take k++List.replicate (t.args.length-k) []=B at*;generalize bN L cs t.args[k]=c at*;generalize eK L cs t.args[k]=d at*;simp[Wj,H2,hk];refine⟨_,hr,?_⟩;simp[hw,hk,l1,l2,cells,lists]
  .have hA:(t.args.map (bN L cs)).take t.args.length++List.replicate (t.args.length-t.args.length) fa=t.args.map (bN L cs):=by rw[Pa,List.replicate_zero,tX,xE (by simp)]
   have hB:(t.args.map (eK L cs)).take t.args.length++List.replicate (t.args.length-t.args.length) []=t.args.map (eK L cs):=by rw[Pa,List.replicate_zero,tX,xE (by simp)]
   have lA:(t.args.map (bN L cs)).length=t.args.length:=by simp
   have lB:(t.args.map (eK L cs)).length=t.args.length:=by simp
   have uI:∀l:List Tm,(∀a,a∈l->a∈t.args)->((l.map (eK L cs)).flatten.length<=l.length*60):=by
    intro l
    induction l with
    |nil=>intro _;simp
    |cons a l ih=>
     intro h;have h1:=hnl a (h a (by simp));have h2:=ih (λb hb=>h b (by simp[hb]));rw[iP,aag,mF,qG];omega
   have uI:=uI t.args (λa h=>h);have hBg:∀m:Nat,(Option.map (eK L cs) t.args[m]?).getD []=(t.args.map (eK L cs)).getD m []:=λm=>by simp[aF]
   rw[hA,hB];generalize t.args.map (bN L cs)=A at*;generalize t.args.map (eK L cs)=B at*;have g0:0<A.length:=by omega
   have yh:A[0]=bz A 0:=by simp[bz,g0]
   by_cases K4:t.op=6/\(bz A 0).known=true
   .obtain⟨o6,kn⟩:=K4;have hv:=h6 o6 kn;have hw:i64.wrap (2-(bz A 0).n)=2-(bz A 0).n:=aQ (by omega);have h3:3<=t.args.length:=hlen.2.2 o6;rw[if_pos ⟨o6,kn⟩,if_pos ⟨o6,kn⟩];obtain⟨m,fH⟩:∃m:Nat,m=(2-(bz A 0).n).toNat:=⟨_,rfl⟩
    have FH:m<A.length:=by omega
    have RX:m<B.length:=by omega
    simp[Wj,H2,o6,kn,g0,yh,hw,<-fH,FH,RX,cells,lists];refine⟨by omega,by omega,by simp[bz,FH],?_⟩;rw[hBg,aF,aW RX];rfl
   .rw[if_neg K4,if_neg K4];have apS:=axF t.op A (by omega) (by omega) (by omega) hb9 eF;have apT:=ajY B (by omega) (by omega);simp[Wj,H2,g0,yh];rw[if_neg K4];refine⟨_,apS,?_⟩;cases e:(iV t.op A).known
    .have fI:iV t.op A=fa:=alT e;rw[fI];simp;exact apT
    .have h:iV t.op A=⟨true,(iV t.op A).n⟩:=by rw[<-e]
     rw[h];simp[ints]
     try rfl
def mX (n:Nat)(g:Nat->Bool):Int:=if(List.range n).findIdx g<n then((List.range n).findIdx g:Nat) else-1
def Gn (n:Nat)(g:Nat->Bool):(mX n g=-1/\∀k,k<n->g k=false)\/∃k:Nat,k<n/\mX n g=k/\g k=true/\∀i,i<k->g i=false:=by
 unfold mX;split
 .rename_i h;refine .inr ⟨_,h,rfl,?_,λi hi=>?_⟩
  .have:=List.findIdx_getElem (p:=g) (xs:=List.range n) (w:=by simpa using h);simpa using this
  .have:=List.not_of_lt_findIdx (p:=g) (xs:=List.range n) hi;simpa using this
 .rename_i h;refine .inl ⟨rfl,λk hk=>?_⟩;have:=List.not_of_lt_findIdx (p:=g) (xs:=List.range n) (i:=k) (by omega);simpa using this
def L1 {n:Nat}{g:Nat->Bool}(h:∀k,k<n->g k=false):mX n g=-1:=by
 rcases Gn n g with⟨h1,_⟩|⟨k,hk,_,h2,_⟩
 .exact h1
 .rw[h k hk] at h2;cases h2
def L2 {n k:Nat}{g:Nat->Bool}(hk:k<n)(h:g k=true)(hj:∀i,i<k->g i=false):mX n g=k:=by
 rcases Gn n g with⟨_,h1⟩|⟨m,hm,h1,h2,h3⟩
 .rw[h1 k hk] at h;cases h
 .rcases Nat.lt_trichotomy m k with h4|h4|h4
  .rw[hj m h4] at h2;cases h2
  .rw[h1,h4]
  .rw[h3 k h4] at h;cases h
def S9 (n:Nat)(g:Nat->Bool):decide (0<=mX n g)=(List.range n).any g:=by
 rcases Gn n g with⟨h1,h2⟩|⟨m,hm,h1,h2,h3⟩
 .rw[h1]
  symm
  simp;exact h2
 .rw[h1];simp;exact⟨m,hm,h2⟩
def aj9 (l:List Rule)(f:Nat)(caps:List D)(g:Nat->Bool)(hg:∀k (hk:k<l.length),ah T f (uu l[k]::caps) (.bool (g k)))(hl:l.length<=4294967296):
 ah T 179 [rules l,.clo f caps] (.int (mX l.length g)):=by
 refine zyw 43 azO ?_;simp[YQ];refine .scan l.length (λk=>g k=false) (λk=>[.int 0,.int k]) (λ_=>[]) ?_ (λk hk hj ho=>?_) (λk hk hj ho=>?_) (λhj=>?_)
 .simp
 .have hw:=bt hk hl;simp[Wd,HW,hk,hw];refine⟨_,_,⟨rfl,rfl⟩,_,hg k hk,?_⟩;simp[ho,hw]
 .have he:=L2 hk (by simpa using ho) hj;simp[Wd,HW,hk,he];refine⟨_,_,⟨rfl,rfl⟩,_,hg k hk,?_⟩;simp[ho]
 .have he:=L1 hj;simp[Wd,HW,he]
def aka (l:List Int)(f:Nat)(caps:List D)(g:Nat->Bool)(hg:∀k (hk:k<l.length),ah T f (.int l[k]::caps) (.bool (g k)))(hl:l.length<=4294967296):
 ah T 207 [ints l,.clo f caps] (.int (mX l.length g)):=by
 refine zyw 38 azP ?_;simp[YR];refine .scan l.length (λk=>g k=false) (λk=>[.int 0,.int k]) (λ_=>[]) ?_ (λk hk hj ho=>?_) (λk hk hj ho=>?_) (λhj=>?_)
 .simp
 .have hw:=bt hk hl;simp[We,HX,hk,hw,ints];refine⟨_,_,⟨rfl,rfl⟩,_,hg k hk,?_⟩;simp[ho,hw]
 .have he:=L2 hk (by simpa using ho) hj;simp[We,HX,hk,he,ints];refine⟨_,_,⟨rfl,rfl⟩,_,hg k hk,?_⟩;simp[ho]
 .have he:=L1 hj;simp[We,HX,he,ints]
def aj7 (l:List Alter)(f:Nat)(caps:List D)(g:Nat->Bool)(hg:∀k (hk:k<l.length),ah T f (q9 l[k]::caps) (.bool (g k)))(hl:l.length<=4294967296):
 ah T 206 [alters l,.clo f caps] (.int (mX l.length g)):=by
 refine zyw 26 azM ?_;simp[YO];refine .scan l.length (λk=>g k=false) (λk=>[.int 0,.int k]) (λ_=>[]) ?_ (λk hk hj ho=>?_) (λk hk hj ho=>?_) (λhj=>?_)
 .simp
 .have hw:=bt hk hl;simp[Wb,HU,hk,hw];refine⟨_,_,⟨rfl,rfl⟩,_,hg k hk,?_⟩;simp[ho,hw]
 .have he:=L2 hk (by simpa using ho) hj;simp[Wb,HU,hk,he];refine⟨_,_,⟨rfl,rfl⟩,_,hg k hk,?_⟩;simp[ho]
 .have he:=L1 hj;simp[Wb,HU,he]
def aj1 (l:List Int)(f:Nat)(caps:List D)(g:Nat->Bool)(hg:∀k (hk:k<l.length),ah T f (.int l[k]::caps) (.bool (g k)))(hl:l.length<=4294967296):
 ah T 197 [ints l,.clo f caps] (.bool ((List.range l.length).any g)):=by
 refine zyw 37 azJ ?_;simp[YL];refine⟨_,aka l f caps g hg hl,?_⟩;have:=S9 l.length g;simp[<-this]
def ajZ (l:List Alter)(f:Nat)(caps:List D)(g:Nat->Bool)(hg:∀k (hk:k<l.length),ah T f (q9 l[k]::caps) (.bool (g k)))(hl:l.length<=4294967296):
 ah T 193 [alters l,.clo f caps] (.bool ((List.range l.length).any g)):=by
 refine zyw 25 azH ?_;simp[YJ];refine⟨_,aj7 l f caps g hg hl,?_⟩;have:=S9 l.length g;simp[<-this]
def Bz (cs:List Cell)(t:Tm):Cell:=if(pz t).2=0 then bN 8 cs t else fa
def alE {t:Tm}(h:(pz t).2=0):cU 8 t<=60/\cH 8 t=((pz t).1,0):=by
 unfold pz at h ⊢;split at h
 .cases h
 .rename_i hm;rw[if_neg hm];exact⟨by omega,by rw[<-h]⟩
def axD (t:Tm)(cs:List Cell)(ht:t.OK):ah T 161 [dS t,cells cs] (cY (Bz cs t)):=by
 refine zyw 51 azZ ?_;simp[Zc,Bz];refine⟨_,ajo t ht,?_⟩;by_cases h:(pz t).2=0
 .obtain⟨h1,h2⟩:=alE h;simp[h];refine⟨_,ajq 8 cs t _ ht h1 h2,?_⟩;simp
  try rfl
 .simp[h]
  try rfl
def TD:List Int:=[6,7,10,12,13,14,15,16,20,21]
def sr (ask:Int):Int×Bool:=if ask<0\/22<=ask then(0,false) else if hasB TD ask then(0,true) else(1,true)
def UI (ask:Int):ah T 157 [.int ask] (.tup [.int (sr ask).1,.bool (sr ask).2]):=by
 refine zyw 31 ayz ?_;simp[XG,sr];by_cases h0:ask<0
 .simp[h0]
 by_cases h1:22<=ask
 .simp[h0,h1]
 simp[h0,h1];refine⟨_,xq TD ask (by decide),?_⟩;cases h:hasB TD ask<;>simp[h]
def Mm:Tm:=⟨0,0,[]⟩
def wW (o:Order)(ask:Int)(k:Nat):Bool:=decide ((o.rules.getD k default).ask=ask)
def Ic (o:Order)(i:Int):Tm:=(o.rules.getD i.toNat default).term
def findF (o:Order)(ask:Int):Tm×Int:=
 if(sr ask).2=false then(Mm,1) else if mX o.rules.length (wW o ask)<0 then(Mm,4) else
    if(pz (Ic o (mX o.rules.length (wW o ask)))).2≠0\/(pz (Ic o (mX o.rules.length (wW o ask)))).1≠(sr ask).1 then(Mm,11) else(Ic o (mX o.rules.length (wW o ask)),0)
def aiZ {o:Order}(ho:o.OK){m:Nat}(hm:m<o.rules.length):o.rules[m].term.OK:=(ho.2.2 _ (bV hm)).2
def TC:Mm.OK:=by
 exact .mk 0 0 [] (by unfold aZ;omega) (by unfold aZ;omega) (by decide) (λ_ h=>by cases h)
def anI {o:Order}(ho:o.OK)(ask:Int):(findF o ask).1.OK:=by
 unfold findF;split
 .exact TC
 split
 .exact TC
 split
 .exact TC
 .rename_i h _;rcases Gn o.rules.length (wW o ask) with⟨h1,h2⟩|⟨m,hm,h1,h2,h3⟩
  .exact absurd (by rw[h1];decide) h
  .rw[h1];simp[Ic,hm];exact aiZ ho hm
def anG (r:Rule)(ask:Int):ah T 180 [uu r,.ref (.int ask)] (.bool (decide (r.ask=ask))):=by
 refine zyw 42 ayA ?_;simp[XI]
def au2 (o:Order)(ask:Int)(ho:o.OK)(hl:o.rules.length<=4294967296):ah T 160 [kl o,.int ask] (.tup [dS (findF o ask).1,.int (findF o ask).2]):=by
 refine zyw 41 ayB ?_;simp[XH,findF];refine⟨_,UI ask,?_⟩;cases h0:(sr ask).2
 .simp[h0]
  try rfl
 simp[h0];refine⟨_,aj9 o.rules 180 [.ref (.int ask)] (wW o ask) (λk hk=>by simpa [wW,hk] using anG o.rules[k] ask) hl,?_⟩;rcases Gn o.rules.length (wW o ask) with⟨h1,h2⟩|⟨m,hm,h1,h2,h3⟩
 .rw[h1];simp
  try rfl
 .rw[h1];have FK:¬((m:Int)<0):=by omega
  have htm:o.rules[m].term.OK:=aiZ ho hm;simp[hm,Ic,FK];refine⟨_,ajo _ htm,?_⟩;by_cases h4:(pz o.rules[m].term).2=0<;>by_cases h5:(pz o.rules[m].term).1=(sr ask).1<;>simp[h4,h5]<;>try rfl
def Al (o:Order)(ask:Int)(cs:List Cell):Cell×Int:=
 if(findF o ask).2≠0 then(fa,(findF o ask).2) else
    (if(sr ask).1=0/\(Bz cs (findF o ask).1).known=true then⟨true,min (max (Bz cs (findF o ask).1).n 0) 20000⟩ else Bz cs (findF o ask).1,0)
def au0 (o:Order)(ask:Int)(cs:List Cell)(ho:o.OK)(hl:o.rules.length<=4294967296):ah T 110 [kl o,.int ask,cells cs] (.tup [cY (Al o ask cs).1,.int (Al o ask cs).2]):=by
 refine zyw 40 ayy ?_;simp[XF];refine⟨_,au2 o ask ho hl,?_⟩;have hf:(findF o ask).1.OK:=anI ho ask;by_cases h:(findF o ask).2=0
 .simp[h,Al];refine⟨_,axD _ cs hf,_,UI ask,?_⟩;generalize Bz cs (findF o ask).1=c;obtain⟨kn,n⟩:=c;by_cases h1:(sr ask).1=0
  .cases kn
   .simp[h1,cY]
   .by_cases h2:n<0
    .have:min (max n 0) 20000=0:=by omega
     simp[h1,cY,h2,this];rfl
    .by_cases h3:20000<n
     .have:min (max n 0) 20000=20000:=by omega
      simp[h1,cY,h2,h3,this];rfl
     .have:min (max n 0) 20000=n:=by omega
      simp[h1,cY,h2,h3,this];rfl
  .simp[h1,cY]
 .simp[h,Al]
  try rfl
def aiL (b:Bool):ah T 195 [.bool b] (cY (iM b)):=by
 refine zyw 29 azE ?_;cases b<;>simp[YG,iM]<;>rfl
def KN (kind sign:Int)(x:Fact):Bool:=decide (x.kind=kind)&&decide (x.at_=sign)
def l0 (f:File)(kind sign:Int):Cell:=match f.facts.find? (KN kind sign) with|none=>fa|some x=>iM (decide (x.n≠0))
def BB {α:Type}{p:α->Bool}:∀{l:List α} {k:Nat} (hk:k<l.length),p l[k]=true->(∀j (hj:j<k),p (l[j]'(by omega))=false)->l.find? p=some l[k]
 |a::l,0,hk,h,hj=>by simp at h;simp[h]
 |a::l,k+1,hk,h,hj=>by
  have h0:=hj 0 (by omega);simp at h0;simp only[List.find?_cons,h0,List.getElem_cons_succ];exact BB (by simpa using hk) (by simpa using h) (λj bB=>by simpa using hj (j+1) (by omega))
def EY {α:Type}{p:α->Bool}{l:List α}(h:∀j (hj:j<l.length),p l[j]=false):l.find? p=none:=by
 rw[Ac];intro x hx;obtain⟨j,hj,rfl⟩:=fu hx;rw[h j hj];decide
def H7 (f:File)(kind sign:Int)(hl:f.facts.length<=4294967296):ah T 196 [ct f,.int kind,.int sign] (cY (l0 f kind sign)):=by
 refine zyw 30 azA ?_;simp[YC];refine .scan f.facts.length (λk=>KN kind sign (f.facts.getD k default)=false) (λk=>[.int k]) (λ_=>[cY fa]) ?_ (λk hk hj ho=>?_) (λk hk hj ho=>?_) (λhj=>?_)
 .simp
 .have hw:=bt hk hl;simp[hk,KN] at ho;by_cases h1:f.facts[k].kind=kind<;>by_cases h2:f.facts[k].at_=sign
  .exact absurd h2 (ho h1)
  all_goals simp[V7,HQ,hk,hw,h1,h2]
 .have hw:=bt hk hl;have hf:l0 f kind sign=iM (decide (f.facts[k].n≠0)):=by
   unfold l0;rw[BB hk (by simpa [hk] using ho) (λj bB=>by have:=hj j bB;simpa [show j<f.facts.length by omega] using this)]
  simp[hk,KN] at ho;simp[V7,HQ,hk,hw,ho,hf];refine⟨_,aiL _,?_⟩;simp
  try rfl
 .have hf:l0 f kind sign=fa:=by
   unfold l0;rw[EY (λj bB=>by have:=hj j bB;simpa [bB] using this)]
  simp[V7,HQ,hf]
  try rfl
def gC (r:Realm)(c:Int):Int:=if aC c r.cities.length=true then(r.cities.getD c.toNat default).order else-1
def sc (r:Realm)(c:Int):ah T 123 [aP r,.int c] (.int (gC r c)):=by
 refine zyw 27 azo ?_;simp[Yq,gC];refine⟨_,gd c r.cities.length,?_⟩;cases h:aC c r.cities.length
 .simp[h]
 .simp[aC] at h;have h1:c.toNat<r.cities.length:=by omega
  simp[h,h1]
def OH (day:Int)(l:List Sign):List Sign:=l.takeWhile λs=>decide (s.day<=day)
def upA (day:Int)(l:List Act):List Act:=l.takeWhile λs=>decide (s.day<=day)
def sF (n:Nat)(a:Alter):Bool:=decide (a.at_<=(n:Int))
def uw (n:Nat)(x:Fact):Bool:=aC x.at_ n
def cr (f:File)(day:Int):File:=
 ⟨f.bill,OH day f.signs,f.alters.filter (sF (OH day f.signs).length),upA day f.acts,f.facts.filter (uw (OH day f.signs).length)⟩
def OF {α:Type}(p:α->Bool):∀(l:List α),∃m,m<=l.length/\l.takeWhile p=l.take m/\(∀k (hk:k<l.length),k<m->p l[k]=true)/\(∀hk:m<l.length,p l[m]=false)
 |[]=>⟨0,by simp,by simp,λk hk=>by simp at hk,λhk=>by simp at hk⟩
 |a::l=>by
  by_cases h:p a=true
  .obtain⟨m,h1,h2,h3,h4⟩:=OF p l;refine⟨m+1,by simp;omega,by simp[h,h2],λk hk hm=>?_,λhk=>?_⟩
   .cases k with
    |zero=>simpa using h
    |succ k=>simpa using h3 k (by simpa using hk) (by omega)
   .simpa using h4 (by simpa using hk)
  .refine⟨0,by simp,by simp[h],λk hk hm=>by omega,λhk=>by simpa using h⟩
def Ol {α:Type}(p:α->Bool)(l:List α){k:Nat}(hk:k<l.length):(l.take (k+1)).filter p=(l.take k).filter p++if p l[k] then[l[k]] else[]:=by
 rw[iQ hk,OX]
 congr 1
 cases h:p l[k]<;>simp[h]
def DW (b:Bill)(w x y z:D):D:=.agg [.int b.drawer,.int b.drawee,.int b.payee,.int b.sum,.int b.currency,.int b.tenor.kind,.int b.tenor.n,.int b.tenor.unit,.int b.day,.int b.city,.int b.pay,.int b.need,.int b.rate,.int b.flags,.int b.parts,w,x,y,z]
def pR {α:Type}(l:List α):D:=match l with|[]=>.list []|_=>.none
@[simp] def aGc {α:Type}:pR ([]:List α)=.list []:=rfl
@[simp] def aGb {α:Type}(l:List α)(x:α):pR (l++[x])=.none:=by cases l<;>rfl
def Wn (f:File)(day:Int)(h1:f.signs.length<=4294967295)(h2:f.acts.length<=4294967295)(h3:f.alters.length<=4294967295)(h4:f.facts.length<=4294967295):ah T 34 [ct f,.int day] (ct (cr f day)):=by
 refine zyw 17 azz ?_;simp[YB];obtain⟨m,hm,hS,hS1,BN⟩:=OF (λs:Sign=>decide (s.day<=day)) f.signs;obtain⟨n,hn,hA,hA1,hA2⟩:=OF (λs:Act=>decide (s.day<=day)) f.acts;refine aL.forRounds m (λk=>[.int k]) (λk=>[signs (f.signs.take k),DW f.bill (pR (f.signs.take k)) (.list []) (.list []) (.list [])]) ?_ (λk hk=>?_) ?_
 .simp[DW,signs]
  try rfl
 .have bf:k<f.signs.length:=by omega
  have hw:=bt bf (by omega);have hd:=hS1 k bf hk;simp at hd;have gq:¬day<f.signs[k].day:=by omega
  have hle:(k:Int)+1<=4294967296:=by omega
  have ht:=iQ bf;rw[ht];have hlen:(f.signs.take k).length=k:=by simp;omega
  generalize f.signs.take k=A at*;simp[V3,HL,bf,hw,gq,hlen];exact⟨hle,by simp[signs],rfl⟩
 have hSl:(f.signs.take m).length<=4294967295:=by rw[dQ];omega
 have hAt:cr f day=⟨f.bill,f.signs.take m,f.alters.filter (sF (f.signs.take m).length),f.acts.take n,f.facts.filter (uw (f.signs.take m).length)⟩:=by
  unfold cr OH upA;rw[hS,hA]
 rw[hAt];generalize f.signs.take m=S at*;have hAl:(f.acts.take n).length<=4294967295:=by rw[dQ];omega
 by_cases fH:m<f.signs.length
 case' pos=>
  have hd:=BN fH;simp at hd;simp[V3,HL,fH,hd];generalize D.bool true=bb
 case' neg=>
  have FG:m=f.signs.length:=by omega
  simp[V3,HL,fH,FG];generalize D.bool false=bb
 all_goals
  refine aL.forRounds n (λk=>[.int k]) (λk=>[acts (f.acts.take k),DW f.bill (pR S) (.list []) (pR (f.acts.take k)) (.list [])]) ?_ (λk hk=>?_) ?_
  .simp[acts]
  .have bf:k<f.acts.length:=by omega
   have hw:=bt bf (by omega);have hd:=hA1 k bf hk;simp at hd;have gq:¬day<f.acts[k].day:=by omega
   have hle:(k:Int)+1<=4294967296:=by omega
   have ht:=iQ bf;rw[ht];have hlen:(f.acts.take k).length=k:=by simp;omega
   generalize f.acts.take k=A at*;simp[V4,HM,bf,hw,gq,hlen];exact⟨hle,by simp[acts],rfl⟩
  generalize f.acts.take n=A at*;by_cases lH:n<f.acts.length
  case' pos=>
   have hd:=hA2 lH;simp at hd;simp[V4,HM,lH,hd];generalize D.bool true=bc
  case' neg=>
   have rA:n=f.acts.length:=by omega
   simp[V4,HM,lH,rA];generalize D.bool false=bc
  all_goals
   refine aL.forRounds f.alters.length (λk=>[.int k]) (λk=>[DW f.bill (pR S) (pR ((f.alters.take k).filter (sF S.length))) (pR A) (.list []),alters ((f.alters.take k).filter (sF S.length))]) ?_ (λk hk=>?_) ?_
   .simp[alters]
   .have hw:=bt hk (by omega);have ht:=Ol (sF S.length) f.alters hk;rw[ht];have hlen:((f.alters.take k).filter (sF S.length)).length<=k:=gk (pg _ _) (by simp;omega);generalize (f.alters.take k).filter (sF S.length)=B at*;by_cases hd:f.alters[k].at_<=(S.length:Int)
    .simp[V5,HO,sF,hk,hw,hd];exact⟨by omega,rfl,by simp[alters]⟩
    .simp[V5,HO,sF,hk,hw,hd]
   simp[V5,HO];generalize f.alters.filter (sF S.length)=B at*;refine aL.forRounds f.facts.length (λk=>[.int k]) (λk=>[DW f.bill (pR S) (pR B) (pR A) (pR ((f.facts.take k).filter (uw S.length))),facts ((f.facts.take k).filter (uw S.length))]) ?_ (λk hk=>?_) ?_
   .simp[facts]
   .have hw:=bt hk (by omega);have ht:=Ol (uw S.length) f.facts hk;rw[ht];have hlen:((f.facts.take k).filter (uw S.length)).length<=k:=gk (pg _ _) (by simp;omega);generalize (f.facts.take k).filter (uw S.length)=C at*;cases hd:aC f.facts[k].at_ S.length
    .simp[V6,HP,uw,hk,hw,hd];refine⟨_,sd _ _,?_⟩;simp[hd,hw]
    .simp[V6,HP,uw,hk,hw,hd];refine⟨_,sd _ _,?_⟩;simp[hd,hw];exact⟨by omega,rfl,by simp[facts]⟩
   simp[V6,HP];rfl
def Cv:List Int->Int
 |[]=>-1
 |x::l=>l.foldl min x
def akj (x:Int)(l:List Int)(hl:l.length<4294967296):ah T 78 [ints (x::l)] (.int (Cv (x::l))):=by
 refine zyw 64 azS ?_;have h0:¬((l.length:Int)+1<1):=by omega
 simp[YU,h0,Cv,ints];refine aL.forRounds l.length (λk=>[.int ((l.take k).foldl min x),.int ((k:Int)+1)]) (λk=>[]) ?_ (λk hk=>?_) ?_
 .simp
 .have hw:i64.wrap ((k:Int)+1+1)=(k:Int)+1+1:=aQ (by omega);rw[iQ hk,tY];generalize (l.take k).foldl min x=y;have ht:((k:Int)+1).toNat=k+1:=by omega
  have af:(k:Int)+1<(l.length:Int)+1:=by omega
  simp[aiG,NQ,hk,hw,ht,af];refine⟨by omega,?_⟩;by_cases h:l[k]<y
  .simp[h];omega
  .simp[h];omega
 .simp[aiG,NQ]
def oS (f:File)(n:Nat):List Int:=if f.bill.tenor.kind=1 then((f.signs.take n).filter (λs=>decide (s.kind=1))).map (·.day) else[]
def mA (f:File)(n:Nat):List Int:=if f.bill.tenor.kind=1 then((f.acts.take n).filter (λs=>decide (s.kind=1))).map (·.day) else[]
def Ij (f:File)(a:Act):Bool:=decide (f.bill.tenor.kind=0)&&decide (a.kind=2)
def sl (f:File):Int:=match f.acts.find? (Ij f) with|some a=>a.day|none=>Cv (oS f f.signs.length++mA f f.acts.length)
def awC (f:File)(h1:f.signs.length<=100000)(h2:f.acts.length<=100000):ah T 38 [ct f] (.int (sl f)):=by
 refine zyw 63 azB ?_;simp[YD];refine aL.forRounds f.signs.length (λk=>[.none,.int k]) (λk=>[ints (oS f k)]) ?_ (λk hk=>?_) ?_
 .simp[oS,ints]
 .have hw:=bt hk (by omega);have hs:oS f (k+1)=oS f k++if f.bill.tenor.kind=1/\f.signs[k].kind=1 then[f.signs[k].day] else[]:=by
   unfold oS;by_cases h:f.bill.tenor.kind=1
   .simp only[if_pos h,Ol _ _ hk,nH,h,true_and]
    congr 1
    by_cases h':f.signs[k].kind=1<;>simp[h']
   .simp[h]
  have hlen:(oS f k).length<=k:=by
   unfold oS;split
   .rw[ei];exact gk (pg _ _) (by simp;omega)
   .simp
  rw[hs];generalize oS f k=A at*;by_cases hc:f.bill.tenor.kind=1/\f.signs[k].kind=1
  .simp[V8,HR,hk,hw,hc];exact⟨by omega,by simp[ints]⟩
  .simp[V8,HR,hk,hw,hc]
 .have hlS:(oS f f.signs.length).length<=100000:=by
   unfold oS;split
   .rw[ei];exact gk (pg _ _) (by simp;omega)
   .simp
  have hE:sl f=match f.acts.find? (Ij f) with|some a=>a.day|none=>Cv (oS f f.signs.length++mA f f.acts.length):=rfl
  generalize oS f f.signs.length=A at*;simp[V8,HR];refine aL.scan f.acts.length (λk=>Ij f (f.acts.getD k default)=false) (λk=>[.int 0,.none,.int k]) (λk=>[ints (A++mA f k)]) ?_ (λk hk hj ho=>?_) (λk hk hj ho=>?_) (λhj=>?_)
  .simp[mA,ints]
  .have hw:=bt hk (by omega);have hs:mA f (k+1)=mA f k++if f.bill.tenor.kind=1/\f.acts[k].kind=1 then[f.acts[k].day] else[]:=by
        unfold mA;by_cases h:f.bill.tenor.kind=1
        .simp only[if_pos h,Ol _ _ hk,nH,h,true_and]
         congr 1
         by_cases h':f.acts[k].kind=1<;>simp[h']
        .simp[h]
   have hlen:(mA f k).length<=k:=by
        unfold mA;split
        .rw[ei];exact gk (pg _ _) (by simp;omega)
        .simp
   rw[hs];generalize mA f k=B at*;simp[Ij,hk] at ho;by_cases hc:f.bill.tenor.kind=1/\f.acts[k].kind=1
   .simp[HT,zF,hk,hw,hc];exact⟨by omega,by simp[ints]⟩
   .have hn:¬(f.bill.tenor.kind=0/\f.acts[k].kind=2):=λh=>ho h.1 h.2;simp[HT,zF,hk,hw,hc,hn]
  .have hf:sl f=f.acts[k].day:=by
        rw[hE,BB hk (by simpa [hk] using ho) (λj bB=>by have:=hj j bB;simpa [show j<f.acts.length by omega] using this)]
   simp[Ij,hk] at ho;simp[HT,zF,hk,ho,hf]
  .have hf:sl f=Cv (A++mA f f.acts.length):=by
        rw[hE,EY (λj bB=>by have:=hj j bB;simpa [bB] using this)]
   have hlA:(mA f f.acts.length).length<=100000:=by
        unfold mA;split
        .rw[ei];exact gk (pg _ _) (by simp;omega)
        .simp
   rw[hf];have hL:(A++mA f f.acts.length).length<=200000:=by rw[mF];omega
   generalize A++mA f f.acts.length=L at*;cases L with
   |nil=>simp[HT,zF,Cv,ints]
   |cons x l=>
    have au:¬((l.length:Int)+1=0):=by omega
    simp[HT,zF,au];exact akj x l (by simp at hL;omega)
def iU (g:Nat->Cell):D:=.list ((List.range 20).map λi=>cY (g i))
def abc {g g':Nat->Cell}(h:∀i,i<20->g i=g' i):iU g=iU g':=by
 unfold iU
 congr 1
 exact qH λi hi=>by rw[h i (by simpa using hi)]
def abd (g:Nat->Cell)(k:Nat)(c:Cell):D.list ((iU g).l.set k (cY c))=iU (λi=>if i=k then c else g i):=by
 unfold iU
 congr 1
 show((List.range 20).map λi=>cY (g i)).set k (cY c)=_;apply OW
 .simp
 .intro i h1 h2;simp at h2;rw[List.getElem_set];by_cases h:k=i
  .simp[h]
  .have h':¬i=k:=λe=>h e.symm;simp[h,h']
@[simp] def aD4 (g:Nat->Cell):(iU g).l.length=20:=by
  show((List.range 20).map λi=>cY (g i)).length=20;simp
def Jd (g:Nat->Cell){k:Nat}(hk:k<20):(iU g).l[k]?.getD D.none=cY (g k):=by
 show((List.range 20).map λi=>cY (g i))[k]?.getD D.none=cY (g k);simp[hk]
def als (g:Nat->Cell){k:Nat}(hk:k<(iU g).l.length):(iU g).l[k]=cY (g k):=by
 have h:=Jd g (k:=k) (by simpa using hk);rw[aW hk] at h;exact h
def alv (g:Nat->Cell)(k:Nat)(c:Cell):(iU g).l.set k (cY c)=(iU (λi=>if i=k then c else g i)).l:=congrArg D.l (abd g k c)
def alu (g:Nat->Cell):D.list (iU g).l=iU g:=rfl
@[simp] def aH2 (x:Cell)(b:Bool)(n:Int):wZ (cY x) 0 (D.agg [D.bool b,D.int n])=cY ⟨b,n⟩:=zyz
def BA {α:Type}(l:List (Int×α))(val:α->Cell)(g0:Nat->Cell)(i:Nat):Cell:=match l.find? (λp=>decide (p.1=(i:Int))) with|some p=>val p.2|none=>g0 i
def tw {α:Type}(enc:α->D)(p:Int×α):D:=.tup [.int p.1,enc p.2]
def ae6 {α:Type}{J o:Nat}{ps dc:List Nat}{a:PC}{O:Env}{Q:Out->Prop}(l:List (Int×α))(enc:α->D)(val:α->Cell)(g0:Nat->Cell)
 (nd:∀p q,p∈l->q∈l->p.1=q.1->p=q) (Wt:∀p,p∈l->0<=p.1) (he:O.o J=.tup [.list [],.map (l.map λp=>(.int p.1,enc p.2))]) (h0:O.o o=iU g0)
 (step:∀p,p∈l->∀g done,aH T (sk [o] a) ((O.put ps (dc.map (tw enc p).tget) [o] [iU g]).setO J (.tup [.list (done++[tw enc p]),.map (l.map λp=>(.int p.1,enc p.2))])) (λy=>∃O',y=.next O'/\O'.o o=.list ((iU g).l.set p.1.toNat (cY (val p.2)))))
 (last:Q (.next (O.put [] [] [o] [iU (BA l val g0)]))):aL T (.meach J ps dc [o] a) O Q:=by
 have oB:jh (.map (l.map λp=>((D.int p.1,enc p.2):D×D)))=l.map (tw enc):=by
  simp[jh,tw]
 refine .meachR _ he (λdone vo=>∃g:Nat->Cell,vo=[iU g]/\(∀p,p∈l->tw enc p∈done->g p.1.toNat=val p.2)/\∀i:Nat,(∀p,p∈l->tw enc p∈done->p.1≠i)->g i=g0 i) ⟨g0,by simp[h0],(λp _ h=>by cases h),λi _=>rfl⟩ (λdone x rest vo hp ⟨g,hv,jQ,iv⟩=>?_) ⟨_,λdone hp vo ⟨g,hv,jQ,iv⟩=>?_,last⟩
 .subst hv;rw[oB] at hp;have hx:x∈l.map (tw enc):=hp.subset (by simp);obtain⟨p,fK,rfl⟩:=bZ.mp hx;refine Aj _ (λy ⟨O',e,ho⟩=>⟨O',e,λi=>if i=p.1.toNat then val p.2 else g i,by simp[ho,abd],λq hq Sr=>?_,λi hi=>?_⟩) (step p fK g done)
  .have yI:=Wt q hq;have rF:=Wt p fK;by_cases h:q.1=p.1
   .rw[nd q p hq fK h];simp
   .show(if q.1.toNat=p.1.toNat then val p.2 else g q.1.toNat)=val q.2;rw[if_neg (by omega)];rcases dR.mp Sr with h1|h1
    .exact jQ q hq h1
    .simp[tw] at h1;exact absurd h1.1 h
  .have rF:=Wt p fK;have df:=hi p fK (by simp);show(if i=p.1.toNat then val p.2 else g i)=g0 i;rw[if_neg (by omega)];exact iv i λq hq Sr=>hi q hq (by simp[Sr])
 .rw[hv,oB] at*
  congr 1
  refine abc λi hi=>?_;unfold BA;cases hf:l.find? (λp=>decide (p.1=(i:Int))) with
  |some p=>
   have fK:=DL hf;have LH:p.1=(i:Int):=by simpa using OY hf
   have:=jQ p fK (hp.symm.subset (Ag fK));simp only;rw[<-this,LH];rfl
  |none=>
   refine iv i λp fK _=>?_;have:=Ac.mp hf p fK;simpa using this
@[simp] def aGH (a b:Int):eQ (D.int a) (D.int b)=decide (a=b):=by
  show((a==b)&&true)=decide (a=b);rw[Bool.and_true];by_cases h:a=b<;>simp[h]
def E2 (n k:Int):Bool:=decide (bW .and .i64 n k≠0)
def Co (s:Sign)(due:Int):Int:=if due=-1 then 0 else s.day-due
def aaJ (f:File)(sign:Int):Bool:=(List.range f.alters.length).any λk=>decide ((f.alters.getD k default).at_<=sign)
def rB (c:Case):Int:=if c.holder<0 then 0 else c.holder
def wU (c:Case)(s:Sign):List (Int×Int):=[(0,c.file.bill.sum),(1,c.file.bill.parts),(2,c.file.bill.tenor.kind),(3,c.file.bill.rate),(4,s.kind),(5,c.defence),(6,Co s c.due)]
def wV (r:Realm)(c:Case)(s:Sign):List (Int×Bool):=[(7,E2 c.file.bill.flags 1),(8,decide (c.file.bill.payee=-1)),(9,E2 c.file.bill.flags 4),(10,E2 c.file.bill.flags 2),(11,decide (gC r c.file.bill.city≠gC r c.file.bill.pay)),(12,aaJ c.file c.sign),(13,E2 s.flags 1),(14,decide (0<Co s c.due))]
def Rb (r:Realm)(c:Case)(s:Sign):List Cell:=
 (wU c s).map (λp=>⟨true,p.2⟩)++(wV r c s).map (λp=>iM p.2)++
    [l0 c.file 0 c.sign,l0 c.file 1 c.sign,l0 c.file 2 c.sign,l0 c.file 3 (rB c),l0 c.file 4 (rB c)]
@[simp] def aDD (x:Case):kh 19 (fT x)=ct x.file:=zyz
@[simp] def aDB (x:Case):kh 15 (fT x)=dI x.file.bill:=zyz
@[simp] def aDC (x:File):kh 15 (ct x)=dI x.bill:=zyz
def vA (c:Case):Bool:=aC c.sign c.file.signs.length&&decide (-1<=c.holder)&&decide (rB c<c.file.signs.length)&&(decide (c.due=-1)||aC c.due 100001)
def j4 (r:Realm)(c:Case):List Cell:=if vA c=true/\aC (c.file.signs.getD c.sign.toNat default).day 100001=true then Rb r c (c.file.signs.getD c.sign.toNat default) else[]
def awD (r:Realm)(c:Case)(h2:c.file.facts.length<=100000)(h3:c.file.alters.length<=100000):ah T 176 [aP r,fT c] (cells (j4 r c)):=by
 refine zyw 23 azD ?_;cases hs:aC c.sign c.file.signs.length
 .have hv:j4 r c=[]:=by unfold j4 vA;rw[hs];simp
  rw[hv];simp[xb];refine⟨_,sd _ _,?_⟩;simp[hs];rfl
 by_cases hh:c.holder< -1
 .have hv:j4 r c=[]:=by unfold j4 vA;rw[hs];simp;intros;omega
  rw[hv];simp[xb,hh];exact⟨⟨_,sd _ _⟩,rfl⟩
 by_cases hm:(c.file.signs.length:Int)<=rB c
 .have hv:j4 r c=[]:=by unfold j4 vA;rw[hs];simp;intros;omega
  rw[hv];unfold rB at hm;simp[xb,hm];exact⟨⟨_,sd _ _⟩,rfl⟩
 by_cases hd:c.due≠-1/\aC c.due 100001=false
 .have hv:j4 r c=[]:=by unfold j4 vA;rw[hs];simp[hd]
  rw[hv];unfold rB at hm;obtain⟨br,dB⟩:=hd;simp[xb,hh,hm,br];refine⟨_,sd _ _,?_⟩;simp[hs,hh,hm,br];refine⟨_,sd _ _,?_⟩;simp[hs,hh,hm,br,dB];rfl
 have hcb:vA c=true:=by
  unfold vA;rw[hs];simp;refine⟨⟨by omega,by omega⟩,?_⟩;by_cases h:c.due=-1
  .exact .inl h
  .right;cases hb:aC c.due 100001
   .exact absurd ⟨h,hb⟩ hd
   .rfl
 have hlen:c.sign.toNat<c.file.signs.length:=by simp[aC] at hs;omega
 have dX:0<=c.sign/\c.sign<(c.file.signs.length:Int):=by simpa [aC] using hs
 obtain⟨s,F4⟩:∃s:Sign,s=c.file.signs[c.sign.toNat]:=⟨_,rfl⟩
 have th:c.file.signs.getD c.sign.toNat default=s:=by rw[F4];simp[hlen]
 have hv:j4 r c=if aC s.day 100001=true then Rb r c s else[]:=by
  unfold j4;rw[th,hcb];simp
 rw[hv];unfold rB at hm;by_cases Fp:c.due=-1
 case' pos=>
  have acV:(c.due=-1)=True:=eq_true Fp;simp[xb,hh,hm,acV];refine⟨_,sd _ _,?_⟩;simp[hs,hh,hm,acV,hlen,<-F4,dX]
 case' neg=>
  have Fl:aC c.due 100001=true:=by
   cases hb:aC c.due 100001
   .exact absurd ⟨Fp,hb⟩ hd
   .rfl
  simp[xb,hh,hm,Fp];refine⟨_,sd _ _,?_⟩;simp[hs,hh,hm,Fp];refine⟨_,sd _ _,?_⟩;simp[hs,hh,hm,Fp,Fl,hlen,<-F4,dX]
 all_goals
  refine⟨_,sd _ _,?_⟩;cases uG:aC s.day 100001
  .simp[uG];rfl
  simp[uG,fl];refine ae6 (wU c s) D.int (λn=>⟨true,n⟩) (λ_=>fa) ?_ ?_ ?_ ?_ (λp hp g done=>?_) ?_
  .intro p q hp hq h;simp[wU] at hp hq;rcases hp with rfl|rfl|rfl|rfl|rfl|rfl|rfl<;>rcases hq with rfl|rfl|rfl|rfl|rfl|rfl|rfl<;>first|rfl|(simp at h)
  .intro p hp;simp[wU] at hp;rcases hp with rfl|rfl|rfl|rfl|rfl|rfl|rfl<;>simp
  .have RN:(if c.due=-1 then(0:Int) else i64.wrap (s.day-c.due))=Co s c.due:=by
        unfold Co;by_cases h:c.due=-1
        .simp[h]
        .have Fl:aC c.due 100001=true:=by
          cases hb:aC c.due 100001
          .exact absurd ⟨h,hb⟩ hd
          .rfl
         simp[aC] at Fl uG;rw[if_neg h,if_neg h];exact aQ (by omega)
   simp[wU,fl,hlen,<-F4];rw[<-RN];by_cases h:c.due=-1<;>simp[h]
  .simp[iU];rfl
  .have hr:0<=p.1/\p.1<20:=by
        simp[wU] at hp;rcases hp with rfl|rfl|rfl|rfl|rfl|rfl|rfl<;>simp
   have hk:p.1.toNat<20:=by omega
   simp[awr,V9,tw,Jd g hk];exact hr
  have aqJ:∀k (hk:k<c.file.alters.length),ah T 194 (q9 c.file.alters[k]::[.ref (fT c)]) (.bool (decide ((c.file.alters.getD k default).at_<=c.sign))):=λk hk=>by
   refine zyw 24 azC ?_;simp[YE,hk]
  simp;refine⟨_,ajZ c.file.alters _ _ _ aqJ (by omega),_,sc r _,_,sc r _,?_⟩;have RN:(if c.due=-1 then(0:Int) else i64.wrap (s.day-c.due))=Co s c.due:=by
   unfold Co;by_cases h:c.due=-1
   .simp[h]
   .have Fl:aC c.due 100001=true:=by
     cases hb:aC c.due 100001
     .exact absurd ⟨h,hb⟩ hd
     .rfl
    simp[aC] at Fl uG;rw[if_neg h,if_neg h];exact aQ (by omega)
  have RM:cells (Rb r c s)=iU (λi=>if i=15 then l0 c.file 0 c.sign else if i=16 then l0 c.file 1 c.sign else if i=17 then l0 c.file 2 c.sign else if i=18 then l0 c.file 3 (rB c) else if i=19 then l0 c.file 4 (rB c) else BA (wV r c s) iM (BA (wU c s) (λn=>⟨true,n⟩) (λ_=>fa)) i):=by
   rfl
  generalize BA (wU c s) (λn=>(⟨true,n⟩:Cell)) (λ_=>fa)=g1 at*;refine ae6 (wV r c s) D.bool iM g1 ?_ ?_ ?_ ?_ (λp hp g done=>?_) ?_
  .intro p q hp hq h;simp[wV] at hp hq;rcases hp with rfl|rfl|rfl|rfl|rfl|rfl|rfl|rfl<;>rcases hq with rfl|rfl|rfl|rfl|rfl|rfl|rfl|rfl<;>first|rfl|(simp at h)
  .intro p hp;simp[wV] at hp;rcases hp with rfl|rfl|rfl|rfl|rfl|rfl|rfl|rfl<;>simp
  .simp[wV,fl,hlen,<-F4,E2];rw[<-RN];by_cases h:c.due=-1<;>simp[h,aaJ]
  .simp
  .have hr:0<=p.1/\p.1<20:=by
        simp[wV] at hp;rcases hp with rfl|rfl|rfl|rfl|rfl|rfl|rfl|rfl<;>simp
   have hk:p.1.toNat<20:=by omega
   simp[aws,Wa,tw,Jd g hk];refine⟨_,aiL _,?_⟩;simp[Jd g hk];exact hr
  simp;generalize BA (wV r c s) iM g1=g2 at*;have hho:(if c.holder<0 then D.int 0 else D.int c.holder)=D.int (rB c):=by
   unfold rB;split<;>rfl
  rw[hho];refine⟨_,H7 _ _ _ (by omega),_,H7 _ _ _ (by omega),_,H7 _ _ _ (by omega),_,H7 _ _ _ (by omega),_,H7 _ _ _ (by omega),?_⟩;rw[RM];simp only[als,axp,alv,alu];refine abc λi hi=>?_;by_cases KW:i=15
  .subst KW;simp
  by_cases KX:i=16
  .subst KX;simp
  by_cases KY:i=17
  .subst KY;simp
  by_cases KZ:i=18
  .subst KZ;simp
  by_cases h19:i=19
  .subst h19;simp
  simp[KW,KX,KY,KZ,h19]
def ML (n:Nat)(x:Int):Bool:=decide (x<0)||decide ((n:Int)<=x)
def mL (r:Realm)(a q:Int)(l:List Int):Bool:=
 !(decide (a<0)||decide ((r.orders.length:Int)<=a)||decide (q<0)||decide (22<=q)||decide (l.length≠5))&& !((List.range l.length).any λk=>ML r.orders.length (l.getD k 0))
def anJ (x n:Int):ah T 198 [.int x,.ref (.int n)] (.bool (decide (x<0)||decide (n<=x))):=by
 refine zyw 36 ayn ?_;by_cases h:x<0<;>simp[Xv,h]
def ab2 (r:Realm)(a q:Int)(l:List Int)(hl:l.length<=100000):ah T 177 [aP r,.int a,.int q,ints l] (.bool (mL r a q l)):=by
 refine zyw 35 ayo ?_;by_cases h1:a<0
 .simp[w9,mL,h1]
 by_cases h2:(r.orders.length:Int)<=a
 .simp[w9,mL,h1,h2]
 by_cases h3:q<0
 .simp[w9,mL,h1,h2,h3]
 by_cases h4:22<=q
 .simp[w9,mL,h1,h2,h3,h4]
 by_cases h5:(l.length:Int)=5
 .have K1:l.length=5:=by omega
  simp[w9,h1,h2,h3,h4,K1];refine⟨_,aj1 l 198 [.ref (.int r.orders.length)] (λk=>ML r.orders.length (l.getD k 0)) (λk hk=>by simpa [ML,hk] using anJ l[k] r.orders.length) (by omega),?_⟩;simp only[mL,K1];simp[h1,h2,h3,h4]
 .have K1:¬l.length=5:=by omega
  simp[w9,mL,h1,h2,h3,h4,K1];intro h;omega
def QX {r:Realm}{a q:Int}{l:List Int}(h:mL r a q l=true):(0<=a/\a<r.orders.length)/\l.length=5/\(∀x,x∈l->0<=x/\x<r.orders.length)/\∀b:Int,0<=b->b<r.orders.length->mL r b q l=true:=by
 unfold mL at h ⊢;rw[ao] at h;obtain⟨h1,h2⟩:=h;simp at h1;refine⟨by omega,h1.2,λx hx=>?_,λb gp de=>?_⟩
 .obtain⟨k,hk,rfl⟩:=fu hx;simp[ML] at h2;have:=h2 k hk;simp[hk] at this;omega
 .rw[h2];simp;omega
def DB (r:Realm):Prop:=∀o,o∈r.orders->o.choices.length<=100000/\∀ch,ch∈o.choices->0<=ch.by_/\ch.by_<5
def y1 (q:Int)(ch:Choice):Bool:=decide (ch.ask=q)&&decide (ch.by_≠0)
def na (r:Realm)(a:Int):Order:=r.orders.getD a.toNat default
def gB (r:Realm)(a q:Int)(l:List Int):Int×Bool:=
 (match(na r a).choices.find? (y1 q) with|some ch=>l.getD ch.by_.toNat 0|none=>a,match(na r a).choices.find? (y1 q) with|some ch=>ch.whole|none=>false)
def aac (r:Realm)(rp:DB r)(a q:Int)(l:List Int)(hl:l.length<=100000)(hf:mL r a q l=true):
 ah T 178 [aP r,.int a,.int q,ints l] (.tup [.int (gB r a q l).1,.bool (gB r a q l).2])/\0<=(gB r a q l).1/\(gB r a q l).1<r.orders.length:=by
 obtain⟨ha,hl5,hx,_⟩:=QX hf;have BQ:a.toNat<r.orders.length:=by omega
 obtain⟨aX,kQ⟩:=rp _ (bV BQ);obtain⟨o,ho⟩:∃o,o=r.orders[a.toNat]:=⟨_,rfl⟩
 rw[<-ho] at aX kQ;have Sd:na r a=o:=by rw[ho];simp[na,BQ]
 unfold gB;rw[Sd];refine⟨?_,?_⟩
 .refine zyw 39 aym ?_;simp[Xu];refine⟨_,ab2 r a q l hl,?_⟩;simp[hf,BQ,<-ho,ha];refine aL.scan o.choices.length (λk=>y1 q (o.choices.getD k default)=false) (λk=>[.int 0,.bool false,.int k]) (λ_=>[]) ?_ (λk hk hj ar=>?_) (λk hk hj ar=>?_) (λhj=>?_)
  .simp
  .have hw:=bt hk (by omega);have hn:¬(o.choices[k].ask=q/\¬o.choices[k].by_=0):=by simpa [y1,hk] using ar
   simp[VA,Hd,BQ,<-ho,hk,hw,hn]
  .have ly:=BB hk (by simpa [hk] using ar) (λj bB=>by have:=hj j bB;simpa [show j<o.choices.length by omega] using this);rw[ly];have hc:o.choices[k].ask=q/\¬o.choices[k].by_=0:=by simpa [y1,hk] using ar
   have hb:=kQ _ (bV hk);have Fi:o.choices[k].by_.toNat<l.length:=by omega
   simp[VA,Hd,BQ,<-ho,hk,hc,ints,Fi];omega
  .have ly:=EY (l:=o.choices) (p:=y1 q) (λj bB=>by have:=hj j bB;simpa [bB] using this);rw[ly];simp[VA,Hd,BQ,<-ho]
 .cases ly:o.choices.find? (y1 q) with
  |none=>exact ha
  |some ch=>
   have hb:=kQ _ (DL ly);have Fi:ch.by_.toNat<l.length:=by omega
   simp[Fi];exact hx _ (bV Fi)
def UO:∀(N:Nat) (l:List Int),l.Nodup->(∀x,x∈l->0<=x/\x<(N:Int))->l.length<=N
 |0,l,hn,h=>by
  cases l with
  |nil=>simp
  |cons a l=>have:=h a (by simp);omega
 |N+1,l,hn,h=>by
  by_cases hm:(N:Int)∈l
  .have h1:=UO N (l.erase (N:Int)) (hn.erase _) (λx hx=>by
    have db:=(hn.mem_erase_iff).mp hx;have:=h x db.2;have au:=db.1;omega)
   rw[List.length_erase_of_mem hm] at h1;omega
  .have h1:=UO N l hn (λx hx=>by
    have:=h x hx;have au:x≠(N:Int):=λe=>hm (e▸hx);omega)
   omega
def dw (l:List Int):Int:=l.getD (l.length-1) 0
def lN (r:Realm)(q:Int)(l:List Int):Nat->List Int->List Int×Int
 |0,p=>(p,0)
 |n+1,p=>
  if(gB r (dw p) q l).1=dw p then(p,0)
  else if(gB r (dw p) q l).2=false\/(hasB p (gB r (dw p) q l).1=true/\(na r (gB r (dw p) q l).1).accepts=true) then(p++[(gB r (dw p) q l).1],0)
  else if hasB p (gB r (dw p) q l).1=true then(p++[(gB r (dw p) q l).1],12)
  else lN r q l n (p++[(gB r (dw p) q l).1])
def Te (r:Realm)(q:Int)(l:List Int)(n:Nat)(p:List Int):lN r q l (n+1) p=
 if(gB r (dw p) q l).1=dw p then(p,0)
 else if(gB r (dw p) q l).2=false\/(hasB p (gB r (dw p) q l).1=true/\(na r (gB r (dw p) q l).1).accepts=true) then(p++[(gB r (dw p) q l).1],0)
 else if hasB p (gB r (dw p) q l).1=true then(p++[(gB r (dw p) q l).1],12)
 else lN r q l n (p++[(gB r (dw p) q l).1]):=rfl
def jd (r:Realm)(a q:Int)(l:List Int):List Int×Int:=if mL r a q l=true/\l.getD 0 0=a then lN r q l r.orders.length [a] else([],1)
def akf (r:Realm)(rp:DB r)(hn:r.orders.length<=100000)(a q:Int)(l:List Int)(hl:l.length<=100000):ah T 159 [aP r,.int a,.int q,ints l] (.tup [ints (jd r a q l).1,.int (jd r a q l).2]):=by
 refine zyw 34 ayl ?_;simp[Xt];refine⟨_,ab2 r a q l hl,?_⟩;cases hf:mL r a q l
 .simp[jd,hf];rfl
 obtain⟨ha,hl5,hx,yo⟩:=QX hf;have h0:0<l.length:=by omega
 by_cases yA:l[0]=a
 .have hE:jd r a q l=lN r q l r.orders.length [a]:=by unfold jd;rw[if_pos ⟨hf,by simp[h0,yA]⟩]
  rw[hE];simp[h0,yA,ints];refine aL.forLoop (α:=Nat×List Int) (λs vr vo=>vr=[.list [],.int 0,.none]/\vo=[ints s.2]/\s.2.Nodup/\(∀x,x∈s.2->0<=x/\x<(r.orders.length:Int))/\s.2≠[]/\s.1+s.2.length=r.orders.length+1/\lN r q l s.1 s.2=lN r q l r.orders.length [a]) (λs=>s.1) (r.orders.length,[a]) ?_ ?_
  .simp[ints];exact ha
  .rintro⟨n,p⟩ vr vo ⟨rfl,rfl,bn,bO,au,hlen,FE⟩;simp only at*;have fK:p.length<=r.orders.length:=UO _ p bn bO;have FW:0<p.length:=DK.mpr au;obtain⟨m,rfl⟩:∃m,n=m+1:=⟨n-1,by omega⟩
   have af:p.length-1<p.length:=by omega
   have lF:dw p=p[p.length-1]:=by simp[dw,af]
   have yB:=bO _ (bV af);rw[<-lF] at yB;obtain⟨Ro,gy,gz⟩:=aac r rp (dw p) q l hl (yo _ yB.1 yB.2);have RW:((p.length:Int)-1).toNat=p.length-1:=by omega
   have SR:i64.wrap ((p.length:Int)-1)=(p.length:Int)-1:=aQ (by omega);rw[<-FE,Te];obtain⟨L,hL⟩:∃L,L=gB r (dw p) q l:=⟨_,rfl⟩
   rw[<-hL] at Ro gy gz ⊢;obtain⟨to,whole⟩:=L;simp only at Ro gy gz;have yP:to.toNat<r.orders.length:=by omega
   have Sd:na r to=r.orders[to.toNat]:=by simp[na,yP]
   simp only[Sd];simp[awp,Vz,SR,RW,af,<-lF,ints];refine⟨by omega,_,Ro,?_⟩;by_cases h1:to=dw p
   .simp[h1]
   simp[h1];refine⟨_,xq p to (by omega),by omega,?_⟩;cases whole
   .simp
   cases h2:hasB p to
   .have cS:to∉p:=λhm=>by
     have:hasB p to=true:=by simp[hasB,hm]
     rw[h2] at this;cases this
    simp[h2];refine⟨m,by omega,p++[to],by simp,?_,?_,by simp,by simp;omega,rfl⟩
    .exact IN.mpr ⟨bn,by simp,λx hx y hy=>by simp at hy;subst hy;exact λe=>cS (e▸hx)⟩
    .intro x hx;rcases dR.mp hx with h|h
     .exact bO x h
     .simp at h;subst h;exact⟨gy,gz⟩
   .cases h3:r.orders[to.toNat].accepts<;>simp[h2,h3,yP]<;>omega
 .have hE:jd r a q l=([],1):=by unfold jd;rw[if_neg (by simp[h0,yA])]
  rw[hE];simp[h0,yA];rfl
def ff (f:File)(i:Int):Sign:=f.signs.getD i.toNat default
def kX (r:Realm)(forum:Int)(c:Case):List Int:=[forum,gC r (ff c.file c.sign).city,gC r c.file.bill.pay,gC r c.file.bill.city,gC r (r.firms.getD (ff c.file c.sign).who.toNat default).city]
def nJ (r:Realm)(forum:Int)(c:Case):Prop:=(ff c.file c.sign).who<0\/(r.firms.length:Int)<=(ff c.file c.sign).who\/forum<0\/(r.orders.length:Int)<=forum
instance (r:Realm) (forum:Int) (c:Case):Decidable (nJ r forum c):=by unfold nJ;infer_instance
def jC (r:Realm)(forum:Int)(c:Case):List Int:=if nJ r forum c then[] else if hasB (kX r forum c) (-1)=true then[] else kX r forum c
@[simp] def aDX (r:Realm)(x:Int):Ao (aP r) x=gC r x:=by
  unfold Ao gC aC;by_cases h:0<=x/\x<(r.cities.length:Int)
  .have hx:x.toNat<r.cities.length:=by omega
   rw[if_pos (by simpa using h),if_pos (by simpa using h)];simp[hx]
  .rw[if_neg (by simpa using h),if_neg (by simpa using h)]
def ahu (r:Realm)(forum:Int)(c:Case)(h1:c.sign.toNat<c.file.signs.length):UP [aP r,.int forum,fT c]=ints (jC r forum c):=by
 have hs:ff c.file c.sign=c.file.signs[c.sign.toNat]:=by simp[ff,h1]
 unfold UP jC;simp[h1];by_cases hb:nJ r forum c
 .rw[if_pos (by simpa [nJ,hs] using hb),if_pos hb];rfl
 .rw[if_neg (by simpa [nJ,hs] using hb),if_neg hb];have LP:(ff c.file c.sign).who.toNat<r.firms.length:=by unfold nJ at hb;omega
  have ad6:c.file.signs[c.sign.toNat].who.toNat<r.firms.length:=by rw[<-hs];exact LP
  have kR:kX r forum c=[forum,gC r c.file.signs[c.sign.toNat].city,gC r c.file.bill.pay,gC r c.file.bill.city,gC r r.firms[c.file.signs[c.sign.toNat].who.toNat].city]:=by
   simp[kX,hs,ad6]
  have cW:∀l:List Int,hasB l (-1)=true↔-1∈l:=λl=>by simp[hasB]
  rw[kR];simp[ad6];split
  .rename_i h;rw[if_pos ((cW _).mpr (by simpa using h))];rfl
  .rename_i h;rw[if_neg (λh'=>h (by simpa using(cW _).mp h'))]
def avs (r:Realm)(forum:Int)(c:Case)(h1:0<=c.sign/\c.sign<c.file.signs.length):ah T 158 [aP r,.int forum,fT c] (ints (jC r forum c)):=by
 have cA:c.sign.toNat<c.file.signs.length:=by omega
 rw[<-ahu r forum c cA];have hs:ff c.file c.sign=c.file.signs[c.sign.toNat]:=by simp[ff,cA]
 refine ah.of_nsl rfl axZ ax0 ?_;rw[ahu r forum c cA];by_cases hb:nJ r forum c
 .refine .inr ⟨by simp[jC,hb];rfl,?_⟩;have fF:=hb;simp[nJ,hs] at fF;simp[Ot,h1,cA]
  intros;omega
 have sQ:jC r forum c=if hasB (kX r forum c) (-1)=true then[] else kX r forum c:=by unfold jC;rw[if_neg hb]
 have fF:=hb;simp[nJ,hs] at fF;have hw:c.file.signs[c.sign.toNat].who.toNat<r.firms.length:=by omega
 have hC:=xq (kX r forum c) (-1) (by simp[kX]);cases hh:hasB (kX r forum c) (-1)<;>rw[hh] at hC<;>simp[kX,ints,hs,hw] at hC
 .refine .inl ⟨(kX r forum c).map .int,by simp[kX],by rw[sQ,hh];rfl,?_⟩;simp[Xa,h1,cA,hw];rw[if_neg (by omega)];refine⟨_,sc r _,_,sc r _,_,sc r _,by omega,_,sc r _,_,by simpa using hC,?_⟩;simp[kX,hs,hw]
 .refine .inr ⟨by rw[sQ,hh];rfl,?_⟩;simp[Ot,h1,cA,hw]
  intros
  refine⟨_,sc r _,_,sc r _,_,sc r _,by omega,_,sc r _,_,by simpa using hC,?_⟩;simp
structure Right (r:Realm):Prop where
 by_:DB r
 len:r.orders.length<=100000
 ok:∀o,o∈r.orders->o.OK/\o.rules.length<=100000
structure FewS (f:File):Prop where
 signs:f.signs.length<=1000
 alters:f.alters.length<=1000
 acts:f.acts.length<=1000
 facts:f.facts.length<=1000
def ajC {α:Type}(p:α->Bool)(l:List α):(l.takeWhile p).length<=l.length:=by
 obtain⟨m,h1,h2,_⟩:=OF p l;rw[h2,dQ];omega
def FewS.at_ {f:File}(h:FewS f)(day:Int):FewS (cr f day):=
 ⟨gk (ajC _ _) h.1,gk (pg _ _) h.2,gk (ajC _ _) h.3,gk (pg _ _) h.4⟩
def jA (c:Case):Case:={c with file:=cr c.file c.day}
@[simp] def aDO (x:File)(a0 a1 a2 a3 a4 a5 a6 a7 a8 a9 qJ qK a12 qL qM uc ud a17 uf:D)(s h d u y:Int):kh 24 (D.agg (dO [a0,a1,a2,a3,a4,a5,a6,a7,a8,a9,qJ,qK,a12,qL,qM,uc,ud,a17,uf,.int s,.int h,.int d,.int u,.int y] 0 [.int x.bill.drawer,.int x.bill.drawee,.int x.bill.payee,.int x.bill.sum,.int x.bill.currency,.int x.bill.tenor.kind,.int x.bill.tenor.n,.int x.bill.tenor.unit,.int x.bill.day,.int x.bill.city,.int x.bill.pay,.int x.bill.need,.int x.bill.rate,.int x.bill.flags,.int x.bill.parts,signs x.signs,alters x.alters,acts x.acts,facts x.facts]))=fT ⟨x,s,h,d,u,y⟩:=zyz
def akN (r:Realm)(c:Case)(hf:FewS c.file):ah T 156 [aP r,fT c] (.tup [fT (jA c),cells (j4 r (jA c))]):=by
 refine zyw 22 axY ?_;simp[W9];have h1:=hf.1;have h2:=hf.2;have h3:=hf.3;have h4:=hf.4;refine⟨_,Wn c.file c.day (by omega) (by omega) (by omega) (by omega),?_⟩;have Ln:=hf.at_ c.day;have h5:=Ln.4;have h6:=Ln.2;simp;exact⟨awD r (jA c) (by show(cr c.file c.day).facts.length<=_;omega) (by show(cr c.file c.day).alters.length<=_;omega),(congrArg (kh 24) (au5 (jA c) _ _ _ _ _ _ _ _ _ _ _ _ _ _ _ _ _ _ _ _ _ _ _ _)).trans (akF (jA c))⟩
def aAv {r:Realm}{c:Case}(h:j4 r c≠[]):0<=c.sign/\c.sign<c.file.signs.length:=by
 unfold j4 at h;split at h
 .rename_i hh;have h1:=hh.1;unfold vA at h1;simp[aC] at h1;omega
 .exact absurd rfl h
def aeJ (r:Realm)(rp:DB r)(q:Int)(l:List Int)(hl:l.length<=100000)(yo:∀b:Int,0<=b->b<r.orders.length->mL r b q l=true):∀(n:Nat) (p:List Int),p≠[]->(∀x,x∈p->0<=x/\x<(r.orders.length:Int))->
 (lN r q l n p).1≠[]/\∀x,x∈(lN r q l n p).1->0<=x/\x<(r.orders.length:Int)
 |0,p,au,hp=>⟨au,hp⟩
 |n+1,p,au,hp=>by
  have af:p.length-1<p.length:=by have:=DK.mpr au;omega
  have lF:dw p=p[p.length-1]:=by simp[dw,af]
  have yB:=hp _ (bV af);rw[<-lF] at yB;obtain⟨_,ht⟩:=aac r rp (dw p) q l hl (yo _ yB.1 yB.2)
  have aT:∀x,x∈p++[(gB r (dw p) q l).1]->0<=x/\x<(r.orders.length:Int):=λx hx=>by
   rcases dR.mp hx with h|h
   .exact hp x h
   .simp at h;subst h;exact ht
  rw[Te];split
  .exact⟨au,hp⟩
  split
  .exact⟨by simp,aT⟩
  split
  .exact⟨by simp,aT⟩
  .exact aeJ r rp q l hl yo n _ (by simp) aT
def aeI {r:Realm}(hr:Right r){a q:Int}{l:List Int}(hl:l.length<=100000)(h:(jd r a q l).2=0):(jd r a q l).1≠[]/\0<=dw (jd r a q l).1/\dw (jd r a q l).1<r.orders.length:=by
 unfold jd at h ⊢;split at h
 .rename_i hh;rw[if_pos hh];obtain⟨ha,hl5,hx,yo⟩:=QX hh.1;obtain⟨h1,h2⟩:=aeJ r hr.by_ q l hl yo r.orders.length [a] (by simp) (λx hx=>by simp at hx;subst hx;exact ha);refine⟨h1,?_⟩;have af:(lN r q l r.orders.length [a]).1.length-1<(lN r q l r.orders.length [a]).1.length:=by have:=DK.mpr h1;omega
  have lF:dw (lN r q l r.orders.length [a]).1=(lN r q l r.orders.length [a]).1[(lN r q l r.orders.length [a]).1.length-1]:=by simp[dw,af]
  rw[lF];exact h2 _ (bV af)
 .cases h
def aeK (r:Realm)(q:Int)(l:List Int):∀(n:Nat) (p:List Int),(lN r q l n p).1.length<=p.length+n
 |0,p=>by simp[lN]
 |n+1,p=>by
  rw[Te];split
  .simp
  split
  .simp
  split
  .simp
  .have:=aeK r q l n (p++[(gB r (dw p) q l).1]);simp at this;omega
def asA (r:Realm)(a q:Int)(l:List Int):(jd r a q l).1.length<=1+r.orders.length:=by
 unfold jd;split
 .exact aeK r q l _ [a]
 .simp
@[simp] def aHZ (a b c d e x:D):dO [a,b,c,d,e] 2 [x]=[a,b,x,d,e]:=zyz
@[simp] def aH0 (a b c d e x:D):dO [a,b,c,d,e] 3 [x]=[a,b,c,x,e]:=zyz
@[simp] def aH1 (a b c d e x:D):dO [a,b,c,d,e] 4 [x]=[a,b,c,d,x]:=zyz
def TA:Said:=⟨fa,-1,[],1⟩
def jo (r:Realm)(forum q:Int)(c:Case):Said×List Cell:=
 if j4 r (jA c)=[] then(TA,[]) else if(sr q).2=false then(TA,[]) else if jC r forum (jA c)=[] then(TA,[]) else
    (⟨fa,if(jd r forum q (jC r forum (jA c))).2=0 then dw (jd r forum q (jC r forum (jA c))).1 else-1,(jd r forum q (jC r forum (jA c))).1,(jd r forum q (jC r forum (jA c))).2⟩,j4 r (jA c))
def ahv (r:Realm)(forum:Int)(c:Case):(jC r forum c).length<=5:=by
 unfold jC;split
 .simp
 split<;>simp[kX]
def akM (r:Realm)(hr:Right r)(forum q:Int)(c:Case)(hf:FewS c.file):ah T 109 [aP r,.int forum,.int q,fT c] (.tup [rh (jo r forum q c).1,cells (jo r forum q c).2]):=by
 refine zyw 21 axX ?_;simp[W8];refine⟨_,akN r c hf,?_⟩;by_cases hv:j4 r (jA c)=[]
 .simp[hv,jo];exact⟨rfl,rfl⟩
 simp[hv,jo];refine⟨_,UI q,?_⟩;cases hq:(sr q).2
 .simp[hq];exact⟨rfl,rfl⟩
 simp[hq];refine⟨_,avs r forum (jA c) (aAv hv),?_⟩;by_cases hp:jC r forum (jA c)=[]
 .simp[hp];exact⟨rfl,rfl⟩
 have fK:=ahv r forum (jA c);have au:ints (jC r forum (jA c))≠.list []:=λe=>hp (by simpa [ints] using e);simp[hp];generalize jC r forum (jA c)=l at*;refine⟨_,akf r hr.by_ hr.len forum q l (by omega),?_⟩;have hlen:=asA r forum q l;have FE:=aeI hr (a:=forum) (q:=q) (l:=l) (by omega);have Si:=hr.len;generalize jd r forum q l=L at*;obtain⟨path,err⟩:=L;simp only at*;by_cases he:err=0
 .obtain⟨h1,h2⟩:=FE he;have FW:=DK.mpr h1;have SR:i64.wrap ((path.length:Int)-1)=(path.length:Int)-1:=aQ (by omega);have RW:((path.length:Int)-1).toNat=path.length-1:=by omega
  have af:path.length-1<path.length:=by omega
  have lF:dw path=path[path.length-1]:=by simp[dw,af]
  simp[he,SR,RW,af,<-lF];exact⟨by omega,rfl⟩
 .simp[he];rfl
def vz (r:Realm)(forum q:Int)(c:Case):Said:=
 if(jo r forum q c).1.order=-1 then(jo r forum q c).1
 else⟨(Al (na r (jo r forum q c).1.order) q (jo r forum q c).2).1,(jo r forum q c).1.order,(jo r forum q c).1.path,(Al (na r (jo r forum q c).1.order) q (jo r forum q c).2).2⟩
def akK {r:Realm}(hr:Right r)(forum q:Int)(c:Case):(jo r forum q c).1.order=-1\/(0<=(jo r forum q c).1.order/\(jo r forum q c).1.order<r.orders.length):=by
 unfold jo;split
 .exact .inl rfl
 split
 .exact .inl rfl
 split
 .exact .inl rfl
 .have fK:=ahv r forum (jA c);have FE:=aeI hr (a:=forum) (q:=q) (l:=jC r forum (jA c)) (by omega);show(if _ then _ else _)=_\/_;split
  .rename_i h;exact .inr (FE h).2
  .exact .inl rfl
def aaL (r:Realm)(hr:Right r)(forum q:Int)(c:Case)(hf:FewS c.file):ah T 71 [aP r,.int forum,.int q,fT c] (rh (vz r forum q c)):=by
 refine zyw 20 axS ?_;simp[W3];refine⟨_,akM r hr forum q c hf,?_⟩;have ho:=akK hr forum q c;unfold vz;generalize jo r forum q c=S at*;obtain⟨s,cs⟩:=S;simp only at*;by_cases h:s.order=-1
 .obtain⟨⟨kn,n⟩,o,pth,e⟩:=s;simp only at h;subst h;simp;rfl
 .have h1:0<=s.order/\s.order<r.orders.length:=by omega
  have h2:s.order.toNat<r.orders.length:=by omega
  have h3:na r s.order=r.orders[s.order.toNat]:=by simp[na,h2]
  obtain⟨ar,hlen⟩:=hr.ok _ (bV h2);simp[h,h1,h2,h3];refine⟨_,au0 _ q cs ar (by omega),?_⟩;simp;rfl
def ls (r:Realm)(forum q:Int)(f:File)(day:Int):Said:=vz r forum q ⟨{f with facts:=[]},0,-1,-1,-1,day⟩
def aaM (r:Realm)(hr:Right r)(forum q:Int)(f:File)(day:Int)(hf:FewS f):ah T 36 [aP r,.int forum,.int q,ct f,.int day] (rh (ls r forum q f day)):=by
 refine zyw 19 axT ?_;simp[W4];refine⟨rh (ls r forum q f day),aaL r hr forum q ⟨{f with facts:=[]},0,-1,-1,-1,day⟩ ⟨hf.1,hf.2,hf.3,by simp⟩,?_⟩;simp
 try rfl
def Iu (s:Said):Int:=if s.err≠0 then 0 else if s.cell.known=false then 2 else if s.cell.n≠0 then 1 else 0
def aaN (s:Said):ah T 65 [rh s] (.int (Iu s)):=by
 refine zyw 60 axW ?_;unfold Iu;by_cases h1:s.err=0<;>cases h2:s.cell.known<;>by_cases h3:s.cell.n=0<;>simp[W7,h1,h2,h3]
def qe (s:Said):Int:=if s.err≠0\/s.cell.known=false then-1 else s.cell.n
def akL (s:Said):ah T 35 [rh s] (.int (qe s)):=by
 refine zyw 62 axV ?_;unfold qe;by_cases h1:s.err=0<;>cases h2:s.cell.known<;>simp[W6,h1,h2]
def lV (day:Int)(l:List Act)(es:List (D×D)):List (D×D):=l.foldl (λes a=>if a.kind=7/\a.day<=day then fl (.int a.at_) (.bool true) es else es) es
def axr (day:Int)(l:List Act){k:Nat}(hk:k<l.length):lV day (l.take (k+1)) []=if l[k].kind=7/\l[k].day<=day then fl (.int l[k].at_) (.bool true) (lV day (l.take k) []) else lV day (l.take k) []:=by
 unfold lV;rw[iQ hk,tY];rfl
def ahB (k v:D):∀es:List (D×D),(fl k v es).length<=es.length+1
 |[]=>by simp[fl]
 |e::es=>by
  unfold fl;split
  .simp
  .have:=ahB k v es;simp;omega
def ajk (day:Int):∀(l:List Act) (es:List (D×D)),(lV day l es).length<=es.length+l.length
 |[],es=>by simp[lV]
 |a::l,es=>by
  have h:=ajk day l (if a.kind=7/\a.day<=day then fl (.int a.at_) (.bool true) es else es);have hp:=ahB (.int a.at_) (.bool true) es;show(lV day l (if a.kind=7/\a.day<=day then fl (.int a.at_) (.bool true) es else es)).length<=_;split at h
  .rename_i hc;rw[if_pos hc];simp;omega
  .rename_i hc;rw[if_neg hc];simp;omega
def axP (f:File)(day:Int)(hl:f.acts.length<=100000):ah T 107 [ct f,.int day] (.map (lV day f.acts [])):=by
 refine zyw 101 aAc ?_;simp[Zo];refine aL.forRounds f.acts.length (λk=>[.int k]) (λk=>[.map (lV day (f.acts.take k) [])]) ?_ (λk hk=>?_) ?_
 .simp[lV]
 .have hw:=bt hk (by omega);have hs:=axr day f.acts hk;have hlen:=ajk day (f.acts.take k) [];rw[hs];simp at hlen;generalize lV day (f.acts.take k) []=es at*;by_cases hc:f.acts[k].kind=7/\f.acts[k].day<=day
  .simp[Wl,H4,hk,hw,hc];omega
  .simp[Wl,H4,hk,hw,hc]
 .simp[Wl,H4]
def ahC {k v:D}:∀{es:List (D×D)} {e:D×D},e∈fl k v es->e.2=v\/e∈es
 |[],e,h=>by simp[fl] at h;exact .inl (by rw[h])
 |x::es,e,h=>by
  unfold fl at h;split at h
  .rcases cB.mp h with rfl|h
   .exact .inl rfl
   .exact .inr (by simp[h])
  .rcases cB.mp h with rfl|h
   .exact .inr (by simp)
   .rcases ahC h with h|h
    .exact .inl h
    .exact .inr (by simp[h])
def ajl (day:Int):∀(l:List Act) (es:List (D×D)),(∀e,e∈es->e.2=.bool true)->∀e,e∈lV day l es->e.2=.bool true
 |[],es,h,e,he=>h e he
 |a::l,es,h,e,he=>by
  refine ajl day l (if a.kind=7/\a.day<=day then fl (.int a.at_) (.bool true) es else es) (λx hx=>?_) e he;split at hx
  .rcases ahC hx with h'|h'
   .exact h'
   .exact h x h'
  .exact h x hx
def aeT {k d:D}:∀{es:List (D×D)},je k es=some d->∃e,e∈es/\e.2=d
 |x::es,h=>by
  unfold je at h;split at h
  .exact⟨x,by simp,by simpa using h⟩
  .obtain⟨e,h1,h2⟩:=aeT h;exact⟨e,by simp[h1],h2⟩
def axq (day:Int)(l:List Act)(k:D):(je k (lV day l [])).getD (.bool false)=.bool ((je k (lV day l [])).getD (.bool false)).b:=by
 cases h:je k (lV day l []) with
 |none=>rfl
 |some d=>
  obtain⟨e,h1,h2⟩:=aeT h;have:=ajl day l [] (λe h=>by cases h) e h1;rw[h2] at this;rw[this];rfl
def Of (f:File)(sign day:Int):Bool:=aC sign f.signs.length&&((je (.int sign) (lV day f.acts [])).getD (.bool false)).b
def axO (f:File)(sign day:Int)(hl:f.acts.length<=100000):ah T 66 [ct f,.int sign,.int day] (.bool (Of f sign day)):=by
 refine zyw 100 aAb ?_;by_cases h1:0<=sign<;>by_cases h2:sign<f.signs.length<;>simp[Zn,h1,h2,Of,aC];refine⟨_,axP f day hl,?_⟩;exact axq day f.acts (.int sign)
def oU (f:File)(sign:Int)(n:Nat):Int:=(f.alters.take n).foldl (λs a=>if a.at_<=sign then a.sum else s) f.bill.sum
def avd (f:File)(sign:Int)(hl:f.alters.length<=100000):ah T 108 [ct f,.int sign] (.int (oU f sign f.alters.length)):=by
 refine zyw 105 ayD ?_;simp[XK];refine aL.forRounds f.alters.length (λk=>[.int (oU f sign k),.int k]) (λk=>[]) ?_ (λk hk=>?_) ?_
 .simp[oU]
 .have hw:=bt hk (by omega);have hs:oU f sign (k+1)=if f.alters[k].at_<=sign then f.alters[k].sum else oU f sign k:=by
   unfold oU;rw[iQ hk,tY];rfl
  rw[hs];generalize oU f sign k=s at*;by_cases hc:f.alters[k].at_<=sign<;>simp[ais,Ny,hk,hw,hc]
 .simp[ais,Ny]
def Cl (r:Realm)(c:Int):ah T 73 [aP r,.int c] (.bool (aC c r.cities.length)):=by
 refine zyw 82 azU ?_;by_cases h1:0<=c<;>by_cases h2:c<r.cities.length<;>simp[YX,h1,h2,aC]
def eD (n:Int):Bool:=decide (0<=n)&&decide (n<=100000)
def wk (n:Int):ah T 74 [.int n] (.bool (eD n)):=by
 refine zyw 83 azV ?_;by_cases h1:0<=n<;>by_cases h2:n<=100000<;>simp[YY,h1,h2,eD]
def Iy (n:Int):ah T 165 [.int n] (.bool (eD n)):=by
 refine zyw 88 ayh ?_;by_cases h1:0<=n<;>by_cases h2:n<=100000<;>simp[Xp,h1,h2,eD]
def Di (t:Tenor):Bool:=decide (t.kind=0)||decide (t.kind=1)
def DS (t:Tenor):ah T 75 [pE t] (.bool (Di t)):=by
 refine zyw 84 azT ?_;by_cases h1:t.kind=0<;>simp[YW,h1,Di]
def afy (y m d:Int):∃n:Int,ah T 205 [.int y,.int m,.int d] (.int n):=by
 by_cases h:m<3
 .refine⟨?w,?h⟩
  case h=>
   refine ah.of_tree (d:=.int ?w) rfl aaR ajw ?_;simp[Oy,h];exact rfl
 .refine⟨?v,?g⟩
  case g=>
   refine ah.of_tree (d:=.int ?v) rfl aaR ajw ?_;simp[Oy,h];exact rfl
def Gz (y m d:Int):Int:=(afy y m d).choose
def Mp (y m d:Int):ah T 205 [.int y,.int m,.int d] (.int (Gz y m d)):=(afy y m d).choose_spec
def Cp (y m:Int):Int:=if m=12 then 31 else i64.wrap (Gz y (i64.wrap (m+1)) 1-Gz y m 1)
def L8 (y m:Int):ah T 187 [.int y,.int m] (.int (Cp y m)):=by
 refine zyw 90 ayf ?_;unfold Cp;by_cases h:m=12
 .simp[Ox,h]
 .simp[Ox,h];refine⟨_,Mp _ _ _,_,Mp _ _ _,?_⟩;simp
def aj3 (y m d:Int):∃n e:Int,ah T 186 [.int y,.int m,.int d] (.tup [.int n,.int e])/\(e=0->0<=n/\n<=100000):=by
 by_cases h0:(((2000<=y/\y<=2300)/\1<=m)/\m<=12)/\1<=d
 .by_cases h2:d<=Cp y m
  .cases h1:eD (Gz y m d)
   .refine⟨0,3,.of_tree rfl I6 Ow ?_,by simp⟩;simp[Dq];rw[if_pos h0];refine⟨_,L8 y m,?_⟩;simp[h0,h2];refine⟨_,Mp _ _ _,_,Iy _,?_⟩;simp[h1]
   .refine⟨Gz y m d,0,.of_tree rfl I6 Ow ?_,λ_=>by simpa [eD] using h1⟩;simp[Dq];rw[if_pos h0];exact⟨_,L8 y m,⟨h0,h2⟩,_,Mp _ _ _,_,Iy _,h1,rfl⟩
  .refine⟨0,3,.of_tree rfl I6 Ow ?_,by simp⟩;simp[Dq];rw[if_pos h0];refine⟨_,L8 y m,?_⟩;simp[h0,h2]
 .refine⟨0,3,.of_tree rfl I6 Ow ?_,by simp⟩;simp[Dq];rw[if_neg h0];intro a1 a2 a3 a4 a5;exact absurd ⟨⟨⟨⟨a1,a2⟩,a3⟩,a4⟩,a5⟩ h0
def aaB (r:Realm)(fr to:Int)(hl:r.usances.length<=100000):∃n e:Int,ah T 89 [aP r,.int fr,.int to] (.tup [.int n,.int e])/\(e=0->∃u,u∈r.usances/\n=u.days)/\(e=0↔∃u,u∈r.usances/\u.fr=fr/\u.to=to):=by
 let p:Usance->Bool:=λu=>decide (u.fr=fr)&&decide (u.to=to)
 refine⟨match r.usances.find? p with|some u=>u.days|none=>0,match r.usances.find? p with|some u=>0|none=>4,?_,?_⟩
 .refine .of_tree rfl aaT ajy ?_;simp[OB];refine aL.scan r.usances.length (λk=>p (r.usances.getD k default)=false) (λk=>[.int 0,.int 0,.int k]) (λ_=>[]) ?_ (λk hk hj ar=>?_) (λk hk hj ar=>?_) (λhj=>?_)
  .simp
  .have hw:=bt hk (by omega);have hn:¬(r.usances[k].fr=fr/\r.usances[k].to=to):=by simpa [p,hk] using ar
   simp[C5,wP,hk,hw,hn]
  .have ly:=BB hk (by simpa [hk] using ar) (λj bB=>by have:=hj j bB;simpa [show j<r.usances.length by omega] using this);have hc:r.usances[k].fr=fr/\r.usances[k].to=to:=by simpa [p,hk] using ar
   rw[ly];simp[C5,wP,hk,hc]
  .have ly:=EY (l:=r.usances) (p:=p) (λj bB=>by have:=hj j bB;simpa [bB] using this);rw[ly];simp[C5,wP]
 .cases h:r.usances.find? p with
  |none=>
   refine⟨λh=>(by cases h),λh=>(by cases h),λ⟨u,hu,h1,h2⟩=>?_⟩;have:=Ac.1 h u hu;simp[p,h1,h2] at this
  |some u=>
   have h2:u.fr=fr/\u.to=to:=by simpa [p] using OY h
   exact⟨λ_=>⟨u,DL h,rfl⟩,λ_=>⟨u,DL h,h2⟩,λ_=>rfl⟩
def aks (r:Realm)(fr to:Int)(hl:r.usances.length<=100000):∃n e:Int,ah T 89 [aP r,.int fr,.int to] (.tup [.int n,.int e])/\(e=0->∃u,u∈r.usances/\n=u.days):=by
 obtain⟨n,e,h1,h2,_⟩:=aaB r fr to hl;exact⟨n,e,h1,h2⟩
end Rm
