/-
  Shared texts of this claim.
-/
import Derived.Test.YtibbcfbmjlehcaaGreatDoorGAO
import Derived.Lib.Mul64
set_option linter.defProp false
set_option linter.unusedSimpArgs false
set_option linter.unusedVariables false
noncomputable section
open Go.IntKind (i64)
namespace Rm
open Go Go.Proofs Cx
abbrev u (n:Nat):D:=.v (.int .u64 n)
def I6 (n:Int):IntKind.u64.wrap n=n%18446744073709551616:=rfl
def kS {n:Int}(h:0<=n/\n<18446744073709551616):IntKind.u64.wrap n=n:=by
 rw[I6];omega
def kh {n:Nat}(h:n<18446744073709551616):IntKind.u64.wrap (n:Int)=n:=kS (by omega)
def IQ (a s:Nat)(h:s<=64):bV .shr .u64 a s=((a/2^s:Nat):Int):=by
 show Int.fdiv (a:Int) (2^(min (s:Int).toNat 64))=_;have:min (s:Int).toNat 64=s:=by simp;omega
 rw[this,akU _ (Int.le_of_lt (Int.pow_pos (by decide)))];rw[Int.natCast_ediv,Int.natCast_pow];rfl
def Xh (a s:Nat)(h:s<=64):bV .shl .u64 a s=((a*2^s%18446744073709551616:Nat):Int):=by
 show IntKind.u64.wrap ((a:Int)*(2^(min (s:Int).toNat 64)))=_;have:min (s:Int).toNat 64=s:=by simp;omega
 rw[this,I6,Int.natCast_emod,Int.natCast_mul,Int.natCast_pow];rfl
def Eu (a:Nat)(h:a<18446744073709551616):bV .and .u64 a 4294967295=((a%4294967296:Nat):Int):=by
 show IntKind.u64.wrap ((BitVec.ofInt 64 (a:Int)&&& BitVec.ofInt 64 4294967295).toNat:Nat)=_;have e:(BitVec.ofInt 64 (a:Int)&&& BitVec.ofInt 64 4294967295).toNat=a%4294967296:=by
  rw[BitVec.toNat_and];have e1:(BitVec.ofInt 64 (a:Int)).toNat=a:=by simp[BitVec.ofInt,BitVec.toNat_ofNat];omega
  have e2:(BitVec.ofInt 64 4294967295).toNat=2^32-1:=by decide
  rw[e1,e2,Nat.and_two_pow_sub_one_eq_mod]
 rw[e,kh (by omega)]
@[simp] def dE (a:Nat):bV .shr .u64 a 32=((a/4294967296:Nat):Int):=IQ a 32 (by decide)
@[simp] def aIV (a:Nat):bV .shr .u64 a 16=((a/65536:Nat):Int):=IQ a 16 (by decide)
@[simp] def aIW (a:Nat):bV .shr .u64 a 8=((a/256:Nat):Int):=IQ a 8 (by decide)
set_option maxHeartbeats 2000000 in
def af4 (a b:Nat)(ha:a<18446744073709551616)(hb:b<18446744073709551616):ah T 79 [u a,u b] (.tup [u (a*b/18446744073709551616),u (a*b%18446744073709551616)]):=by
 refine zyw 58 ay9 ?_;obtain⟨h1,h2,h3,h4⟩:=Go.Lib.mul64_hi a b ha hb;have elo:IntKind.u64.wrap ((a:Int)*(b:Int))=((a*b%18446744073709551616:Nat):Int):=by rw[I6,Int.natCast_emod,Int.natCast_mul];rfl
 have Rm:bV .shr .u64 (a:Int) 32=((a/4294967296:Nat):Int):=dE a;have ea0:bV .and .u64 (a:Int) 4294967295=((a%4294967296:Nat):Int):=Eu a ha;have Rn:bV .shr .u64 (b:Int) 32=((b/4294967296:Nat):Int):=dE b;have eb0:bV .and .u64 (b:Int) 4294967295=((b%4294967296:Nat):Int):=Eu b hb;have aHb:=Go.Lib.half_mul_le (a:=a/4294967296) (b:=b/4294967296) (by omega) (by omega);have aHa:=Go.Lib.half_mul_le (a:=a/4294967296) (b:=b%4294967296) (by omega) (by omega);have aG9:=Go.Lib.half_mul_le (a:=a%4294967296) (b:=b/4294967296) (by omega) (by omega);have aG8:=Go.Lib.half_mul_le (a:=a%4294967296) (b:=b%4294967296) (by omega) (by omega);have Cr:a*b/18446744073709551616<18446744073709551616:=by
  have:a*b<18446744073709551616*18446744073709551616:=Nat.mul_lt_mul'' ha hb;exact Nat.div_lt_of_lt_mul this
 simp only[XP];generalize a/4294967296=a1 at*;generalize a%4294967296=a0 at*;generalize b/4294967296=b1 at*;generalize b%4294967296=b0 at*;have p11:IntKind.u64.wrap ((a1:Int)*(b1:Int))=((a1*b1:Nat):Int):=by rw[<-Int.natCast_mul];exact kh (by omega)
 have p10:IntKind.u64.wrap ((a1:Int)*(b0:Int))=((a1*b0:Nat):Int):=by rw[<-Int.natCast_mul];exact kh (by omega)
 have p01:IntKind.u64.wrap ((a0:Int)*(b1:Int))=((a0*b1:Nat):Int):=by rw[<-Int.natCast_mul];exact kh (by omega)
 have p00:IntKind.u64.wrap ((a0:Int)*(b0:Int))=((a0*b0:Nat):Int):=by rw[<-Int.natCast_mul];exact kh (by omega)
 rw[<-h4] at Cr ⊢;generalize a1*b1=P at*;generalize a1*b0=Q at*;generalize a0*b1=R at*;generalize a0*b0=S at*;have s1:bV .shr .u64 (S:Int) 32=((S/4294967296:Nat):Int):=dE S;have s2:IntKind.u64.wrap ((Q:Int)+((S/4294967296:Nat):Int))=((Q+S/4294967296:Nat):Int):=by rw[kS (by omega)];omega
 generalize S/4294967296=S1 at*;generalize hT:Q+S1=TT at*;have s3:bV .shr .u64 (TT:Int) 32=((TT/4294967296:Nat):Int):=dE TT;have s4:bV .and .u64 (TT:Int) 4294967295=((TT%4294967296:Nat):Int):=Eu TT (by omega);have s5:IntKind.u64.wrap (((TT%4294967296:Nat):Int)+(R:Int))=((TT%4294967296+R:Nat):Int):=by rw[kS (by omega)];omega
 generalize hU:TT%4294967296+R=U at*;have s6:bV .shr .u64 (U:Int) 32=((U/4294967296:Nat):Int):=dE U;have s7:IntKind.u64.wrap ((P:Int)+((TT/4294967296:Nat):Int))=((P+TT/4294967296:Nat):Int):=by rw[kS (by omega)];omega
 have s8:IntKind.u64.wrap (((P+TT/4294967296:Nat):Int)+((U/4294967296:Nat):Int))=((P+TT/4294967296+U/4294967296:Nat):Int):=by rw[kS (by omega)];omega
 simp[-dE,-Int.natCast_add,-Int.natCast_mul,-Int.natCast_ediv,-Int.natCast_emod,elo,Rm,ea0,Rn,eb0,p11,p10,p01,p00,s1,s2,s3,s4,s5,s6,s7,s8]
def vu (m:Nat):Int:=if m<1099511627776 then m else 1099511627776
def Da (a b:Int):Int:=if(decide (a<0)!=decide (b<0))=true then-vu (a.natAbs*b.natAbs) else vu (a.natAbs*b.natAbs)
def aie (m:Nat):0<=vu m/\vu m<=1099511627776:=by unfold vu;split<;>omega
set_option maxHeartbeats 1000000 in
def ayG (a b:Int)(ha:-1099511627776<=a/\a<=1099511627776)(hb:-1099511627776<=b/\b<=1099511627776):ah T 215 [.int a,.int b] (.int (Da a b)):=by
 refine zyw 57 aA9 ?_;have wa:IntKind.u64.wrap (a.natAbs:Int)=a.natAbs:=kh (by omega);have wb:IntKind.u64.wrap (b.natAbs:Int)=b.natAbs:=kh (by omega);have w0a:i64.wrap (0-a)=-a:=by rw[aR (by omega)];omega
 have w0b:i64.wrap (0-b)=-b:=by rw[aR (by omega)];omega
 have aBB:i64.wrap (-a)=-a:=aR (by omega);have aBC:i64.wrap (-b)=-b:=aR (by omega);have ea:(if a< -a then D.int (-a) else D.int a)=D.int a.natAbs:=by split<;>congr 1<;>omega
 have eb:(if b< -b then D.int (-b) else D.int b)=D.int b.natAbs:=by split<;>congr 1<;>omega
 have ea':(if a< -a then-a else a)=(a.natAbs:Int):=by split<;>omega
 have eb':(if b< -b then-b else b)=(b.natAbs:Int):=by split<;>omega
 simp[ZS,aBB,aBC,ea,eb,ea',eb'];rw[wa,wb];refine⟨_,af4 a.natAbs b.natAbs (by omega) (by omega),?_⟩;unfold Da;generalize a.natAbs*b.natAbs=m;have hs:(decide (a<0)!=decide (b<0))=false↔(a<0↔b<0):=by
  by_cases h1:a<0<;>by_cases h2:b<0<;>simp[h1,h2]
 have key:((if((m/18446744073709551616:Nat):Int)=0/\((m%18446744073709551616:Nat):Int)<1099511627776 then i64.wrap ((m%18446744073709551616:Nat):Int) else 1099511627776):Int)=vu m:=by
  unfold vu;by_cases hm:m<1099511627776
  .have h1:m/18446744073709551616=0:=by omega
   have h2:m%18446744073709551616=m:=by omega
   rw[h1,h2,if_pos ⟨rfl,by omega⟩,if_pos hm,aR (by omega)]
  .rw[if_neg hm,if_neg];rintro⟨h1,h2⟩;omega
 have fF:=aie m;have atl:(if((m/18446744073709551616:Nat):Int)=0/\((m%18446744073709551616:Nat):Int)<1099511627776 then D.int (i64.wrap ((m%18446744073709551616:Nat):Int)) else D.int 1099511627776)=D.int (vu m):=by
  rw[<-key];split<;>rfl
 show(if a<0↔b<0 then(if((m/18446744073709551616:Nat):Int)=0/\((m%18446744073709551616:Nat):Int)<1099511627776 then D.int (i64.wrap ((m%18446744073709551616:Nat):Int)) else D.int 1099511627776)=_ else
  i64.wrap (-(if((m/18446744073709551616:Nat):Int)=0/\((m%18446744073709551616:Nat):Int)<1099511627776 then i64.wrap ((m%18446744073709551616:Nat):Int) else 1099511627776))=_)
 rw[atl,key];generalize vu m=n at*;split
 .rename_i h;rw[hs.2 h];simp
 .rename_i h;have:(decide (a<0)!=decide (b<0))=true:=by
   cases e:(decide (a<0)!=decide (b<0)) with
   |true=>rfl
   |false=>exact absurd (hs.1 e) h
  rw[this,aR (by omega)];simp
def AQ (op a b:Int):Int:=if op=9 then rB (a+b) else if op=10 then rB (a-b) else if op=11 then Da a b else if op=12 then min a b else max a b
def ayD (op a b:Int)(ha:-1099511627776<=a/\a<=1099511627776)(hb:-1099511627776<=b/\b<=1099511627776):ah T 213 [.int op,.int a,.int b] (.int (AQ op a b)):=by
 refine zyw 56 aA2 ?_;have w1:i64.wrap (a+b)=a+b:=aR (by omega);have w2:i64.wrap (a-b)=a-b:=aR (by omega);simp[ZM,AQ,w1,w2];by_cases h1:op=9
 .simp[h1];exact O3 _
 by_cases h2:op=10
 .simp[h1,h2];exact O3 _
 by_cases h3:op=11
 .simp[h1,h2,h3];exact ayG a b ha hb
 by_cases h4:op=12
 .simp[h1,h2,h3,h4];by_cases h5:b<a<;>simp[h5]<;>omega
 simp[h1,h2,h3,h4];by_cases h5:b>a<;>simp[h5]<;>omega
def ew (b:Bool):Cell:=if b then⟨true,1⟩ else⟨true,0⟩
def xA (b:Bool):ah T 211 [.bool b] (cV (ew b)):=by
 refine zyw 54 aBb ?_;cases b<;>simp[ZU,ew]<;>rfl
def dX:Cell:=⟨false,0⟩
@[simp] def aIf:D.agg [.bool false,.int 0]=cV dX:=zyz
@[simp] def aIg:dX.known=false:=rfl
@[simp] def aIh:dX.n=0:=rfl
def cellAt (cs:List Cell)(v:Int):Cell:=cs.getD v.toNat default
def kR (cs:List Cell)(v:Int):Cell:=if cs.length<=v.toNat\/(cellAt cs v).known=false then dX else if(nV v).1=1 then ew (decide ((cellAt cs v).n≠0)) else⟨true,rB (cellAt cs v).n⟩
abbrev Rr (cs:List Cell):D:=.agg [cells cs]
def ayI (cs:List Cell)(v:Int)(hv:0<=v):ah T 201 [Rr cs,.int v] (cV (kR cs v)):=by
 refine zyw 53 aA8 ?_;obtain⟨k,rfl⟩:=rf hv;simp[ZR,kR,cellAt];by_cases h1:cs.length<=k
 .simp[h1]
 have cC:k<cs.length:=by omega
 simp[h1,cC];cases h2:cs[k].known
 .simp[h2]
 simp[h2];refine⟨_,aj4 _,?_⟩;by_cases h3:(nV k).1=1
 .simp[h3,cC];refine⟨_,xA _,?_⟩;simp;rfl
 .simp[h3,cC];refine⟨_,O3 _,?_⟩;simp;rfl
@[simp] def aHA (a b:Int):(a==b)=decide (a=b):=zyz
@[simp] def aHB (a b:Int):(a !=b)= !decide (a=b):=zyz
def aP (l:List Cell)(k:Nat):Cell:=l.getD k default
def fT (op:Int)(l:List Cell):Cell:=
 if op=3 then(if(aP l 0).known=true then ew (decide ((aP l 0).n=0)) else dX)
 else if(op=4\/op=5)/\(aP l 0=ew (decide (op=5))\/aP l 1=ew (decide (op=5))) then ew (decide (op=5))
 else if op=6 then(if(aP l 1).known=true/\aP l 1=aP l 2 then aP l 1 else dX)
 else if(aP l 0).known=false\/(aP l 1).known=false then dX
 else if op=4\/op=5 then ew (decide (op=4))
 else if op=7 then ew (decide ((aP l 0).n<(aP l 1).n)) else if op=8 then ew (decide ((aP l 0).n=(aP l 1).n)) else⟨true,AQ op (aP l 0).n (aP l 1).n⟩
def ame (a b:Cell):a=b↔a.known=b.known/\a.n=b.n:=by cases a;cases b;simp
def ayE (op:Int)(l:List Cell)(h1:1<=l.length)(h2:op≠3->2<=l.length)(h3:op=6->3<=l.length)
 (hb:9<=op->(-1099511627776<=(aP l 0).n/\(aP l 0).n<=1099511627776)/\(-1099511627776<=(aP l 1).n/\(aP l 1).n<=1099511627776)) (h9:op<3\/8<op->9<=op):
 ah T 202 [.int op,cells l] (cV (fT op l)):=by
 refine zyw 55 aA4 ?_;have g0:0<l.length:=by omega
 have yK:l[0]=aP l 0:=by simp[aP,g0]
 simp[ZO];unfold fT;by_cases o3:op=3
 .simp[o3,g0,yK];cases e:(aP l 0).known
  .simp
  .simp[g0];refine⟨_,xA _,?_⟩;simp
 have g1:1<l.length:=by have:=h2 o3;omega
 have FD:l[1]=aP l 1:=by simp[aP,g1]
 have fC:(1:Int)<l.length:=by omega
 simp[o3];have fin:∀a b:Cell,(a=b)=(a.known=b.known/\a.n=b.n):=λa b=>propext (ame a b);rcases Jd (op=4) with o4|o4
 .subst o4;simp;refine⟨_,xA _,?_⟩;simp[g0,g1,fC,yK,FD,fin];split
  .rfl
  .split
   .rfl
   .refine⟨_,xA _,?_⟩;simp
 rcases Jd (op=5) with o5|o5
 .subst o5;simp;refine⟨_,xA _,?_⟩;simp[g0,g1,fC,yK,FD,fin];split
  .rfl
  .split
   .rfl
   .refine⟨_,xA _,?_⟩;simp
 rcases Jd (op=6) with o6|o6
 .subst o6;have g2:2<l.length:=by have:=h3 rfl;omega
  have gg2:l[2]=aP l 2:=by simp[aP,g2]
  have qe:(2:Int)<l.length:=by omega
  simp[g1,g2,fC,qe,FD,gg2,fin];cases e1:(aP l 1).known
  .simp
  by_cases e2:(aP l 1).known=(aP l 2).known/\(aP l 1).n=(aP l 2).n
  .rw[e1] at e2;simp[e1,e2]
  .rw[e1] at e2;have tq:¬((aP l 2).known=true/\(aP l 1).n=(aP l 2).n):=λh=>e2 ⟨h.1.symm,h.2⟩;simp only[e1,true_and,if_true]
   first|(rw[if_neg tq,if_neg tq])|(simp[tq])
 simp[o4,o5,o6,g0,g1,fC,yK,FD];cases e1:(aP l 0).known
 .simp
 cases e2:(aP l 1).known
 .simp
 simp[g1,fC,FD];rcases Jd (op=7) with o7|o7
 .subst o7;simp;refine⟨_,xA _,?_⟩;simp
 rcases Jd (op=8) with o8|o8
 .subst o8;simp;refine⟨_,xA _,?_⟩;simp
 simp[o7,o8];obtain⟨b1,b2⟩:=hb (h9 (by omega));refine⟨_,ayD op _ _ b1 b2,?_⟩;simp;rfl
def avS (a b s:Nat)(h:a<18446744073709551616)(hb:b<2^s)(ha:a%2^s=0)(hs:s<=64):bV .or .u64 a b=((a+b:Nat):Int):=by
 show IntKind.u64.wrap ((BitVec.ofInt 64 (a:Int)|||BitVec.ofInt 64 (b:Int)).toNat:Nat)=_;have fF:b<18446744073709551616:=lM hb (by have:=Nat.pow_le_pow_right (n:=2) (by decide) hs;simpa using this);have e1:∀n:Nat,n<18446744073709551616->(BitVec.ofInt 64 (n:Int)).toNat=n:=λn hn=>by simp[BitVec.ofInt,BitVec.toNat_ofNat];omega
 have e:(BitVec.ofInt 64 (a:Int)|||BitVec.ofInt 64 (b:Int)).toNat=a+b:=by
  rw[BitVec.toNat_or,e1 a h,e1 b fF];have e3:a=2^s*(a/2^s):=by have:=AN a (2^s);omega
  rw[e3];exact(Nat.two_pow_add_eq_or_of_lt hb (a/2^s)).symm
 have af:a+b<18446744073709551616:=by rw[<-e];exact BitVec.isLt _
 rw[e,kh af]
def bl (x L:Nat):Prop:=(L=0->x=0)/\(0<L->2^(L-1)<=x)/\x<2^L/\L<=64
def MF:ByteArray:=⟨#[0,1,2,2,3,3,3,3,4,4,4,4,4,4,4,4,5,5,5,5,5,5,5,5,5,5,5,5,5,5,5,5,6,6,6,6,6,6,6,6,6,6,6,6,6,6,6,6,6,6,6,6,6,6,6,6,6,6,6,6,6,6,6,6,7,7,7,7,7,7,7,7,7,7,7,7,7,7,7,7,7,7,7,7,7,7,7,7,7,7,7,7,7,7,7,7,7,7,7,7,7,7,7,7,7,7,7,7,7,7,7,7,7,7,7,7,7,7,7,7,7,7,7,7,7,7,7,7,8,8,8,8,8,8,8,8,8,8,8,8,8,8,8,8,8,8,8,8,8,8,8,8,8,8,8,8,8,8,8,8,8,8,8,8,8,8,8,8,8,8,8,8,8,8,8,8,8,8,8,8,8,8,8,8,8,8,8,8,8,8,8,8,8,8,8,8,8,8,8,8,8,8,8,8,8,8,8,8,8,8,8,8,8,8,8,8,8,8,8,8,8,8,8,8,8,8,8,8,8,8,8,8,8,8,8,8,8,8,8,8,8,8,8,8,8,8,8,8,8,8,8,8,8,8,8,8]⟩
def len8 (y:Nat):Nat:=(MF.data.getD y 0).toNat
def ats:(List.range 256).all (λy=>(len8 y==0&&y==0||Nat.ble (2^(len8 y-1)) y&&Nat.blt 0 (len8 y))&&Nat.blt y (2^len8 y)&&Nat.ble (len8 y) 8)=true:=by kernel_rfl
def qB {y:Nat}(h:y<256):((len8 y=0/\y=0)\/(2^(len8 y-1)<=y/\0<len8 y))/\y<2^len8 y/\len8 y<=8:=by
 have:=cQ.1 ats y (fy.2 h);simp only[ao,kj,beq_iff_eq,Nat.ble_eq,pU] at this;exact⟨this.1.1,this.1.2,this.2⟩
def abz {y:Nat}(h:y<256):bl y (len8 y):=by
 obtain⟨h1,h2,h3⟩:=qB h;refine⟨λh0=>?_,λh0=>?_,h2,by omega⟩
 .rcases h1 with h1|h1
  .exact h1.2
  .omega
 .rcases h1 with h1|h1
  .omega
  .exact h1.1
def QS {x s L:Nat}(hx:2^s<=x)(h:bl (x/2^s) L)(hs:L+s<=64):bl x (L+s):=by
 have hp:0<2^s:=yf s;have hL:0<L:=by
  rcases El L with h0|h0
  .have:=h.1 h0;have:=Nat.div_pos hx hp;omega
  .exact h0
 refine⟨λh0=>by omega,λ_=>?_,?_,hs⟩
 .have h1:=h.2.1 hL;have e:L+s-1=(L-1)+s:=by omega
  rw[e,PM];exact(PK hp).1 h1
 .rw[PM];exact(yd hp).1 h.2.2.1
@[simp] def xO {n:Nat}(h:n<256):IntKind.u8.wrap (n:Int)=n:=by
  show(n:Int)%256=n;omega
def atr:(⟨#[0,1,2,2,3,3,3,3,4,4,4,4,4,4,4,4,5,5,5,5,5,5,5,5,5,5,5,5,5,5,5,5,6,6,6,6,6,6,6,6,6,6,6,6,6,6,6,6,6,6,6,6,6,6,6,6,6,6,6,6,6,6,6,6,7,7,7,7,7,7,7,7,7,7,7,7,7,7,7,7,7,7,7,7,7,7,7,7,7,7,7,7,7,7,7,7,7,7,7,7,7,7,7,7,7,7,7,7,7,7,7,7,7,7,7,7,7,7,7,7,7,7,7,7,7,7,7,7,8,8,8,8,8,8,8,8,8,8,8,8,8,8,8,8,8,8,8,8,8,8,8,8,8,8,8,8,8,8,8,8,8,8,8,8,8,8,8,8,8,8,8,8,8,8,8,8,8,8,8,8,8,8,8,8,8,8,8,8,8,8,8,8,8,8,8,8,8,8,8,8,8,8,8,8,8,8,8,8,8,8,8,8,8,8,8,8,8,8,8,8,8,8,8,8,8,8,8,8,8,8,8,8,8,8,8,8,8,8,8,8,8,8,8,8,8,8,8,8,8,8,8,8,8,8,8,8]⟩:ByteArray)=MF:=rfl
def wX:MF.size=256:=by kernel_rfl
def len8_eq (y:Nat):(MF.data[y]?.getD 0).toNat=len8 y:=by simp[len8]
def l8 (x:Nat):Nat:=if 256<=x then len8 (x/256)+8 else len8 x
def CQ (x:Nat):Nat:=if 65536<=x then l8 (x/65536)+16 else l8 x
def wV (x:Nat):Nat:=if 4294967296<=x then CQ (x/4294967296)+32 else CQ x
def afk {x:Nat}(h:x<65536):bl x (l8 x):=by
 unfold l8;split
 .rename_i h1;exact QS (s:=8) h1 (abz (by omega)) (by have:=(qB (y:=x/256) (by omega)).2.2;omega)
 .exact abz (by omega)
def afl {x:Nat}(h:x<65536):l8 x<=16:=by
 unfold l8;split
 .have:=(qB (y:=x/256) (by omega)).2.2;omega
 .have:=(qB (y:=x) (by omega)).2.2;omega
def afi {x:Nat}(h:x<4294967296):bl x (CQ x)/\CQ x<=32:=by
 unfold CQ;split
 .rename_i h1;have:=afl (x:=x/65536) (by omega);exact⟨QS (s:=16) h1 (afk (by omega)) (by omega),by omega⟩
 .have:=afl (x:=x) (by omega);exact⟨afk (by omega),by omega⟩
def afj {x:Nat}(h:x<18446744073709551616):bl x (wV x):=by
 unfold wV;split
 .rename_i h1;have:=afi (x:=x/4294967296) (by omega);exact QS (s:=32) h1 this.1 (by omega)
 .exact(afi (by omega)).1
set_option maxRecDepth 10000 in
set_option maxHeartbeats 1000000 in
def atq (x:Nat)(h:x<18446744073709551616):ah T 104 [u x] (.int (wV x:Nat)):=by
 refine zyw 115 ay8 ?_;unfold wV CQ l8;simp only[XO, lC, atr];have w8:i64.wrap 8=8:=aR (by omega);have xG:i64.wrap 16=16:=aR (by omega);have xH:i64.wrap 24=24:=aR (by omega);have xI:i64.wrap 32=32:=aR (by omega);have xJ:i64.wrap 40=40:=aR (by omega);have xK:i64.wrap 48=48:=aR (by omega);have xL:i64.wrap 56=56:=aR (by omega);by_cases h1:4294967296<=x
 .have g1:(4294967296:Int)<=x:=by omega
  generalize lj:x/4294967296=x1 at*;by_cases h2:65536<=x1
  .have g2:(65536:Int)<=(x1:Nat):=by omega
   generalize zl:x1/65536=x2 at*;by_cases h3:256<=x2
   .have g3:(256:Int)<=(x2:Nat):=by omega
    have hY:x2/256<256:=by omega
    have hl:=(qB hY).2.2;have k1:IntKind.u8.wrap ((x2/256:Nat):Int)=((x2/256:Nat):Int):=xO hY;have k2:i64.wrap ((len8 (x2/256):Nat):Int)=len8 (x2/256):=aR (by omega);have k3:i64.wrap (56+(len8 (x2/256):Int))=56+(len8 (x2/256):Int):=aR (by omega);simp[h1,h2,h3,g1,g2,g3,k1,wX,len8_eq,k2,k3,w8,xG,xH,xI,xJ,xK,xL,lj,zl,-Int.natCast_ediv];omega
   .have g3:¬(256:Int)<=(x2:Nat):=by omega
    have hY:x2<256:=by omega
    have hl:=(qB hY).2.2;have k1:IntKind.u8.wrap ((x2:Nat):Int)=((x2:Nat):Int):=xO hY;have k2:i64.wrap ((len8 (x2):Nat):Int)=len8 (x2):=aR (by omega);have k3:i64.wrap (48+(len8 (x2):Int))=48+(len8 (x2):Int):=aR (by omega);simp[h1,h2,h3,g1,g2,g3,k1,wX,len8_eq,k2,k3,w8,xG,xH,xI,xJ,xK,xL,lj,zl,-Int.natCast_ediv];omega
  .have g2:¬(65536:Int)<=(x1:Nat):=by omega
   by_cases h3:256<=x1
   .have g3:(256:Int)<=(x1:Nat):=by omega
    have hY:x1/256<256:=by omega
    have hl:=(qB hY).2.2;have k1:IntKind.u8.wrap ((x1/256:Nat):Int)=((x1/256:Nat):Int):=xO hY;have k2:i64.wrap ((len8 (x1/256):Nat):Int)=len8 (x1/256):=aR (by omega);have k3:i64.wrap (40+(len8 (x1/256):Int))=40+(len8 (x1/256):Int):=aR (by omega);simp[h1,h2,h3,g1,g2,g3,k1,wX,len8_eq,k2,k3,w8,xG,xH,xI,xJ,xK,xL,lj,-Int.natCast_ediv];omega
   .have g3:¬(256:Int)<=(x1:Nat):=by omega
    have hY:x1<256:=by omega
    have hl:=(qB hY).2.2;have k1:IntKind.u8.wrap ((x1:Nat):Int)=((x1:Nat):Int):=xO hY;have k2:i64.wrap ((len8 (x1):Nat):Int)=len8 (x1):=aR (by omega);have k3:i64.wrap (32+(len8 (x1):Int))=32+(len8 (x1):Int):=aR (by omega);simp[h1,h2,h3,g1,g2,g3,k1,wX,len8_eq,k2,k3,w8,xG,xH,xI,xJ,xK,xL,lj,-Int.natCast_ediv];omega
 .have g1:¬(4294967296:Int)<=x:=by omega
  by_cases h2:65536<=x
  .have g2:(65536:Int)<=(x:Nat):=by omega
   generalize zl:x/65536=x2 at*;by_cases h3:256<=x2
   .have g3:(256:Int)<=(x2:Nat):=by omega
    have hY:x2/256<256:=by omega
    have hl:=(qB hY).2.2;have k1:IntKind.u8.wrap ((x2/256:Nat):Int)=((x2/256:Nat):Int):=xO hY;have k2:i64.wrap ((len8 (x2/256):Nat):Int)=len8 (x2/256):=aR (by omega);have k3:i64.wrap (24+(len8 (x2/256):Int))=24+(len8 (x2/256):Int):=aR (by omega);simp[h1,h2,h3,g1,g2,g3,k1,wX,len8_eq,k2,k3,w8,xG,xH,xI,xJ,xK,xL,zl,-Int.natCast_ediv];omega
   .have g3:¬(256:Int)<=(x2:Nat):=by omega
    have hY:x2<256:=by omega
    have hl:=(qB hY).2.2;have k1:IntKind.u8.wrap ((x2:Nat):Int)=((x2:Nat):Int):=xO hY;have k2:i64.wrap ((len8 (x2):Nat):Int)=len8 (x2):=aR (by omega);have k3:i64.wrap (16+(len8 (x2):Int))=16+(len8 (x2):Int):=aR (by omega);simp[h1,h2,h3,g1,g2,g3,k1,wX,len8_eq,k2,k3,w8,xG,xH,xI,xJ,xK,xL,zl,-Int.natCast_ediv];omega
  .have g2:¬(65536:Int)<=(x:Nat):=by omega
   by_cases h3:256<=x
   .have g3:(256:Int)<=(x:Nat):=by omega
    have hY:x/256<256:=by omega
    have hl:=(qB hY).2.2;have k1:IntKind.u8.wrap ((x/256:Nat):Int)=((x/256:Nat):Int):=xO hY;have k2:i64.wrap ((len8 (x/256):Nat):Int)=len8 (x/256):=aR (by omega);have k3:i64.wrap (8+(len8 (x/256):Int))=8+(len8 (x/256):Int):=aR (by omega);simp[h1,h2,h3,g1,g2,g3,k1,wX,len8_eq,k2,k3,w8,xG,xH,xI,xJ,xK,xL,-Int.natCast_ediv];omega
   .have g3:¬(256:Int)<=(x:Nat):=by omega
    have hY:x<256:=by omega
    have hl:=(qB hY).2.2;have k1:IntKind.u8.wrap ((x:Nat):Int)=((x:Nat):Int):=xO hY;have k2:i64.wrap ((len8 (x):Nat):Int)=len8 (x):=aR (by omega);have k3:i64.wrap (0+(len8 (x):Int))=0+(len8 (x):Int):=aR (by omega);simp[h1,h2,h3,g1,g2,g3,k1,wX,len8_eq,k2,k3,w8,xG,xH,xI,xJ,xK,xL,-Int.natCast_ediv];omega
def acd {v1 v0 u32 d:Nat}(hv:0<v1)(hd:d<4294967296)(hu:u32<v1*4294967296+v0):(u32*4294967296+d)/(v1*4294967296+v0)<=u32/v1:=by
 have h1:(u32*4294967296+d)/(v1*4294967296+v0)<=(u32*4294967296+d)/(v1*4294967296):=Nat.div_le_div_left (by omega) (by omega);have h2:(u32*4294967296+d)/(v1*4294967296)=u32/v1:=by
  rw[ye v1,<-Nat.div_div_eq_div_mul]
  congr 1;omega
 omega
def acg {v1 v0 u32:Nat}(eG:v0<4294967296)(aO:2147483648<=v1)(hu:u32<v1*4294967296+v0):u32/v1<=4294967297:=by
 have h1:u32/v1*v1<=u32:=Nat.div_mul_le_self u32 v1;have h2:u32/v1*v1<4294967298*v1:=by omega
 have:=Nat.lt_of_mul_lt_mul_right h2;omega
def Ri (q v1 v0:Nat):q*(v1*4294967296+v0)=q*v1*4294967296+q*v0:=by rw[Nat.mul_add,aa5]
def acf {v1 v0 u32 d q r:Nat}(hu:u32<v1*4294967296+v0)(hd:d<4294967296)(h1:q*v1+r=u32)(c:4294967296<=q\/4294967296*r+d<q*v0):(u32*4294967296+d)/(v1*4294967296+v0)<q:=by
 rw[yd (by omega)];rcases c with c|c
 .have h2:4294967296*(v1*4294967296+v0)<=q*(v1*4294967296+v0):=ky _ c;omega
 .rw[Ri];omega
def ace {v1 v0 u32 d q r:Nat}(hv:0<v1)(h1:q*v1+r=u32)(c:q*v0<=4294967296*r+d):q<=(u32*4294967296+d)/(v1*4294967296+v0):=by
 rw[PK (by omega),Ri];omega
def acb {v1 v0 u32 d q r:Nat}(eG:v0<4294967296)(h1:q*v1+r=u32)(hu:u32<v1*4294967296+v0)(c:4294967296<=r):q<=(u32*4294967296+d)/(v1*4294967296+v0):=by
 have hv:0<v1*4294967296+v0:=by omega
 have hq:q<4294967296:=by
  rcases Jq q 4294967296 with h|h
  .exact h
  .have:4294967296*v1<=q*v1:=ky _ h;omega
 have h2:q*v0<=4294967295*4294967295:=Em (by omega) (by omega);rw[PK hv,Ri];omega
def atx (O:Env)(q0 r0 v1 v0 u32 d:Nat)(eG:v0<4294967296)(aO:2147483648<=v1)(asP:v1<4294967296)(hd:d<4294967296)(hu:u32<v1*4294967296+v0)
 (hq:q0=u32/v1) (hr:r0=u32%v1) (h9:O.r 9=u v1) (jA:O.r 10=u v0) (yT:O.r 13=u d) (y9:O.r 15=u q0) (Te:O.r 16=u r0) (K:Env->Prop) (Q:Out->Prop)
 (hK:∀O':Env,O'.r 15=u ((u32*4294967296+d)/(v1*4294967296+v0))->(∀t,t∉[15,16,67,68,69,78]->O'.r t=O.r t)->K O'):aL T (GY yn) O (gM K Q):=by
 have dm:=λq r=>acf (v1:=v1) (v0:=v0) (u32:=u32) (d:=d) (q:=q) (r:=r) hu hd;have dl:=λq r=>ace (v1:=v1) (v0:=v0) (u32:=u32) (d:=d) (q:=q) (r:=r) (by omega);have dd:=λq r=>acb (v1:=v1) (v0:=v0) (u32:=u32) (d:=d) (q:=q) (r:=r) eG;have di:=acd (v1:=v1) (v0:=v0) (u32:=u32) (d:=d) (by omega) hd hu;have hQ0:0<=(u32*4294967296+d)/(v1*4294967296+v0):=kz _;generalize (u32*4294967296+d)/(v1*4294967296+v0)=QQ at*;refine aL.forLoop (α:=Nat×Nat) (λs vr vo=>s.1*v1+s.2=u32/\QQ<=s.1/\s.2<4294967296/\s.1<=4294967297/\vr=[u s.1,u s.2]/\vo=[]) (λs=>s.1) (q0,r0) ⟨?_,?_,?_,?_,?_,rfl⟩ ?_
 .subst hq hr;exact Ek u32 v1
 .subst hq;exact di
 .subst hr;have:=rj u32 (show v1>0 by omega);omega
 .subst hq;exact acg eG aO hu
 .simp[y9,Te]
 .rintro⟨q,r⟩ vr vo ⟨h1,h2,h3,h4,rfl,rfl⟩;dsimp only at h1 h2 h3 h4;have hm:q*v0<=4294967297*4294967295:=Em h4 (by omega);have w1:IntKind.u64.wrap ((q:Int)*(v0:Int))=(q*v0:Nat):=by rw[<-Int.natCast_mul];exact kh (by omega)
  have w2:IntKind.u64.wrap (4294967296*(r:Int))=(4294967296*r:Nat):=by rw[kS (by omega)];omega
  have w3:IntKind.u64.wrap (((4294967296*r:Nat):Int)+(d:Int))=(4294967296*r+d:Nat):=by rw[kS (by omega)];omega
  have dm:=dm q r h1;have dl:=dl q r h1;generalize q*v0=M at*;by_cases c:4294967296<=q\/4294967296*r+d<M
  .have af:=dm c;have w4:IntKind.u64.wrap ((q:Int)-1)=(q-1:Nat):=by rw[kS (by omega)];omega
   have w5:IntKind.u64.wrap ((r:Int)+(v1:Int))=(r+v1:Nat):=by rw[kS (by omega)];omega
   have e1:(q-1)*v1+(r+v1)=u32:=by rw[Nat.sub_mul,Nat.one_mul];have:v1<=q*v1:=Nat.le_mul_of_pos_left v1 (by omega);omega
   have uN:(4294967296:Int)<=(q:Int)\/4294967296*r+d<M:=by omega
   by_cases c2:4294967296<=r+v1
   .have yr:(4294967296:Int)<=((r+v1:Nat):Int):=by omega
    have:=dd _ _ e1 hu c2;have e2:q-1=QQ:=by omega
    simp[V3,HF,h9,jA,yT,w1,w2,w3,w4,w5,uN,yr,-Int.natCast_add,-Int.natCast_mul];refine hK _ ?_ ?_
    .simp[w4,e2]
    .intro t ht;simp at ht;simp[ht]
   .have yr:¬(4294967296:Int)<=((r+v1:Nat):Int):=by omega
    simp[V3,HF,h9,jA,yT,w1,w2,w3,w4,w5,uN,yr,-Int.natCast_add,-Int.natCast_mul];exact⟨q-1,by omega,r+v1,e1,by omega,by omega,by omega,rfl,rfl⟩
  .have:=dl (by omega);have e2:q=QQ:=by omega
   have uN:¬((4294967296:Int)<=(q:Int)):=by omega
   have QV:¬(4294967296*r+d<M):=by omega
   simp[V3,HF,h9,jA,yT,w1,w2,w3,uN,QV,-Int.natCast_add,-Int.natCast_mul];refine hK _ ?_ ?_
   .simp[e2]
   .intro t ht;simp at ht;simp[ht]
def aty (O:Env)(q0 r0 v1 v0 u32 d:Nat)(eG:v0<4294967296)(aO:2147483648<=v1)(asP:v1<4294967296)(hd:d<4294967296)(hu:u32<v1*4294967296+v0)
 (hq:q0=u32/v1) (hr:r0=u32%v1) (h9:O.r 9=u v1) (jA:O.r 10=u v0) (yT:O.r 14=u d) (y9:O.r 18=u q0) (Te:O.r 16=u r0) (K:Env->Prop) (Q:Out->Prop)
 (hK:∀O':Env,O'.r 18=u ((u32*4294967296+d)/(v1*4294967296+v0))->(∀t,t∉[16,18,102,103,104,113]->O'.r t=O.r t)->K O'):aL T (GZ yn) O (gM K Q):=by
 have dm:=λq r=>acf (v1:=v1) (v0:=v0) (u32:=u32) (d:=d) (q:=q) (r:=r) hu hd;have dl:=λq r=>ace (v1:=v1) (v0:=v0) (u32:=u32) (d:=d) (q:=q) (r:=r) (by omega);have dd:=λq r=>acb (v1:=v1) (v0:=v0) (u32:=u32) (d:=d) (q:=q) (r:=r) eG;have di:=acd (v1:=v1) (v0:=v0) (u32:=u32) (d:=d) (by omega) hd hu;have hQ0:0<=(u32*4294967296+d)/(v1*4294967296+v0):=kz _;generalize (u32*4294967296+d)/(v1*4294967296+v0)=QQ at*;refine aL.forLoop (α:=Nat×Nat) (λs vr vo=>s.1*v1+s.2=u32/\QQ<=s.1/\s.2<4294967296/\s.1<=4294967297/\vr=[u s.2,u s.1]/\vo=[]) (λs=>s.1) (q0,r0) ⟨?_,?_,?_,?_,?_,rfl⟩ ?_
 .subst hq hr;exact Ek u32 v1
 .subst hq;exact di
 .subst hr;have:=rj u32 (show v1>0 by omega);omega
 .subst hq;exact acg eG aO hu
 .simp[y9,Te]
 .rintro⟨q,r⟩ vr vo ⟨h1,h2,h3,h4,rfl,rfl⟩;dsimp only at h1 h2 h3 h4;have hm:q*v0<=4294967297*4294967295:=Em h4 (by omega);have w1:IntKind.u64.wrap ((q:Int)*(v0:Int))=(q*v0:Nat):=by rw[<-Int.natCast_mul];exact kh (by omega)
  have w2:IntKind.u64.wrap (4294967296*(r:Int))=(4294967296*r:Nat):=by rw[kS (by omega)];omega
  have w3:IntKind.u64.wrap (((4294967296*r:Nat):Int)+(d:Int))=(4294967296*r+d:Nat):=by rw[kS (by omega)];omega
  have dm:=dm q r h1;have dl:=dl q r h1;generalize q*v0=M at*;by_cases c:4294967296<=q\/4294967296*r+d<M
  .have af:=dm c;have w4:IntKind.u64.wrap ((q:Int)-1)=(q-1:Nat):=by rw[kS (by omega)];omega
   have w5:IntKind.u64.wrap ((r:Int)+(v1:Int))=(r+v1:Nat):=by rw[kS (by omega)];omega
   have e1:(q-1)*v1+(r+v1)=u32:=by rw[Nat.sub_mul,Nat.one_mul];have:v1<=q*v1:=Nat.le_mul_of_pos_left v1 (by omega);omega
   have uN:(4294967296:Int)<=(q:Int)\/4294967296*r+d<M:=by omega
   by_cases c2:4294967296<=r+v1
   .have yr:(4294967296:Int)<=((r+v1:Nat):Int):=by omega
    have:=dd _ _ e1 hu c2;have e2:q-1=QQ:=by omega
    simp[V4,HG,h9,jA,yT,w1,w2,w3,w4,w5,uN,yr,-Int.natCast_add,-Int.natCast_mul];refine hK _ ?_ ?_
    .simp[w4,e2]
    .intro t ht;simp at ht;simp[ht]
   .have yr:¬(4294967296:Int)<=((r+v1:Nat):Int):=by omega
    simp[V4,HG,h9,jA,yT,w1,w2,w3,w4,w5,uN,yr,-Int.natCast_add,-Int.natCast_mul];exact⟨q-1,by omega,r+v1,e1,by omega,by omega,by omega,rfl,rfl⟩
  .have:=dl (by omega);have e2:q=QQ:=by omega
   have uN:¬((4294967296:Int)<=(q:Int)):=by omega
   have QV:¬(4294967296*r+d<M):=by omega
   simp[V4,HG,h9,jA,yT,w1,w2,w3,uN,QV,-Int.natCast_add,-Int.natCast_mul];refine hK _ ?_ ?_
   .simp[e2]
   .intro t ht;simp at ht;simp[ht]
def bD:Nat->List Cell->Tm->Cell
 |0,_,_=>dX
 |L+1,cs,t=>if t.op=0\/t.op=1 then⟨true,t.n⟩ else if t.op=2 then kR cs t.n else
   if t.op=6/\(aP (t.args.map (bD L cs)) 0).known=true then aP (t.args.map (bD L cs)) (2-(aP (t.args.map (bD L cs)) 0).n).toNat else fT t.op (t.args.map (bD L cs))
def eJ:Nat->List Cell->Tm->List Int
 |0,_,_=>[]
 |L+1,cs,t=>if t.op=0\/t.op=1 then[] else if t.op=2 then(if(kR cs t.n).known=true then[] else[t.n]) else
   if t.op=6/\(aP (t.args.map (bD L cs)) 0).known=true then(t.args.map (eJ L cs)).getD (2-(aP (t.args.map (bD L cs)) 0).n).toNat [] else
   if(fT t.op (t.args.map (bD L cs))).known=true then[] else(t.args.map (eJ L cs)).flatten
def B2 (L:Nat)(cs:List Cell)(t:Tm):bD (L+1) cs t=if t.op=0\/t.op=1 then⟨true,t.n⟩ else if t.op=2 then kR cs t.n else
 if t.op=6/\(aP (t.args.map (bD L cs)) 0).known=true then aP (t.args.map (bD L cs)) (2-(aP (t.args.map (bD L cs)) 0).n).toNat else fT t.op (t.args.map (bD L cs)):=rfl
def MX (L:Nat)(cs:List Cell)(t:Tm):eJ (L+1) cs t=if t.op=0\/t.op=1 then[] else if t.op=2 then(if(kR cs t.n).known=true then[] else[t.n]) else
 if t.op=6/\(aP (t.args.map (bD L cs)) 0).known=true then(t.args.map (eJ L cs)).getD (2-(aP (t.args.map (bD L cs)) 0).n).toNat [] else
 if(fT t.op (t.args.map (bD L cs))).known=true then[] else(t.args.map (eJ L cs)).flatten:=rfl
def Lc {L:Nat}{t:Tm}{k:Int}(h:cd (L+1) t=(k,0)):(∀a,a∈t.args->(cd L a).2=0)/\zD t (t.args.map λa=>(cd L a).1)=(k,0):=by
 rw[Q7] at h;by_cases e:fX t.args.length (λk=>(cd L (t.args.getD k default)).2)=0
 .rw[if_neg (by simpa using e)] at h;refine⟨λa ha=>?_,h⟩;obtain⟨j,hj,rfl⟩:=fe ha;have:=RD.1 e j hj;simpa [hj] using this
 .rw[if_pos e] at h;injection h with _ h
  exact absurd h e
inductive Node (ks:List Int) (t:Tm):Int->Prop where
 |int (h:t.op=0) (ha:t.args=[]) (hn:-1099511627776<=t.n/\t.n<=1099511627776):Node ks t 0
 |bool (h:t.op=1) (ha:t.args=[]) (hn:t.n=0\/t.n=1):Node ks t 1
 |var (h:t.op=2) (ha:t.args=[]) (hn:0<=t.n/\t.n<=19):Node ks t (nV t.n).1
 |not (h:t.op=3) (hk:ks=[1]):Node ks t 1
 |log (h:t.op=4\/t.op=5) (hk:ks=[1,1]):Node ks t 1
 |ite (k:Int) (h:t.op=6) (hk:ks=[1,k,k]):Node ks t k
 |less (h:t.op=7) (hk:ks=[0,0]):Node ks t 1
 |equal (k:Int) (h:t.op=8) (hk:ks=[k,k]):Node ks t 1
 |num (h:9<=t.op/\t.op<=13) (hk:ks=[0,0]):Node ks t 0
def aBx (v:Int):(nV v).1=0\/(nV v).1=1:=by
 unfold nV;repeat' split
 all_goals simp
def avj {t:Tm}{ks:List Int}{k:Int}(hl:ks.length=t.args.length)(jU:∀x,x∈ks->x=0\/x=1)(h:zD t ks=(k,0)):Node ks t k:=by
 unfold zD at h;split at h
 .injection h with _ h;cases h
 rename_i eE;split at h
 .rename_i h3;unfold GU at h;split at h
  .injection h with _ h;cases h
  rename_i ha0;have ha:t.args=[]:=Pv (by omega);split at h
  .rename_i h0;split at h
   .injection h with _ h;cases h
   .rename_i hc;injection h with h _
    subst h;refine .int h0 ha ?_;unfold rB at hc;omega
  split at h
  .rename_i h0;split at h
   .injection h with _ h;cases h
   .rename_i hc;injection h with h _
    subst h;exact .bool h0 ha (by omega)
  split at h
  .injection h with _ h;cases h
  .rename_i g0 g1 hc;injection h with h _
   subst h;refine .var (by omega) ha ?_;unfold nV at hc;split at hc
   .simp at hc
   .omega
 rename_i h3;split at h
 .injection h with _ h;cases h
 rename_i hlen;have ql:ks.length=(fp t.op).1.length:=by
  refine AA λhh=>hlen (.inl hh)
 split at h
 .injection h with _ h;cases h
 rename_i ar;have kJ:∀j,j<(fp t.op).1.length->qA (fp t.op).1 ks j=true:=yh.1 (by simpa using ar)
 have two:∀{n:Nat},ks.length=2->∃a b,ks=[a,b]:=λh=>by
  match ks,h with
  |[a,b],_=>exact⟨a,b,rfl⟩
 by_cases o3:t.op=3
 .have e:fp t.op=([1],1):=by simp[fp,o3]
  rw[e] at ql kJ h
  match ks,ql with
  |[a],_=>
   have:=kJ 0 (by simp);simp[qA] at this;simp at h;subst h this;exact .not o3 rfl
 by_cases M4:t.op=4\/t.op=5
 .have e:fp t.op=([1,1],1):=by simp[fp,o3,M4]
  rw[e] at ql kJ h
  match ks,ql with
  |[a,b],_=>
   have t1:=kJ 0 (by simp);have t2:=kJ 1 (by simp);simp[qA] at t1 t2;simp at h;subst h t1 t2;exact .log M4 rfl
 by_cases o6:t.op=6
 .have e:fp t.op=([1,-1,-1],-1):=by simp[fp,o6]
  rw[e] at ql kJ h
  match ks,ql,jU with
  |[a,b,c],_,jU=>
   have t1:=kJ 0 (by simp);have t3:=kJ 2 (by simp);have hb:=jU b (by simp);have tL:¬b=-1:=by omega
   simp[qA] at t1;simp[qA,po,tL] at t3;simp[po,tL] at h;subst h t1 t3;exact .ite _ o6 rfl
 by_cases o7:t.op=7
 .have e:fp t.op=([0,0],1):=by simp[fp,o7]
  rw[e] at ql kJ h
  match ks,ql with
  |[a,b],_=>
   have t1:=kJ 0 (by simp);have t2:=kJ 1 (by simp);simp[qA] at t1 t2;simp at h;subst h t1 t2;exact .less o7 rfl
 by_cases o8:t.op=8
 .have e:fp t.op=([-1,-1],1):=by simp[fp,o8]
  rw[e] at ql kJ h
  match ks,ql,jU with
  |[a,b],_,jU=>
   have t2:=kJ 1 (by simp);have ha:=jU a (by simp);have han:¬a=-1:=by omega
   simp[qA,po,han] at t2;simp at h;subst h t2;exact .equal _ o8 rfl
 have e:fp t.op=([0,0],0):=by simp[fp,o3,M4,o6,o7,o8]
 rw[e] at ql kJ h
 match ks,ql with
 |[a,b],_=>
  have t1:=kJ 0 (by simp);have t2:=kJ 1 (by simp);simp[qA] at t1 t2;simp at h;subst h t1 t2;exact .num (by omega) rfl
def Ld:∀{L:Nat} {t:Tm} {k:Int},cd (L+1) t=(k,0)->Node (t.args.map λa=>(cd L a).1) t k/\(k=0\/k=1)
 |L,t,k,h=>by
  obtain⟨h1,h2⟩:=Lc h
  have jU:∀x,x∈(t.args.map λa=>(cd L a).1)->x=0\/x=1:=by
   intro x hx;obtain⟨a,ha,rfl⟩:=bY.1 hx;cases L with
   |zero=>exact .inl rfl
   |succ L=>exact(Ld (L:=L) (t:=a) (k:=(cd (L+1) a).1) (by rw[<-h1 a ha])).2
  have hn:=avj (by simp) jU h2;refine⟨hn,?_⟩;cases hn with
  |int=>simp
  |bool=>simp
  |var=>exact aBx _
  |not=>simp
  |log=>simp
  |ite k _ hk=>exact jU k (by rw[hk];simp)
  |less=>simp
  |equal=>simp
  |num=>simp
def vT (k:Int)(c:Cell):Prop:=(c.known=false->c=dX)/\(c.known=true->(k=1->c.n=0\/c.n=1)/\(k=0->-1099511627776<=c.n/\c.n<=1099511627776))
def xq (k:Int):vT k dX:=⟨λ_=>rfl,λh=>by cases h⟩
def DM (b:Bool):vT 1 (ew b):=⟨λh=>(by cases b<;>cases h),λ_=>⟨λ_=>(by cases b<;>simp[ew]),λh=>by cases h⟩⟩
def Re (n:Int):-1099511627776<=rB n/\rB n<=1099511627776:=by unfold rB;omega
def axJ (cs:List Cell)(v:Int)(hv:0<=v/\v<=19):vT (nV v).1 (kR cs v):=by
 unfold kR;split
 .exact xq _
 .split
  .rename_i h;rw[h];exact DM _
  .rename_i h;refine⟨λh=>(by cases h),λ_=>⟨λh'=>absurd h' h,λ_=>Re _⟩⟩
def awB (a b:Int):-1099511627776<=Da a b/\Da a b<=1099511627776:=by
 unfold Da;have:=aie (a.natAbs*b.natAbs);split<;>omega
def alv (op a b:Int)(ha:-1099511627776<=a/\a<=1099511627776)(hb:-1099511627776<=b/\b<=1099511627776):-1099511627776<=AQ op a b/\AQ op a b<=1099511627776:=by
 unfold AQ;split
 .exact Re _
 split
 .exact Re _
 split
 .exact awB _ _
 split<;>omega
def au4 {α β:Type}{f:α->β}{l:List α}{x:β}(h:l.map f=[x]):∃a,l=[a]/\f a=x:=by
 match l,h with
 |[a],h=>exact⟨a,rfl,by simpa using h⟩
def CS {α β:Type}{f:α->β}{l:List α}{x y:β}(h:l.map f=[x,y]):∃a b,l=[a,b]/\f a=x/\f b=y:=by
 match l,h with
 |[a,b],h=>exact⟨a,b,rfl,by simpa using h⟩
def MO {α β:Type}{f:α->β}{l:List α}{x y z:β}(h:l.map f=[x,y,z]):∃a b c,l=[a,b,c]/\f a=x/\f b=y/\f c=z:=by
 match l,h with
 |[a,b,c],h=>exact⟨a,b,c,rfl,by simpa using h⟩
def Rw:∀{L:Nat} {t:Tm} {k:Int} (cs:List Cell),cd L t=(k,0)->vT k (bD L cs t)
 |0,t,k,cs,h=>xq _
 |L+1,t,k,cs,h=>by
  obtain⟨hn,hk⟩:=Ld h;obtain⟨ha,_⟩:=Lc h;have ih:∀a,a∈t.args->vT (cd L a).1 (bD L cs a):=λa hm=>Rw cs (show cd L a=((cd L a).1,0) by rw[<-ha a hm]);rw[B2];cases hn with
  |int h0 ha hn=>rw[if_pos (.inl h0)];exact⟨λh=>(by cases h),λ_=>⟨λh=>(by cases h),λ_=>hn⟩⟩
  |bool h0 ha hn=>rw[if_pos (.inr h0)];exact⟨λh=>(by cases h),λ_=>⟨λ_=>hn,λh=>by cases h⟩⟩
  |var h0 ha hn=>rw[if_neg (by omega),if_pos h0];exact axJ cs _ hn
  |not h0 hk=>
   rw[if_neg (by omega),if_neg (by omega),if_neg (by omega)];unfold fT;rw[if_pos h0];split
   .exact DM _
   .exact xq _
  |log h0 hk=>
   rw[if_neg (by omega),if_neg (by omega),if_neg (by omega)];unfold fT;rw[if_neg (by omega)];split
   .exact DM _
   rw[if_neg (by omega)];split
   .exact xq _
   exact DM _
  |ite k h0 cu=>
   obtain⟨a,b,c,hl,e1,e2,e3⟩:=MO cu;rw[hl] at ih ⊢;have r1:=ih a (by simp);have r2:=ih b (by simp);have r3:=ih c (by simp);rw[e1] at r1;rw[e2] at r2;rw[e3] at r3;rw[if_neg (by omega),if_neg (by omega)];simp only[iz,List.map_nil,aP,ri];split
   .rename_i hh;rcases(r1.2 hh.2).1 rfl with h1|h1<;>rw[h1]
    .exact r3
    .exact r2
   .unfold fT;rw[if_neg (by omega),if_neg (by omega),if_pos h0];simp only[aP,ri,AH];split
    .exact r2
    .exact xq _
  |less h0 hk=>
   rw[if_neg (by omega),if_neg (by omega),if_neg (by omega)];unfold fT;rw[if_neg (by omega),if_neg (by omega),if_neg (by omega)];split
   .exact xq _
   repeat' split
   all_goals exact DM _
  |equal k h0 hk=>
   rw[if_neg (by omega),if_neg (by omega),if_neg (by omega)];unfold fT;rw[if_neg (by omega),if_neg (by omega),if_neg (by omega)];split
   .exact xq _
   repeat' split
   all_goals exact DM _
  |num h0 cu=>
   obtain⟨a,b,hl,e1,e2⟩:=CS cu;rw[hl] at ih ⊢;have r1:=ih a (by simp);have r2:=ih b (by simp);rw[e1] at r1;rw[e2] at r2;rw[if_neg (by omega),if_neg (by omega),if_neg (by omega)];unfold fT;rw[if_neg (by omega),if_neg (by omega),if_neg (by omega)];simp only[iz,List.map_nil,aP,ri,AH];split
   .exact xq _
   rename_i rX;rw[if_neg (by omega),if_neg (by omega),if_neg (by omega)];have k1:(bD L cs a).known=true:=by
    cases e:(bD L cs a).known with
    |true=>rfl
    |false=>exact absurd (.inl e) rX
   have k2:(bD L cs b).known=true:=by
    cases e:(bD L cs b).known with
    |true=>rfl
    |false=>exact absurd (.inr e) rX
   exact⟨λh=>(by cases h),λ_=>⟨λh=>(by cases h),λ_=>alv _ _ _ ((r1.2 k1).2 rfl) ((r2.2 k2).2 rfl)⟩⟩
def af6:∀(L:Nat) (cs:List Cell) (t:Tm),cW L t<=60->((eJ L cs t).length:Int)<=cW L t
 |0,cs,t,h=>by simp[cW] at h
 |L+1,cs,t,h=>by
  have h1:=zB (L+1) t;obtain⟨hl,hp⟩:=T6 h;have hs:∀(l:List Tm) (n:Int),(∀a,a∈l->cW L a<=60)->gf (cW L) l n<=60->((l.map (eJ L cs)).flatten.length:Int)+n<=gf (cW L) l n/\∀j,(((l.map (eJ L cs)).getD j []).length:Int)+n<=gf (cW L) l n:=by
   intro l
   induction l with
   |nil=>intro n _ _;simp[gf]
   |cons a l ih=>
    intro n hp hm;have ha:=af6 L cs a (hp a (by simp));unfold gf at hm ⊢;split at hm
    .omega
    .rename_i h60;rw[if_neg h60];obtain⟨i1,i2⟩:=ih (n+cW L a) (λb hb=>hp b (by simp[hb])) hm;refine⟨by rw[iz,aaR,mW];omega,λj=>?_⟩;cases j with
     |zero=>simp;omega
     |succ j=>have:=i2 j;simp at this ⊢;omega
  obtain⟨Mn,dU⟩:=hs t.args 1 hp h;rw[MX];split
  .simp;omega
  split
  .split<;>simp<;>omega
  split
  .have:=dU (2-(aP (t.args.map (bD L cs)) 0).n).toNat;show _<=gf _ _ _;omega
  split
  .simp;omega
  .show _<=gf _ _ _;omega
@[simp] def aJa (x y:List Int):xy (ints x) 0 (ints y)=ints y:=zyz
@[simp] def ayn (x y:Cell):xy (cV x) 0 (cV y)=cV y:=zyz
@[simp] def aHC (a b:List Int):D.list (a.map D.int++b.map D.int)=ints (a++b):=by simp[ints]
def lists (l:List (List Int)):D:=.list (l.map ints)
@[simp] def aHO (l:List (List Int)):(lists l).l=l.map ints:=zyz
def akF (l:List (List Int))(hl:l.length<=1000)(hs:l.flatten.length<=1000000):ah T 203 [lists l] (ints l.flatten):=by
 refine zyw 59 aAH ?_;simp[Zq];have hb:∀k,(l.take k).flatten.length<=l.flatten.length:=by
  intro k
  conv=>rhs;rw[<-Jp k l]
  rw[List.flatten_append,mW];omega
 have bG:∀k (hk:k<l.length),(l.take (k+1)).flatten=(l.take k).flatten++l[k]:=λk hk=>by
  rw[iX hk,List.flatten_append];simp
 refine aL.forRounds l.length (λk=>[.int ((l.take k).flatten.length:Nat),.int k]) (λk=>[]) ?_ (λk hk=>?_) ?_
 .simp
 .have hw:=bq hk (by omega);have h1:=bG k hk;have h2:=hb (k+1);rw[h1] at h2 ⊢;rw[mW] at h2 ⊢;generalize (l.take k).flatten.length=m at*;have vi:i64.wrap ((m:Int)+(l[k].length:Int))=(m:Int)+l[k].length:=aR (by omega);have Gg:¬((m:Int)+l[k].length<0):=by omega
  simp[ajl,Ox,hk,hw,vi,Gg]
 .simp[ajl,Ox];have fG:ah T 214 [.list [],.int (l.flatten.length:Nat)] (.list []):=by
   refine .of_ext (g:=λ_ ds=>Lw ds) rfl ⟨0,λ_ _=>?_⟩;show(if(0:Int)<=(l.flatten.length:Nat)/\((l.flatten.length:Nat):Int)<=4294967296 then some (D.list []) else none)=some (D.list []);rw[if_pos (by omega)]
  rw[List.length_flatten] at fG;refine⟨_,fG,?_⟩;refine aL.forRounds l.length (λk=>[.none,.int k]) (λk=>[ints (l.take k).flatten]) ?_ (λk hk=>?_) ?_
  .simp[ints]
  .have hw:=bq hk (by omega);have h1:=bG k hk;have h2:=hb (k+1);rw[h1] at h2 ⊢;rw[mW] at h2;generalize (l.take k).flatten=m at*;simp[ajm,Oy,hk,hw];omega
  .simp[ajm,Oy]
def amG {op:Int}{l:List Cell}(h:(fT op l).known=false):fT op l=dX:=by
 have hy:∀b,(ew b).known=true:=λb=>by cases b<;>simp[ew]
 unfold fT at h ⊢;split<;>rename_i c1
 .rw[if_pos c1] at h;split<;>rename_i c2
  .rw[if_pos c2,hy] at h;cases h
  .rfl
 rw[if_neg c1] at h;split<;>rename_i c2
 .rw[if_pos c2,hy] at h;cases h
 rw[if_neg c2] at h;split<;>rename_i c3
 .rw[if_pos c3] at h;split<;>rename_i c4
  .rw[if_pos c4,c4.1] at h;cases h
  .rfl
 rw[if_neg c3] at h;split<;>rename_i c4
 .rfl
 rw[if_neg c4] at h
 repeat' split at h
 all_goals first|(rw[hy] at h;cases h)|cases h
def aj5:∀(L:Nat) (cs:List Cell) (t:Tm) (k:Int),t.OK->cW L t<=60->cd L t=(k,0)->ah T 182 [Rr cs,dP t] (.tup [cV (bD L cs t),ints (eJ L cs t)])
 |0,cs,t,k,ht,hm,hc=>by simp[cW] at hm
 |L+1,cs,t,k,ht,hm,hc=>by
  refine zyw 52 aA7 ?_;obtain⟨hl,hp⟩:=T6 hm;obtain⟨ha,_⟩:=Lc hc;obtain⟨hn,aG0⟩:=Ld hc;have jF:∀a,a∈t.args->ah T 182 [Rr cs,dP a] (.tup [cV (bD L cs a),ints (eJ L cs a)]):=λa fH=>aj5 L cs a (cd L a).1 (ht.arg fH) (hp a fH) (by rw[<-ha a fH]);have zb:∀a,a∈t.args->vT (cd L a).1 (bD L cs a):=λa fH=>Rw cs (show cd L a=((cd L a).1,0) by rw[<-ha a fH]);have hnl:∀a,a∈t.args->(eJ L cs a).length<=60:=λa fH=>by have:=af6 L cs a (hp a fH);have:=hp a fH;omega
  by_cases jU:t.op=0\/t.op=1
  ·
   have e1:bD (L+1) cs t=⟨true,t.n⟩:=by rw[B2,if_pos jU]
   have e2:eJ (L+1) cs t=[]:=by rw[MX,if_pos jU]
   rw[e1,e2];rcases jU with h|h<;>simp[IZ,h]<;>exact⟨rfl,rfl⟩
  have o0:t.op≠0:=λh=>jU (.inl h);have o1:t.op≠1:=λh=>jU (.inr h);by_cases o2:t.op=2
  .have hv:0<=t.n:=by
    cases hn with
    |var h0 ha hn=>exact hn.1
    |_=>omega
   have e1:bD (L+1) cs t=kR cs t.n:=by rw[B2,if_neg jU,if_pos o2]
   have e2:eJ (L+1) cs t=if(kR cs t.n).known=true then[] else[t.n]:=by rw[MX,if_neg jU,if_pos o2]
   rw[e1,e2];simp[IZ,o2];refine⟨_,ayI cs t.n hv,?_⟩;cases e:(kR cs t.n).known
   .have:kR cs t.n=dX:=by
     unfold kR at e ⊢;split
     .rfl
     .rename_i h;rw[if_neg h] at e;split at e
      .cases hb:decide ((cellAt cs t.n).n≠0)<;>rw[hb] at e<;>cases e
      .cases e
    rw[this];simp[ints]
   .have h:kR cs t.n=⟨true,(kR cs t.n).n⟩:=by rw[<-e]
    rw[h];simp[ints]
    try rfl
  have hlen:1<=t.args.length/\(t.op≠3->2<=t.args.length)/\(t.op=6->3<=t.args.length):=by
   cases hn with
   |int h0 ha hn=>omega
   |bool h0 ha hn=>omega
   |var h0 ha hn=>omega
   |not h0 hk=>obtain⟨a,hl,_⟩:=au4 hk;rw[hl];simp;omega
   |log h0 hk=>obtain⟨a,b,hl,_⟩:=CS hk;rw[hl];simp;omega
   |ite k h0 hk=>obtain⟨a,b,c,hl,_⟩:=MO hk;rw[hl];simp
   |less h0 hk=>obtain⟨a,b,hl,_⟩:=CS hk;rw[hl];simp;omega
   |equal k h0 hk=>obtain⟨a,b,hl,_⟩:=CS hk;rw[hl];simp;omega
   |num h0 hk=>obtain⟨a,b,hl,_⟩:=CS hk;rw[hl];simp;omega
  have hb9:9<=t.op->(-1099511627776<=(aP (t.args.map (bD L cs)) 0).n/\(aP (t.args.map (bD L cs)) 0).n<=1099511627776)/\(-1099511627776<=(aP (t.args.map (bD L cs)) 1).n/\(aP (t.args.map (bD L cs)) 1).n<=1099511627776):=by
   intro h9;have rb:∀c:Cell,vT 0 c->-1099511627776<=c.n/\c.n<=1099511627776:=by
    intro c hr;cases e:c.known with
    |false=>rw[hr.1 e];simp
    |true=>exact(hr.2 e).2 rfl
   cases hn with
   |num h0 hk=>
    obtain⟨a,b,hl,ea,eb⟩:=CS hk;rw[hl] at zb ⊢;have r1:=zb a (by simp);have r2:=zb b (by simp);rw[ea] at r1;rw[eb] at r2;exact⟨rb _ r1,rb _ r2⟩
   |log h0 hk=>omega
   |_=>omega
  have h6:t.op=6->(aP (t.args.map (bD L cs)) 0).known=true->(aP (t.args.map (bD L cs)) 0).n=0\/(aP (t.args.map (bD L cs)) 0).n=1:=by
   intro o6 rX;cases hn with
   |ite k h0 hk=>
    obtain⟨a,b,c,hl,ea,_⟩:=MO hk;rw[hl] at zb rX ⊢;have r1:=zb a (by simp);rw[ea] at r1;exact(r1.2 rX).1 rfl
   |log h0 hk=>omega
   |num h0 hk=>omega
   |_=>omega
  have eE:t.op<3\/8<t.op->9<=t.op:=by
   cases hn with
   |log h0 hk=>omega
   |num h0 hk=>omega
   |_=>omega
  have e1:bD (L+1) cs t=if t.op=6/\(aP (t.args.map (bD L cs)) 0).known=true then aP (t.args.map (bD L cs)) (2-(aP (t.args.map (bD L cs)) 0).n).toNat else fT t.op (t.args.map (bD L cs)):=by
   rw[B2,if_neg jU,if_neg o2]
  have e2:eJ (L+1) cs t=if t.op=6/\(aP (t.args.map (bD L cs)) 0).known=true then(t.args.map (eJ L cs)).getD (2-(aP (t.args.map (bD L cs)) 0).n).toNat [] else if(fT t.op (t.args.map (bD L cs))).known=true then[] else(t.args.map (eJ L cs)).flatten:=by
   rw[MX,if_neg jU,if_neg o2]
  rw[e1,e2];simp[IZ,o0,o1,o2];refine⟨by omega,?_⟩;refine aL.forRounds t.args.length (λk=>[.int k]) (λk=>[cells ((t.args.map (bD L cs)).take k++List.replicate (t.args.length-k) dX),lists ((t.args.map (eJ L cs)).take k++List.replicate (t.args.length-k) [])]) ?_ (λk hk=>?_) ?_
  .simp[cells,lists,ints]
  .have hw:=bq hk (by omega);have cY:=bR hk;have hr:=jF _ cY;have s1:=Xf (t.args.map (bD L cs)) dX (n:=t.args.length) (by simp) hk;have s2:=Xf (t.args.map (eJ L cs)) [] (n:=t.args.length) (by simp) hk;rw[<-s1,<-s2];have l1:((t.args.map (bD L cs)).take k++List.replicate (t.args.length-k) dX).length=t.args.length:=by simp;omega
   have l2:((t.args.map (eJ L cs)).take k++List.replicate (t.args.length-k) []).length=t.args.length:=by simp;omega
   have g1:(t.args.map (bD L cs))[k]'(by simpa using hk)=bD L cs t.args[k]:=by simp
   have g2:(t.args.map (eJ L cs))[k]'(by simpa using hk)=eJ L cs t.args[k]:=by simp
   rw[g1,g2];generalize (t.args.map (bD L cs)).take k++List.replicate (t.args.length-k) dX=A at*;generalize (t.args.map (eJ L cs)).take k++List.replicate (t.args.length-k) []=B at*;generalize bD L cs t.args[k]=c at*;generalize eJ L cs t.args[k]=d at*;simp[WU,Iy,hk];refine⟨_,hr,?_⟩;simp[hw,hk,l1,l2,cells,lists]
  .have hA:(t.args.map (bD L cs)).take t.args.length++List.replicate (t.args.length-t.args.length) dX=t.args.map (bD L cs):=by rw[PN,List.replicate_zero,vM,yc (by simp)]
   have hB:(t.args.map (eJ L cs)).take t.args.length++List.replicate (t.args.length-t.args.length) []=t.args.map (eJ L cs):=by rw[PN,List.replicate_zero,vM,yc (by simp)]
   have lA:(t.args.map (bD L cs)).length=t.args.length:=by simp
   have lB:(t.args.map (eJ L cs)).length=t.args.length:=by simp
   have va:∀l:List Tm,(∀a,a∈l->a∈t.args)->((l.map (eJ L cs)).flatten.length<=l.length*60):=by
    intro l
    induction l with
    |nil=>intro _;simp
    |cons a l ih=>
     intro h;have h1:=hnl a (h a (by simp));have h2:=ih (λb hb=>h b (by simp[hb]));rw[iz,aaR,mW,pQ];omega
   have va:=va t.args (λa h=>h);have hBg:∀m:Nat,(Option.map (eJ L cs) t.args[m]?).getD []=(t.args.map (eJ L cs)).getD m []:=λm=>by simp[aF]
   rw[hA,hB];generalize t.args.map (bD L cs)=A at*;generalize t.args.map (eJ L cs)=B at*;have g0:0<A.length:=by omega
   have yK:A[0]=aP A 0:=by simp[aP,g0]
   by_cases LH:t.op=6/\(aP A 0).known=true
   .obtain⟨o6,kn⟩:=LH;have hv:=h6 o6 kn;have hw:i64.wrap (2-(aP A 0).n)=2-(aP A 0).n:=aR (by omega);have h3:3<=t.args.length:=hlen.2.2 o6;rw[if_pos ⟨o6,kn⟩,if_pos ⟨o6,kn⟩];obtain⟨m,fH⟩:∃m:Nat,m=(2-(aP A 0).n).toNat:=⟨_,rfl⟩
    have Gc:m<A.length:=by omega
    have SB:m<B.length:=by omega
    simp[WU,Iy,o6,kn,g0,yK,hw,<-fH,Gc,SB,cells,lists];refine⟨by omega,by omega,by simp[aP,Gc],?_⟩;rw[hBg,aF,aX SB];rfl
   .rw[if_neg LH,if_neg LH];have aqF:=ayE t.op A (by omega) (by omega) (by omega) hb9 eE;have aqG:=akF B (by omega) (by omega);simp[WU,Iy,g0,yK];rw[if_neg LH];refine⟨_,aqF,?_⟩;cases e:(fT t.op A).known
    .have fI:fT t.op A=dX:=amG e;rw[fI];simp;exact aqG
    .have h:fT t.op A=⟨true,(fT t.op A).n⟩:=by rw[<-e]
     rw[h];simp[ints]
     try rfl
def nD (n:Nat)(g:Nat->Bool):Int:=if(List.range n).findIdx g<n then((List.range n).findIdx g:Nat) else-1
def GR (n:Nat)(g:Nat->Bool):(nD n g=-1/\∀k,k<n->g k=false)\/∃k:Nat,k<n/\nD n g=k/\g k=true/\∀i,i<k->g i=false:=by
 unfold nD;split
 .rename_i h;refine .inr ⟨_,h,rfl,?_,λi hi=>?_⟩
  .have:=List.findIdx_getElem (p:=g) (xs:=List.range n) (w:=by simpa using h);simpa using this
  .have:=List.not_of_lt_findIdx (p:=g) (xs:=List.range n) hi;simpa using this
 .rename_i h;refine .inl ⟨rfl,λk hk=>?_⟩;have:=List.not_of_lt_findIdx (p:=g) (xs:=List.range n) (i:=k) (by omega);simpa using this
def MA {n:Nat}{g:Nat->Bool}(h:∀k,k<n->g k=false):nD n g=-1:=by
 rcases GR n g with⟨h1,_⟩|⟨k,hk,_,h2,_⟩
 .exact h1
 .rw[h k hk] at h2;cases h2
def MB {n k:Nat}{g:Nat->Bool}(hk:k<n)(h:g k=true)(hj:∀i,i<k->g i=false):nD n g=k:=by
 rcases GR n g with⟨_,h1⟩|⟨m,hm,h1,h2,h3⟩
 .rw[h1 k hk] at h;cases h
 .rcases Nat.lt_trichotomy m k with h4|h4|h4
  .rw[hj m h4] at h2;cases h2
  .rw[h1,h4]
  .rw[h3 k h4] at h;cases h
def TL (n:Nat)(g:Nat->Bool):decide (0<=nD n g)=(List.range n).any g:=by
 rcases GR n g with⟨h1,h2⟩|⟨m,hm,h1,h2,h3⟩
 .rw[h1]
  symm
  simp;exact h2
 .rw[h1];simp;exact⟨m,hm,h2⟩
def akQ (l:List Rule)(f:Nat)(caps:List D)(g:Nat->Bool)(hg:∀k (hk:k<l.length),ah T f (uS l[k]::caps) (.bool (g k)))(hl:l.length<=4294967296):
 ah T 179 [rules l,.clo f caps] (.int (nD l.length g)):=by
 refine zyw 43 aAP ?_;simp[Zy];refine .scan l.length (λk=>g k=false) (λk=>[.int 0,.int k]) (λ_=>[]) ?_ (λk hk hj ho=>?_) (λk hk hj ho=>?_) (λhj=>?_)
 .simp
 .have hw:=bq hk hl;simp[WM,It,hk,hw];refine⟨_,_,⟨rfl,rfl⟩,_,hg k hk,?_⟩;simp[ho,hw]
 .have he:=MB hk (by simpa using ho) hj;simp[WM,It,hk,he];refine⟨_,_,⟨rfl,rfl⟩,_,hg k hk,?_⟩;simp[ho]
 .have he:=MA hj;simp[WM,It,he]
def akR (l:List Int)(f:Nat)(caps:List D)(g:Nat->Bool)(hg:∀k (hk:k<l.length),ah T f (.int l[k]::caps) (.bool (g k)))(hl:l.length<=4294967296):
 ah T 207 [ints l,.clo f caps] (.int (nD l.length g)):=by
 refine zyw 38 aAQ ?_;simp[Zz];refine .scan l.length (λk=>g k=false) (λk=>[.int 0,.int k]) (λ_=>[]) ?_ (λk hk hj ho=>?_) (λk hk hj ho=>?_) (λhj=>?_)
 .simp
 .have hw:=bq hk hl;simp[WN,Iu,hk,hw,ints];refine⟨_,_,⟨rfl,rfl⟩,_,hg k hk,?_⟩;simp[ho,hw]
 .have he:=MB hk (by simpa using ho) hj;simp[WN,Iu,hk,he,ints];refine⟨_,_,⟨rfl,rfl⟩,_,hg k hk,?_⟩;simp[ho]
 .have he:=MA hj;simp[WN,Iu,he,ints]
def akO (l:List Alter)(f:Nat)(caps:List D)(g:Nat->Bool)(hg:∀k (hk:k<l.length),ah T f (rK l[k]::caps) (.bool (g k)))(hl:l.length<=4294967296):
 ah T 206 [alters l,.clo f caps] (.int (nD l.length g)):=by
 refine zyw 26 aAN ?_;simp[Zw];refine .scan l.length (λk=>g k=false) (λk=>[.int 0,.int k]) (λ_=>[]) ?_ (λk hk hj ho=>?_) (λk hk hj ho=>?_) (λhj=>?_)
 .simp
 .have hw:=bq hk hl;simp[WK,Ir,hk,hw];refine⟨_,_,⟨rfl,rfl⟩,_,hg k hk,?_⟩;simp[ho,hw]
 .have he:=MB hk (by simpa using ho) hj;simp[WK,Ir,hk,he];refine⟨_,_,⟨rfl,rfl⟩,_,hg k hk,?_⟩;simp[ho]
 .have he:=MA hj;simp[WK,Ir,he]
def akI (l:List Int)(f:Nat)(caps:List D)(g:Nat->Bool)(hg:∀k (hk:k<l.length),ah T f (.int l[k]::caps) (.bool (g k)))(hl:l.length<=4294967296):
 ah T 197 [ints l,.clo f caps] (.bool ((List.range l.length).any g)):=by
 refine zyw 37 aAK ?_;simp[Zt];refine⟨_,akR l f caps g hg hl,?_⟩;have:=TL l.length g;simp[<-this]
def akG (l:List Alter)(f:Nat)(caps:List D)(g:Nat->Bool)(hg:∀k (hk:k<l.length),ah T f (rK l[k]::caps) (.bool (g k)))(hl:l.length<=4294967296):
 ah T 193 [alters l,.clo f caps] (.bool ((List.range l.length).any g)):=by
 refine zyw 25 aAI ?_;simp[Zr];refine⟨_,akO l f caps g hg hl,?_⟩;have:=TL l.length g;simp[<-this]
def tC (cs:List Cell)(t:Tm):Cell:=if(oq t).2=0 then bD 8 cs t else dX
def abV {t:Tm}(h:(oq t).2=0):cW 8 t<=60/\cd 8 t=((oq t).1,0):=by
 unfold oq at h ⊢;split at h
 .cases h
 .rename_i hm;rw[if_neg hm];exact⟨by omega,by rw[<-h]⟩
def ayC (t:Tm)(cs:List Cell)(ht:t.OK):ah T 161 [dP t,cells cs] (cV (tC cs t)):=by
 refine zyw 51 aA0 ?_;simp[ZK,tC];refine⟨_,aj3 t ht,?_⟩;by_cases h:(oq t).2=0
 .obtain⟨h1,h2⟩:=abV h;simp[h];refine⟨_,aj5 8 cs t _ ht h1 h2,?_⟩;simp
  try rfl
 .simp[h]
  try rfl
def Ue:List Int:=[6,7,10,12,13,14,15,16,20,21]
def sV (ask:Int):Int×Bool:=if ask<0\/22<=ask then(0,false) else if hasB Ue ask then(0,true) else(1,true)
def Vj (ask:Int):ah T 157 [.int ask] (.tup [.int (sV ask).1,.bool (sV ask).2]):=by
 refine zyw 31 azy ?_;simp[Yc,sV];by_cases h0:ask<0
 .simp[h0]
 by_cases h1:22<=ask
 .simp[h0,h1]
 simp[h0,h1];refine⟨_,xR Ue ask (by decide),?_⟩;cases h:hasB Ue ask<;>simp[h]
def MY:Tm:=⟨0,0,[]⟩
def xt (o:Order)(ask:Int)(k:Nat):Bool:=decide ((o.rules.getD k default).ask=ask)
def IJ (o:Order)(i:Int):Tm:=(o.rules.getD i.toNat default).term
def findF (o:Order)(ask:Int):Tm×Int:=
 if(sV ask).2=false then(MY,1) else if nD o.rules.length (xt o ask)<0 then(MY,4) else
    if(oq (IJ o (nD o.rules.length (xt o ask)))).2≠0\/(oq (IJ o (nD o.rules.length (xt o ask)))).1≠(sV ask).1 then(MY,11) else(IJ o (nD o.rules.length (xt o ask)),0)
def ajG {o:Order}(ho:o.OK){m:Nat}(hm:m<o.rules.length):o.rules[m].term.OK:=(ho.2.2 _ (bR hm)).2
def Ud:MY.OK:=by
 exact .mk 0 0 [] (by unfold bh;omega) (by unfold bh;omega) (by decide) (λ_ h=>by cases h)
def aou {o:Order}(ho:o.OK)(ask:Int):(findF o ask).1.OK:=by
 unfold findF;split
 .exact Ud
 split
 .exact Ud
 split
 .exact Ud
 .rename_i h _;rcases GR o.rules.length (xt o ask) with⟨h1,h2⟩|⟨m,hm,h1,h2,h3⟩
  .exact absurd (by rw[h1];decide) h
  .rw[h1];simp[IJ,hm];exact ajG ho hm
def aos (r:Rule)(ask:Int):ah T 180 [uS r,.ref (.int ask)] (.bool (decide (r.ask=ask))):=by
 refine zyw 42 azz ?_;simp[Ye]
def avV (o:Order)(ask:Int)(ho:o.OK)(hl:o.rules.length<=4294967296):ah T 160 [kD o,.int ask] (.tup [dP (findF o ask).1,.int (findF o ask).2]):=by
 refine zyw 41 azA ?_;simp[Yd,findF];refine⟨_,Vj ask,?_⟩;cases h0:(sV ask).2
 .simp[h0]
  try rfl
 simp[h0];refine⟨_,akQ o.rules 180 [.ref (.int ask)] (xt o ask) (λk hk=>by simpa [xt,hk] using aos o.rules[k] ask) hl,?_⟩;rcases GR o.rules.length (xt o ask) with⟨h1,h2⟩|⟨m,hm,h1,h2,h3⟩
 .rw[h1];simp
  try rfl
 .rw[h1];have Gg:¬((m:Int)<0):=by omega
  have htm:o.rules[m].term.OK:=ajG ho hm;simp[hm,IJ,Gg];refine⟨_,aj3 _ htm,?_⟩;by_cases h4:(oq o.rules[m].term).2=0<;>by_cases h5:(oq o.rules[m].term).1=(sV ask).1<;>simp[h4,h5]<;>try rfl
def rn (o:Order)(ask:Int)(cs:List Cell):Cell×Int:=
 if(findF o ask).2≠0 then(dX,(findF o ask).2) else
    (if(sV ask).1=0/\(tC cs (findF o ask).1).known=true then⟨true,min (max (tC cs (findF o ask).1).n 0) 20000⟩ else tC cs (findF o ask).1,0)
def avT (o:Order)(ask:Int)(cs:List Cell)(ho:o.OK)(hl:o.rules.length<=4294967296):ah T 110 [kD o,.int ask,cells cs] (.tup [cV (rn o ask cs).1,.int (rn o ask cs).2]):=by
 refine zyw 40 azx ?_;simp[Yb];refine⟨_,avV o ask ho hl,?_⟩;have hf:(findF o ask).1.OK:=aou ho ask;by_cases h:(findF o ask).2=0
 .simp[h,rn];refine⟨_,ayC _ cs hf,_,Vj ask,?_⟩;generalize tC cs (findF o ask).1=c;obtain⟨kn,n⟩:=c;by_cases h1:(sV ask).1=0
  .cases kn
   .simp[h1,cV]
   .by_cases h2:n<0
    .have:min (max n 0) 20000=0:=by omega
     simp[h1,cV,h2,this];rfl
    .by_cases h3:20000<n
     .have:min (max n 0) 20000=20000:=by omega
      simp[h1,cV,h2,h3,this];rfl
     .have:min (max n 0) 20000=n:=by omega
      simp[h1,cV,h2,h3,this];rfl
  .simp[h1,cV]
 .simp[h,rn]
  try rfl
def ajs (b:Bool):ah T 195 [.bool b] (cV (ew b)):=by
 refine zyw 29 aAF ?_;cases b<;>simp[Zo,ew]<;>rfl
def jd (kind sign:Int)(x:Fact):Bool:=decide (x.kind=kind)&&decide (x.at_=sign)
def cH (f:File)(kind sign:Int):Cell:=match f.facts.find? (jd kind sign) with|none=>dX|some x=>ew (decide (x.n≠0))
def yI {α:Type}{p:α->Bool}:∀{l:List α} {k:Nat} (hk:k<l.length),p l[k]=true->(∀j (hj:j<k),p (l[j]'(by omega))=false)->l.find? p=some l[k]
 |a::l,0,hk,h,hj=>by simp at h;simp[h]
 |a::l,k+1,hk,h,hj=>by
  have h0:=hj 0 (by omega);simp at h0;simp only[Py,h0,List.getElem_cons_succ];exact yI (by simpa using hk) (by simpa using h) (λj bz=>by simpa using hj (j+1) (by omega))
def B5 {α:Type}{p:α->Bool}{l:List α}(h:∀j (hj:j<l.length),p l[j]=false):l.find? p=none:=by
 rw[xX];intro x hx;obtain⟨j,hj,rfl⟩:=fe hx;rw[h j hj];decide
def ID (f:File)(kind sign:Int)(hl:f.facts.length<=4294967296):ah T 196 [bW f,.int kind,.int sign] (cV (cH f kind sign)):=by
 refine zyw 30 aAB ?_;simp[Zl];refine .scan f.facts.length (λk=>jd kind sign (f.facts.getD k default)=false) (λk=>[.int k]) (λ_=>[cV dX]) ?_ (λk hk hj ho=>?_) (λk hk hj ho=>?_) (λhj=>?_)
 .simp
 .have hw:=bq hk hl;simp[hk,jd] at ho;by_cases h1:f.facts[k].kind=kind<;>by_cases h2:f.facts[k].at_=sign
  .exact absurd h2 (ho h1)
  all_goals simp[WG,Io,hk,hw,h1,h2]
 .have hw:=bq hk hl;have hf:cH f kind sign=ew (decide (f.facts[k].n≠0)):=by
   unfold cH;rw[yI hk (by simpa [hk] using ho) (λj bz=>by have:=hj j bz;simpa [show j<f.facts.length by omega] using this)]
  simp[hk,jd] at ho;simp[WG,Io,hk,hw,ho,hf];refine⟨_,ajs _,?_⟩;simp
  try rfl
 .have hf:cH f kind sign=dX:=by
   unfold cH;rw[B5 (λj bz=>by have:=hj j bz;simpa [bz] using this)]
  simp[WG,Io,hf]
  try rfl
def gI (r:Realm)(c:Int):Int:=if aC c r.cities.length=true then(r.cities.getD c.toNat default).order else-1
def sO (r:Realm)(c:Int):ah T 123 [aQ r,.int c] (.int (gI r c)):=by
 refine zyw 27 aAp ?_;simp[YZ,gI];refine⟨_,gm c r.cities.length,?_⟩;cases h:aC c r.cities.length
 .simp[h]
 .simp[aC] at h;have h1:c.toNat<r.cities.length:=by omega
  simp[h,h1]
def vF (day:Int)(l:List Sign):List Sign:=l.takeWhile λs=>decide (s.day<=day)
def upA (day:Int)(l:List Act):List Act:=l.takeWhile λs=>decide (s.day<=day)
def tj (n:Nat)(a:Alter):Bool:=decide (a.at_<=(n:Int))
def mw (n:Nat)(x:Fact):Bool:=aC x.at_ n
def bx (f:File)(day:Int):File:=
 ⟨f.bill,vF day f.signs,f.alters.filter (tj (vF day f.signs).length),upA day f.acts,f.facts.filter (mw (vF day f.signs).length)⟩
def Pj {α:Type}(p:α->Bool):∀(l:List α),∃m,m<=l.length/\l.takeWhile p=l.take m/\(∀k (hk:k<l.length),k<m->p l[k]=true)/\(∀hk:m<l.length,p l[m]=false)
 |[]=>⟨0,by simp,by simp,λk hk=>by simp at hk,λhk=>by simp at hk⟩
 |a::l=>by
  by_cases h:p a=true
  .obtain⟨m,h1,h2,h3,h4⟩:=Pj p l;refine⟨m+1,by simp;omega,by simp[h,h2],λk hk hm=>?_,λhk=>?_⟩
   .cases k with
    |zero=>simpa using h
    |succ k=>simpa using h3 k (by simpa using hk) (by omega)
   .simpa using h4 (by simpa using hk)
  .refine⟨0,by simp,by simp[h],λk hk hm=>by omega,λhk=>by simpa using h⟩
def DV {α:Type}(p:α->Bool)(l:List α){k:Nat}(hk:k<l.length):(l.take (k+1)).filter p=(l.take k).filter p++if p l[k] then[l[k]] else[]:=by
 rw[iX hk,Px]
 congr 1
 cases h:p l[k]<;>simp[h]
def Es (b:Bill)(w x y z:D):D:=.agg [.int b.drawer,.int b.drawee,.int b.payee,.int b.sum,.int b.currency,.int b.tenor.kind,.int b.tenor.n,.int b.tenor.unit,.int b.day,.int b.city,.int b.pay,.int b.need,.int b.rate,.int b.flags,.int b.parts,w,x,y,z]
def qo {α:Type}(l:List α):D:=match l with|[]=>.list []|_=>.none
@[simp] def aHh {α:Type}:qo ([]:List α)=.list []:=rfl
@[simp] def aHg {α:Type}(l:List α)(x:α):qo (l++[x])=.none:=by cases l<;>rfl
def WY (f:File)(day:Int)(h1:f.signs.length<=4294967295)(h2:f.acts.length<=4294967295)(h3:f.alters.length<=4294967295)(h4:f.facts.length<=4294967295):ah T 34 [bW f,.int day] (bW (bx f day)):=by
 refine zyw 17 aAA ?_;simp[Zk];obtain⟨m,hm,hS,hS1,wv⟩:=Pj (λs:Sign=>decide (s.day<=day)) f.signs;obtain⟨n,hn,hA,hA1,hA2⟩:=Pj (λs:Act=>decide (s.day<=day)) f.acts;refine aL.forRounds m (λk=>[.int k]) (λk=>[signs (f.signs.take k),Es f.bill (qo (f.signs.take k)) (.list []) (.list []) (.list [])]) ?_ (λk hk=>?_) ?_
 .simp[Es,signs]
  try rfl
 .have bf:k<f.signs.length:=by omega
  have hw:=bq bf (by omega);have hd:=hS1 k bf hk;simp at hd;have gA:¬day<f.signs[k].day:=by omega
  have hle:(k:Int)+1<=4294967296:=by omega
  have ht:=iX bf;rw[ht];have hlen:(f.signs.take k).length=k:=by simp;omega
  generalize f.signs.take k=A at*;simp[WB,Ii,bf,hw,gA,hlen];exact⟨hle,by simp[signs],rfl⟩
 have hSl:(f.signs.take m).length<=4294967295:=by rw[dG];omega
 have hAt:bx f day=⟨f.bill,f.signs.take m,f.alters.filter (tj (f.signs.take m).length),f.acts.take n,f.facts.filter (mw (f.signs.take m).length)⟩:=by
  unfold bx vF upA;rw[hS,hA]
 rw[hAt];generalize f.signs.take m=S at*;have hAl:(f.acts.take n).length<=4294967295:=by rw[dG];omega
 by_cases fH:m<f.signs.length
 case' pos=>
  have hd:=wv fH;simp at hd;simp[WB,Ii,fH,hd];generalize D.bool true=bb
 case' neg=>
  have Gb:m=f.signs.length:=by omega
  simp[WB,Ii,fH,Gb];generalize D.bool false=bb
 all_goals
  refine aL.forRounds n (λk=>[.int k]) (λk=>[acts (f.acts.take k),Es f.bill (qo S) (.list []) (qo (f.acts.take k)) (.list [])]) ?_ (λk hk=>?_) ?_
  .simp[acts]
  .have bf:k<f.acts.length:=by omega
   have hw:=bq bf (by omega);have hd:=hA1 k bf hk;simp at hd;have gA:¬day<f.acts[k].day:=by omega
   have hle:(k:Int)+1<=4294967296:=by omega
   have ht:=iX bf;rw[ht];have hlen:(f.acts.take k).length=k:=by simp;omega
   generalize f.acts.take k=A at*;simp[WC,Ij,bf,hw,gA,hlen];exact⟨hle,by simp[acts],rfl⟩
  generalize f.acts.take n=A at*;by_cases lW:n<f.acts.length
  case' pos=>
   have hd:=hA2 lW;simp at hd;simp[WC,Ij,lW,hd];generalize D.bool true=bc
  case' neg=>
   have rZ:n=f.acts.length:=by omega
   simp[WC,Ij,lW,rZ];generalize D.bool false=bc
  all_goals
   refine aL.forRounds f.alters.length (λk=>[.int k]) (λk=>[Es f.bill (qo S) (qo ((f.alters.take k).filter (tj S.length))) (qo A) (.list []),alters ((f.alters.take k).filter (tj S.length))]) ?_ (λk hk=>?_) ?_
   .simp[alters]
   .have hw:=bq hk (by omega);have ht:=DV (tj S.length) f.alters hk;rw[ht];have hlen:((f.alters.take k).filter (tj S.length)).length<=k:=ff (lL _ _) (by simp;omega);generalize (f.alters.take k).filter (tj S.length)=B at*;by_cases hd:f.alters[k].at_<=(S.length:Int)
    .simp[WD,Ik,tj,hk,hw,hd];exact⟨by omega,rfl,by simp[alters]⟩
    .simp[WD,Ik,tj,hk,hw,hd]
   simp[WD,Ik];generalize f.alters.filter (tj S.length)=B at*;refine aL.forRounds f.facts.length (λk=>[.int k]) (λk=>[Es f.bill (qo S) (qo B) (qo A) (qo ((f.facts.take k).filter (mw S.length))),facts ((f.facts.take k).filter (mw S.length))]) ?_ (λk hk=>?_) ?_
   .simp[facts]
   .have hw:=bq hk (by omega);have ht:=DV (mw S.length) f.facts hk;rw[ht];have hlen:((f.facts.take k).filter (mw S.length)).length<=k:=ff (lL _ _) (by simp;omega);generalize (f.facts.take k).filter (mw S.length)=C at*;cases hd:aC f.facts[k].at_ S.length
    .simp[WE,Il,mw,hk,hw,hd];refine⟨_,sP _ _,?_⟩;simp[hd,hw]
    .simp[WE,Il,mw,hk,hw,hd];refine⟨_,sP _ _,?_⟩;simp[hd,hw];exact⟨by omega,rfl,by simp[facts]⟩
   simp[WE,Il];rfl
def CX:List Int->Int
 |[]=>-1
 |x::l=>l.foldl min x
def ak0 (x:Int)(l:List Int)(hl:l.length<4294967296):ah T 78 [ints (x::l)] (.int (CX (x::l))):=by
 refine zyw 64 aAT ?_;have h0:¬((l.length:Int)+1<1):=by omega
 simp[ZC,h0,CX,ints];refine aL.forRounds l.length (λk=>[.int ((l.take k).foldl min x),.int ((k:Int)+1)]) (λk=>[]) ?_ (λk hk=>?_) ?_
 .simp
 .have hw:i64.wrap ((k:Int)+1+1)=(k:Int)+1+1:=aR (by omega);rw[iX hk,s9];generalize (l.take k).foldl min x=y;have ht:((k:Int)+1).toNat=k+1:=by omega
  have af:(k:Int)+1<(l.length:Int)+1:=by omega
  simp[ajn,Oz,hk,hw,ht,af];refine⟨by omega,?_⟩;by_cases h:l[k]<y
  .simp[h];omega
  .simp[h];omega
 .simp[ajn,Oz]
def nO (f:File)(n:Nat):List Int:=if f.bill.tenor.kind=1 then((f.signs.take n).filter (λs=>decide (s.kind=1))).map (·.day) else[]
def mi (f:File)(n:Nat):List Int:=if f.bill.tenor.kind=1 then((f.acts.take n).filter (λs=>decide (s.kind=1))).map (·.day) else[]
def xw (f:File)(a:Act):Bool:=decide (f.bill.tenor.kind=0)&&decide (a.kind=2)
def nN (f:File):Int:=match f.acts.find? (xw f) with|some a=>a.day|none=>CX (nO f f.signs.length++mi f f.acts.length)
def axw (f:File)(h1:f.signs.length<=100000)(h2:f.acts.length<=100000):ah T 38 [bW f] (.int (nN f)):=by
 refine zyw 63 aAC ?_;simp[Zm];refine aL.forRounds f.signs.length (λk=>[.none,.int k]) (λk=>[ints (nO f k)]) ?_ (λk hk=>?_) ?_
 .simp[nO,ints]
 .have hw:=bq hk (by omega);have hs:nO f (k+1)=nO f k++if f.bill.tenor.kind=1/\f.signs[k].kind=1 then[f.signs[k].day] else[]:=by
   unfold nO;by_cases h:f.bill.tenor.kind=1
   .simp only[if_pos h,DV _ _ hk,pR,h,true_and]
    congr 1
    by_cases h':f.signs[k].kind=1<;>simp[h']
   .simp[h]
  have hlen:(nO f k).length<=k:=by
   unfold nO;split
   .rw[ed];exact ff (lL _ _) (by simp;omega)
   .simp
  rw[hs];generalize nO f k=A at*;by_cases hc:f.bill.tenor.kind=1/\f.signs[k].kind=1
  .simp[WH,Ip,hk,hw,hc];exact⟨by omega,by simp[ints]⟩
  .simp[WH,Ip,hk,hw,hc]
 .have hlS:(nO f f.signs.length).length<=100000:=by
   unfold nO;split
   .rw[ed];exact ff (lL _ _) (by simp;omega)
   .simp
  have hE:nN f=match f.acts.find? (xw f) with|some a=>a.day|none=>CX (nO f f.signs.length++mi f f.acts.length):=rfl
  generalize nO f f.signs.length=A at*;simp[WH,Ip];refine aL.scan f.acts.length (λk=>xw f (f.acts.getD k default)=false) (λk=>[.int 0,.none,.int k]) (λk=>[ints (A++mi f k)]) ?_ (λk hk hj ho=>?_) (λk hk hj ho=>?_) (λhj=>?_)
  .simp[mi,ints]
  .have hw:=bq hk (by omega);have hs:mi f (k+1)=mi f k++if f.bill.tenor.kind=1/\f.acts[k].kind=1 then[f.acts[k].day] else[]:=by
        unfold mi;by_cases h:f.bill.tenor.kind=1
        .simp only[if_pos h,DV _ _ hk,pR,h,true_and]
         congr 1
         by_cases h':f.acts[k].kind=1<;>simp[h']
        .simp[h]
   have hlen:(mi f k).length<=k:=by
        unfold mi;split
        .rw[ed];exact ff (lL _ _) (by simp;omega)
        .simp
   rw[hs];generalize mi f k=B at*;simp[xw,hk] at ho;by_cases hc:f.bill.tenor.kind=1/\f.acts[k].kind=1
   .simp[Iq,Ae,hk,hw,hc];exact⟨by omega,by simp[ints]⟩
   .have hn:¬(f.bill.tenor.kind=0/\f.acts[k].kind=2):=λh=>ho h.1 h.2;simp[Iq,Ae,hk,hw,hc,hn]
  .have hf:nN f=f.acts[k].day:=by
        rw[hE,yI hk (by simpa [hk] using ho) (λj bz=>by have:=hj j bz;simpa [show j<f.acts.length by omega] using this)]
   simp[xw,hk] at ho;simp[Iq,Ae,hk,ho,hf]
  .have hf:nN f=CX (A++mi f f.acts.length):=by
        rw[hE,B5 (λj bz=>by have:=hj j bz;simpa [bz] using this)]
   have hlA:(mi f f.acts.length).length<=100000:=by
        unfold mi;split
        .rw[ed];exact ff (lL _ _) (by simp;omega)
        .simp
   rw[hf];have hL:(A++mi f f.acts.length).length<=200000:=by rw[mW];omega
   generalize A++mi f f.acts.length=L at*;cases L with
   |nil=>simp[Iq,Ae,CX,ints]
   |cons x l=>
    have au:¬((l.length:Int)+1=0):=by omega
    simp[Iq,Ae,au];exact ak0 x l (by simp at hL;omega)
def jc (g:Nat->Cell):D:=.list ((List.range 20).map λi=>cV (g i))
def abN {g g':Nat->Cell}(h:∀i,i<20->g i=g' i):jc g=jc g':=by
 unfold jc
 congr 1
 exact uG λi hi=>by rw[h i (by simpa using hi)]
def abO (g:Nat->Cell)(k:Nat)(c:Cell):D.list ((jc g).l.set k (cV c))=jc (λi=>if i=k then c else g i):=by
 unfold jc
 congr 1
 show((List.range 20).map λi=>cV (g i)).set k (cV c)=_;apply Pw
 .simp
 .intro i h1 h2;simp at h2;rw[List.getElem_set];by_cases h:k=i
  .simp[h]
  .have h':¬i=k:=λe=>h e.symm;simp[h,h']
@[simp] def aE9 (g:Nat->Cell):(jc g).l.length=20:=by
  show((List.range 20).map λi=>cV (g i)).length=20;simp
def JL (g:Nat->Cell){k:Nat}(hk:k<20):(jc g).l[k]?.getD D.none=cV (g k):=by
 show((List.range 20).map λi=>cV (g i))[k]?.getD D.none=cV (g k);simp[hk]
def amg (g:Nat->Cell){k:Nat}(hk:k<(jc g).l.length):(jc g).l[k]=cV (g k):=by
 have h:=JL g (k:=k) (by simpa using hk);rw[aX hk] at h;exact h
def ami (g:Nat->Cell)(k:Nat)(c:Cell):(jc g).l.set k (cV c)=(jc (λi=>if i=k then c else g i)).l:=congrArg D.l (abO g k c)
def amh (g:Nat->Cell):D.list (jc g).l=jc g:=rfl
@[simp] def aI8 (x:Cell)(b:Bool)(n:Int):xy (cV x) 0 (D.agg [D.bool b,D.int n])=cV ⟨b,n⟩:=zyz
def B4 {α:Type}(l:List (Int×α))(val:α->Cell)(g0:Nat->Cell)(i:Nat):Cell:=match l.find? (λp=>decide (p.1=(i:Int))) with|some p=>val p.2|none=>g0 i
def ud {α:Type}(enc:α->D)(p:Int×α):D:=.tup [.int p.1,enc p.2]
def afL {α:Type}{J o:Nat}{ps de:List Nat}{a:PC}{O:Env}{Q:Out->Prop}(l:List (Int×α))(enc:α->D)(val:α->Cell)(g0:Nat->Cell)
 (nd:∀p q,p∈l->q∈l->p.1=q.1->p=q) (W6:∀p,p∈l->0<=p.1) (he:O.o J=.tup [.list [],.map (l.map λp=>(.int p.1,enc p.2))]) (h0:O.o o=jc g0)
 (step:∀p,p∈l->∀g done,aH T (sS [o] a) ((O.put ps (de.map (ud enc p).tget) [o] [jc g]).setO J (.tup [.list (done++[ud enc p]),.map (l.map λp=>(.int p.1,enc p.2))])) (λy=>∃O',y=.next O'/\O'.o o=.list ((jc g).l.set p.1.toNat (cV (val p.2)))))
 (last:Q (.next (O.put [] [] [o] [jc (B4 l val g0)]))):aL T (.meach J ps de [o] a) O Q:=by
 have oZ:ju (.map (l.map λp=>((D.int p.1,enc p.2):D×D)))=l.map (ud enc):=by
  simp[ju,ud]
 refine .meachR _ he (λdone vo=>∃g:Nat->Cell,vo=[jc g]/\(∀p,p∈l->ud enc p∈done->g p.1.toNat=val p.2)/\∀i:Nat,(∀p,p∈l->ud enc p∈done->p.1≠i)->g i=g0 i) ⟨g0,by simp[h0],(λp _ h=>by cases h),λi _=>rfl⟩ (λdone x rest vo hp ⟨g,hv,jY,iL⟩=>?_) ⟨_,λdone hp vo ⟨g,hv,jY,iL⟩=>?_,last⟩
 .subst hv;rw[oZ] at hp;have hx:x∈l.map (ud enc):=hp.subset (by simp);obtain⟨p,fK,rfl⟩:=bY.mp hx;refine AO _ (λy ⟨O',e,ho⟩=>⟨O',e,λi=>if i=p.1.toNat then val p.2 else g i,by simp[ho,abO],λq hq S9=>?_,λi hi=>?_⟩) (step p fK g done)
  .have y9:=W6 q hq;have se:=W6 p fK;by_cases h:q.1=p.1
   .rw[nd q p hq fK h];simp
   .show(if q.1.toNat=p.1.toNat then val p.2 else g q.1.toNat)=val q.2;rw[if_neg (by omega)];rcases dO.mp S9 with h1|h1
    .exact jY q hq h1
    .simp[ud] at h1;exact absurd h1.1 h
  .have se:=W6 p fK;have dg:=hi p fK (by simp);show(if i=p.1.toNat then val p.2 else g i)=g0 i;rw[if_neg (by omega)];exact iL i λq hq S9=>hi q hq (by simp[S9])
 .rw[hv,oZ] at*
  congr 1
  refine abN λi hi=>?_;unfold B4;cases hf:l.find? (λp=>decide (p.1=(i:Int))) with
  |some p=>
   have fK:=Eh hf;have Mj:p.1=(i:Int):=by simpa using Pz hf
   have:=jY p fK (hp.symm.subset (AL fK));simp only;rw[<-this,Mj];rfl
  |none=>
   refine iL i λp fK _=>?_;have:=xX.mp hf p fK;simpa using this
@[simp] def aHM (a b:Int):eQ (D.int a) (D.int b)=decide (a=b):=by
  show((a==b)&&true)=decide (a=b);rw[Bool.and_true];by_cases h:a=b<;>simp[h]
def Fz (n k:Int):Bool:=decide (bV .and .i64 n k≠0)
def zr (s:Sign)(due:Int):Int:=if due=-1 then 0 else s.day-due
def P1 (f:File)(sign:Int):Bool:=(List.range f.alters.length).any λk=>decide ((f.alters.getD k default).at_<=sign)
def jE (c:Case):Int:=if c.holder<0 then 0 else c.holder
def pE (c:Case)(s:Sign):List (Int×Int):=[(0,c.file.bill.sum),(1,c.file.bill.parts),(2,c.file.bill.tenor.kind),(3,c.file.bill.rate),(4,s.kind),(5,c.defence),(6,zr s c.due)]
def qU (r:Realm)(c:Case)(s:Sign):List (Int×Bool):=[(7,Fz c.file.bill.flags 1),(8,decide (c.file.bill.payee=-1)),(9,Fz c.file.bill.flags 4),(10,Fz c.file.bill.flags 2),(11,decide (gI r c.file.bill.city≠gI r c.file.bill.pay)),(12,P1 c.file c.sign),(13,Fz s.flags 1),(14,decide (0<zr s c.due))]
def tH (r:Realm)(c:Case)(s:Sign):List Cell:=
 (pE c s).map (λp=>⟨true,p.2⟩)++(qU r c s).map (λp=>ew p.2)++
    [cH c.file 0 c.sign,cH c.file 1 c.sign,cH c.file 2 c.sign,cH c.file 3 (jE c),cH c.file 4 (jE c)]
@[simp] def aEI (x:Case):kA 19 (fV x)=bW x.file:=zyz
@[simp] def aEG (x:Case):kA 15 (fV x)=dI x.file.bill:=zyz
@[simp] def aEH (x:File):kA 15 (bW x)=dI x.bill:=zyz
def nk (c:Case):Bool:=aC c.sign c.file.signs.length&&decide (-1<=c.holder)&&decide (jE c<c.file.signs.length)&&(decide (c.due=-1)||aC c.due 100001)
def gp (r:Realm)(c:Case):List Cell:=if nk c=true/\aC (c.file.signs.getD c.sign.toNat default).day 100001=true then tH r c (c.file.signs.getD c.sign.toNat default) else[]
def axx (r:Realm)(c:Case)(h2:c.file.facts.length<=100000)(h3:c.file.alters.length<=100000):ah T 176 [aQ r,fV c] (cells (gp r c)):=by
 refine zyw 23 aAE ?_;cases hs:aC c.sign c.file.signs.length
 .have hv:gp r c=[]:=by unfold gp nk;rw[hs];simp
  rw[hv];simp[xC];refine⟨_,sP _ _,?_⟩;simp[hs];rfl
 by_cases hh:c.holder< -1
 .have hv:gp r c=[]:=by unfold gp nk;rw[hs];simp;intros;omega
  rw[hv];simp[xC,hh];exact⟨⟨_,sP _ _⟩,rfl⟩
 by_cases hm:(c.file.signs.length:Int)<=jE c
 .have hv:gp r c=[]:=by unfold gp nk;rw[hs];simp;intros;omega
  rw[hv];unfold jE at hm;simp[xC,hm];exact⟨⟨_,sP _ _⟩,rfl⟩
 by_cases hd:c.due≠-1/\aC c.due 100001=false
 .have hv:gp r c=[]:=by unfold gp nk;rw[hs];simp[hd]
  rw[hv];unfold jE at hm;obtain⟨bu,dA⟩:=hd;simp[xC,hh,hm,bu];refine⟨_,sP _ _,?_⟩;simp[hs,hh,hm,bu];refine⟨_,sP _ _,?_⟩;simp[hs,hh,hm,bu,dA];rfl
 have hcb:nk c=true:=by
  unfold nk;rw[hs];simp;refine⟨⟨by omega,by omega⟩,?_⟩;by_cases h:c.due=-1
  .exact .inl h
  .right;cases hb:aC c.due 100001
   .exact absurd ⟨h,hb⟩ hd
   .rfl
 have hlen:c.sign.toNat<c.file.signs.length:=by simp[aC] at hs;omega
 have dU:0<=c.sign/\c.sign<(c.file.signs.length:Int):=by simpa [aC] using hs
 obtain⟨s,GA⟩:∃s:Sign,s=c.file.signs[c.sign.toNat]:=⟨_,rfl⟩
 have lX:c.file.signs.getD c.sign.toNat default=s:=by rw[GA];simp[hlen]
 have hv:gp r c=if aC s.day 100001=true then tH r c s else[]:=by
  unfold gp;rw[lX,hcb];simp
 rw[hv];unfold jE at hm;by_cases FV:c.due=-1
 case' pos=>
  have adG:(c.due=-1)=True:=eq_true FV;simp[xC,hh,hm,adG];refine⟨_,sP _ _,?_⟩;simp[hs,hh,hm,adG,hlen,<-GA,dU]
 case' neg=>
  have FQ:aC c.due 100001=true:=by
   cases hb:aC c.due 100001
   .exact absurd ⟨FV,hb⟩ hd
   .rfl
  simp[xC,hh,hm,FV];refine⟨_,sP _ _,?_⟩;simp[hs,hh,hm,FV];refine⟨_,sP _ _,?_⟩;simp[hs,hh,hm,FV,FQ,hlen,<-GA,dU]
 all_goals
  refine⟨_,sP _ _,?_⟩;cases u9:aC s.day 100001
  .simp[u9];rfl
  simp[u9,fl];refine afL (pE c s) D.int (λn=>⟨true,n⟩) (λ_=>dX) ?_ ?_ ?_ ?_ (λp hp g done=>?_) ?_
  .intro p q hp hq h;simp[pE] at hp hq;rcases hp with rfl|rfl|rfl|rfl|rfl|rfl|rfl<;>rcases hq with rfl|rfl|rfl|rfl|rfl|rfl|rfl<;>first|rfl|(simp at h)
  .intro p hp;simp[pE] at hp;rcases hp with rfl|rfl|rfl|rfl|rfl|rfl|rfl<;>simp
  .have Sp:(if c.due=-1 then(0:Int) else i64.wrap (s.day-c.due))=zr s c.due:=by
        unfold zr;by_cases h:c.due=-1
        .simp[h]
        .have FQ:aC c.due 100001=true:=by
          cases hb:aC c.due 100001
          .exact absurd ⟨h,hb⟩ hd
          .rfl
         simp[aC] at FQ u9;rw[if_neg h,if_neg h];exact aR (by omega)
   simp[pE,fl,hlen,<-GA];rw[<-Sp];by_cases h:c.due=-1<;>simp[h]
  .simp[jc];rfl
  .have hr:0<=p.1/\p.1<20:=by
        simp[pE] at hp;rcases hp with rfl|rfl|rfl|rfl|rfl|rfl|rfl<;>simp
   have hk:p.1.toNat<20:=by omega
   simp[axl,WI,ud,JL g hk];exact hr
  have arC:∀k (hk:k<c.file.alters.length),ah T 194 (rK c.file.alters[k]::[.ref (fV c)]) (.bool (decide ((c.file.alters.getD k default).at_<=c.sign))):=λk hk=>by
   refine zyw 24 aAD ?_;simp[Zn,hk]
  simp;refine⟨_,akG c.file.alters _ _ _ arC (by omega),_,sO r _,_,sO r _,?_⟩;have Sp:(if c.due=-1 then(0:Int) else i64.wrap (s.day-c.due))=zr s c.due:=by
   unfold zr;by_cases h:c.due=-1
   .simp[h]
   .have FQ:aC c.due 100001=true:=by
     cases hb:aC c.due 100001
     .exact absurd ⟨h,hb⟩ hd
     .rfl
    simp[aC] at FQ u9;rw[if_neg h,if_neg h];exact aR (by omega)
  have Sn:cells (tH r c s)=jc (λi=>if i=15 then cH c.file 0 c.sign else if i=16 then cH c.file 1 c.sign else if i=17 then cH c.file 2 c.sign else if i=18 then cH c.file 3 (jE c) else if i=19 then cH c.file 4 (jE c) else B4 (qU r c s) ew (B4 (pE c s) (λn=>⟨true,n⟩) (λ_=>dX)) i):=by
   rfl
  generalize B4 (pE c s) (λn=>(⟨true,n⟩:Cell)) (λ_=>dX)=g1 at*;refine afL (qU r c s) D.bool ew g1 ?_ ?_ ?_ ?_ (λp hp g done=>?_) ?_
  .intro p q hp hq h;simp[qU] at hp hq;rcases hp with rfl|rfl|rfl|rfl|rfl|rfl|rfl|rfl<;>rcases hq with rfl|rfl|rfl|rfl|rfl|rfl|rfl|rfl<;>first|rfl|(simp at h)
  .intro p hp;simp[qU] at hp;rcases hp with rfl|rfl|rfl|rfl|rfl|rfl|rfl|rfl<;>simp
  .simp[qU,fl,hlen,<-GA,Fz];rw[<-Sp];by_cases h:c.due=-1<;>simp[h,P1]
  .simp
  .have hr:0<=p.1/\p.1<20:=by
        simp[qU] at hp;rcases hp with rfl|rfl|rfl|rfl|rfl|rfl|rfl|rfl<;>simp
   have hk:p.1.toNat<20:=by omega
   simp[axm,WJ,ud,JL g hk];refine⟨_,ajs _,?_⟩;simp[JL g hk];exact hr
  simp;generalize B4 (qU r c s) ew g1=g2 at*;have hho:(if c.holder<0 then D.int 0 else D.int c.holder)=D.int (jE c):=by
   unfold jE;split<;>rfl
  rw[hho];refine⟨_,ID _ _ _ (by omega),_,ID _ _ _ (by omega),_,ID _ _ _ (by omega),_,ID _ _ _ (by omega),_,ID _ _ _ (by omega),?_⟩;rw[Sn];simp only[amg,ayn,ami,amh];refine abN λi hi=>?_;by_cases Lz:i=15
  .subst Lz;simp
  by_cases LA:i=16
  .subst LA;simp
  by_cases LB:i=17
  .subst LB;simp
  by_cases LD:i=18
  .subst LD;simp
  by_cases h19:i=19
  .subst h19;simp
  simp[Lz,LA,LB,LD,h19]
def Nr (n:Nat)(x:Int):Bool:=decide (x<0)||decide ((n:Int)<=x)
def np (r:Realm)(a q:Int)(l:List Int):Bool:=
 !(decide (a<0)||decide ((r.orders.length:Int)<=a)||decide (q<0)||decide (22<=q)||decide (l.length≠5))&& !((List.range l.length).any λk=>Nr r.orders.length (l.getD k 0))
def aov (x n:Int):ah T 198 [.int x,.ref (.int n)] (.bool (decide (x<0)||decide (n<=x))):=by
 refine zyw 36 azm ?_;by_cases h:x<0<;>simp[X1,h]
def acN (r:Realm)(a q:Int)(l:List Int)(hl:l.length<=100000):ah T 177 [aQ r,.int a,.int q,ints l] (.bool (np r a q l)):=by
 refine zyw 35 azn ?_;by_cases h1:a<0
 .simp[xB,np,h1]
 by_cases h2:(r.orders.length:Int)<=a
 .simp[xB,np,h1,h2]
 by_cases h3:q<0
 .simp[xB,np,h1,h2,h3]
 by_cases h4:22<=q
 .simp[xB,np,h1,h2,h3,h4]
 by_cases h5:(l.length:Int)=5
 .have LG:l.length=5:=by omega
  simp[xB,h1,h2,h3,h4,LG];refine⟨_,akI l 198 [.ref (.int r.orders.length)] (λk=>Nr r.orders.length (l.getD k 0)) (λk hk=>by simpa [Nr,hk] using aov l[k] r.orders.length) (by omega),?_⟩;simp only[np,LG];simp[h1,h2,h3,h4]
 .have LG:¬l.length=5:=by omega
  simp[xB,np,h1,h2,h3,h4,LG];intro h;omega
def Rz {r:Realm}{a q:Int}{l:List Int}(h:np r a q l=true):(0<=a/\a<r.orders.length)/\l.length=5/\(∀x,x∈l->0<=x/\x<r.orders.length)/\∀b:Int,0<=b->b<r.orders.length->np r b q l=true:=by
 unfold np at h ⊢;rw[ao] at h;obtain⟨h1,h2⟩:=h;simp at h1;refine⟨by omega,h1.2,λx hx=>?_,λb gz df=>?_⟩
 .obtain⟨k,hk,rfl⟩:=fe hx;simp[Nr] at h2;have:=h2 k hk;simp[hk] at this;omega
 .rw[h2];simp;omega
def D9 (r:Realm):Prop:=∀o,o∈r.orders->o.choices.length<=100000/\∀ch,ch∈o.choices->0<=ch.by_/\ch.by_<5
def zt (q:Int)(ch:Choice):Bool:=decide (ch.ask=q)&&decide (ch.by_≠0)
def qF (r:Realm)(a:Int):Order:=r.orders.getD a.toNat default
def gH (r:Realm)(a q:Int)(l:List Int):Int×Bool:=
 (match(qF r a).choices.find? (zt q) with|some ch=>l.getD ch.by_.toNat 0|none=>a,match(qF r a).choices.find? (zt q) with|some ch=>ch.whole|none=>false)
def aaN (r:Realm)(rQ:D9 r)(a q:Int)(l:List Int)(hl:l.length<=100000)(hf:np r a q l=true):
 ah T 178 [aQ r,.int a,.int q,ints l] (.tup [.int (gH r a q l).1,.bool (gH r a q l).2])/\0<=(gH r a q l).1/\(gH r a q l).1<r.orders.length:=by
 obtain⟨ha,hl5,hx,_⟩:=Rz hf;have Ch:a.toNat<r.orders.length:=by omega
 obtain⟨aY,lb⟩:=rQ _ (bR Ch);obtain⟨o,ho⟩:∃o,o=r.orders[a.toNat]:=⟨_,rfl⟩
 rw[<-ho] at aY lb;have SQ:qF r a=o:=by rw[ho];simp[qF,Ch]
 unfold gH;rw[SQ];refine⟨?_,?_⟩
 .refine zyw 39 azl ?_;simp[X0];refine⟨_,acN r a q l hl,?_⟩;simp[hf,Ch,<-ho,ha];refine aL.scan o.choices.length (λk=>zt q (o.choices.getD k default)=false) (λk=>[.int 0,.bool false,.int k]) (λ_=>[]) ?_ (λk hk hj ar=>?_) (λk hk hj ar=>?_) (λhj=>?_)
  .simp
  .have hw:=bq hk (by omega);have hn:¬(o.choices[k].ask=q/\¬o.choices[k].by_=0):=by simpa [zt,hk] using ar
   simp[V8,HJ,Ch,<-ho,hk,hw,hn]
  .have lR:=yI hk (by simpa [hk] using ar) (λj bz=>by have:=hj j bz;simpa [show j<o.choices.length by omega] using this);rw[lR];have hc:o.choices[k].ask=q/\¬o.choices[k].by_=0:=by simpa [zt,hk] using ar
   have hb:=lb _ (bR hk);have FN:o.choices[k].by_.toNat<l.length:=by omega
   simp[V8,HJ,Ch,<-ho,hk,hc,ints,FN];omega
  .have lR:=B5 (l:=o.choices) (p:=zt q) (λj bz=>by have:=hj j bz;simpa [bz] using this);rw[lR];simp[V8,HJ,Ch,<-ho]
 .cases lR:o.choices.find? (zt q) with
  |none=>exact ha
  |some ch=>
   have hb:=lb _ (Eh lR);have FN:ch.by_.toNat<l.length:=by omega
   simp[FN];exact hx _ (bR FN)
def Vp:∀(N:Nat) (l:List Int),l.Nodup->(∀x,x∈l->0<=x/\x<(N:Int))->l.length<=N
 |0,l,hn,h=>by
  cases l with
  |nil=>simp
  |cons a l=>have:=h a (by simp);omega
 |N+1,l,hn,h=>by
  by_cases hm:(N:Int)∈l
  .have h1:=Vp N (l.erase (N:Int)) (hn.erase _) (λx hx=>by
    have dc:=(hn.mem_erase_iff).mp hx;have:=h x dc.2;have au:=dc.1;omega)
   rw[List.length_erase_of_mem hm] at h1;omega
  .have h1:=Vp N l hn (λx hx=>by
    have:=h x hx;have au:x≠(N:Int):=λe=>hm (e▸hx);omega)
   omega
def dv (l:List Int):Int:=l.getD (l.length-1) 0
def l7 (r:Realm)(q:Int)(l:List Int):Nat->List Int->List Int×Int
 |0,p=>(p,0)
 |n+1,p=>
  if(gH r (dv p) q l).1=dv p then(p,0)
  else if(gH r (dv p) q l).2=false\/(hasB p (gH r (dv p) q l).1=true/\(qF r (gH r (dv p) q l).1).accepts=true) then(p++[(gH r (dv p) q l).1],0)
  else if hasB p (gH r (dv p) q l).1=true then(p++[(gH r (dv p) q l).1],12)
  else l7 r q l n (p++[(gH r (dv p) q l).1])
def TQ (r:Realm)(q:Int)(l:List Int)(n:Nat)(p:List Int):l7 r q l (n+1) p=
 if(gH r (dv p) q l).1=dv p then(p,0)
 else if(gH r (dv p) q l).2=false\/(hasB p (gH r (dv p) q l).1=true/\(qF r (gH r (dv p) q l).1).accepts=true) then(p++[(gH r (dv p) q l).1],0)
 else if hasB p (gH r (dv p) q l).1=true then(p++[(gH r (dv p) q l).1],12)
 else l7 r q l n (p++[(gH r (dv p) q l).1]):=rfl
def j1 (r:Realm)(a q:Int)(l:List Int):List Int×Int:=if np r a q l=true/\l.getD 0 0=a then l7 r q l r.orders.length [a] else([],1)
def akW (r:Realm)(rQ:D9 r)(hn:r.orders.length<=100000)(a q:Int)(l:List Int)(hl:l.length<=100000):ah T 159 [aQ r,.int a,.int q,ints l] (.tup [ints (j1 r a q l).1,.int (j1 r a q l).2]):=by
 refine zyw 34 azk ?_;simp[XZ];refine⟨_,acN r a q l hl,?_⟩;cases hf:np r a q l
 .simp[j1,hf];rfl
 obtain⟨ha,hl5,hx,yQ⟩:=Rz hf;have h0:0<l.length:=by omega
 by_cases y1:l[0]=a
 .have hE:j1 r a q l=l7 r q l r.orders.length [a]:=by unfold j1;rw[if_pos ⟨hf,by simp[h0,y1]⟩]
  rw[hE];simp[h0,y1,ints];refine aL.forLoop (α:=Nat×List Int) (λs vr vo=>vr=[.list [],.int 0,.none]/\vo=[ints s.2]/\s.2.Nodup/\(∀x,x∈s.2->0<=x/\x<(r.orders.length:Int))/\s.2≠[]/\s.1+s.2.length=r.orders.length+1/\l7 r q l s.1 s.2=l7 r q l r.orders.length [a]) (λs=>s.1) (r.orders.length,[a]) ?_ ?_
  .simp[ints];exact ha
  .rintro⟨n,p⟩ vr vo ⟨rfl,rfl,bp,bO,au,hlen,F9⟩;simp only at*;have fK:p.length<=r.orders.length:=Vp _ p bp bO;have Gs:0<p.length:=Eg.mpr au;obtain⟨m,rfl⟩:∃m,n=m+1:=⟨n-1,by omega⟩
   have af:p.length-1<p.length:=by omega
   have lU:dv p=p[p.length-1]:=by simp[dv,af]
   have y2:=bO _ (bR af);rw[<-lU] at y2;obtain⟨RY,gE,gF⟩:=aaN r rQ (dv p) q l hl (yQ _ y2.1 y2.2);have SA:((p.length:Int)-1).toNat=p.length-1:=by omega
   have Tx:i64.wrap ((p.length:Int)-1)=(p.length:Int)-1:=aR (by omega);rw[<-F9,TQ];obtain⟨L,hL⟩:∃L,L=gH r (dv p) q l:=⟨_,rfl⟩
   rw[<-hL] at RY gE gF ⊢;obtain⟨to,whole⟩:=L;simp only at RY gE gF;have zh:to.toNat<r.orders.length:=by omega
   have SQ:qF r to=r.orders[to.toNat]:=by simp[qF,zh]
   simp only[SQ];simp[axj,V7,Tx,SA,af,<-lU,ints];refine⟨by omega,_,RY,?_⟩;by_cases h1:to=dv p
   .simp[h1]
   simp[h1];refine⟨_,xR p to (by omega),by omega,?_⟩;cases whole
   .simp
   cases h2:hasB p to
   .have cT:to∉p:=λhm=>by
     have:hasB p to=true:=by simp[hasB,hm]
     rw[h2] at this;cases this
    simp[h2];refine⟨m,by omega,p++[to],by simp,?_,?_,by simp,by simp;omega,rfl⟩
    .exact Jm.mpr ⟨bp,by simp,λx hx y hy=>by simp at hy;subst hy;exact λe=>cT (e▸hx)⟩
    .intro x hx;rcases dO.mp hx with h|h
     .exact bO x h
     .simp at h;subst h;exact⟨gE,gF⟩
   .cases h3:r.orders[to.toNat].accepts<;>simp[h2,h3,zh]<;>omega
 .have hE:j1 r a q l=([],1):=by unfold j1;rw[if_neg (by simp[h0,y1])]
  rw[hE];simp[h0,y1];rfl
def eT (f:File)(i:Int):Sign:=f.signs.getD i.toNat default
def mG (r:Realm)(forum:Int)(c:Case):List Int:=[forum,gI r (eT c.file c.sign).city,gI r c.file.bill.pay,gI r c.file.bill.city,gI r (r.firms.getD (eT c.file c.sign).who.toNat default).city]
def rp (r:Realm)(forum:Int)(c:Case):Prop:=(eT c.file c.sign).who<0\/(r.firms.length:Int)<=(eT c.file c.sign).who\/forum<0\/(r.orders.length:Int)<=forum
instance (r:Realm) (forum:Int) (c:Case):Decidable (rp r forum c):=by unfold rp;infer_instance
def jJ (r:Realm)(forum:Int)(c:Case):List Int:=if rp r forum c then[] else if hasB (mG r forum c) (-1)=true then[] else mG r forum c
@[simp] def aE2 (r:Realm)(x:Int):AS (aQ r) x=gI r x:=by
  unfold AS gI aC;by_cases h:0<=x/\x<(r.cities.length:Int)
  .have hx:x.toNat<r.cities.length:=by omega
   rw[if_pos (by simpa using h),if_pos (by simpa using h)];simp[hx]
  .rw[if_neg (by simpa using h),if_neg (by simpa using h)]
def aia (r:Realm)(forum:Int)(c:Case)(h1:c.sign.toNat<c.file.signs.length):Vq [aQ r,.int forum,fV c]=ints (jJ r forum c):=by
 have hs:eT c.file c.sign=c.file.signs[c.sign.toNat]:=by simp[eT,h1]
 unfold Vq jJ;simp[h1];by_cases hb:rp r forum c
 .rw[if_pos (by simpa [rp,hs] using hb),if_pos hb];rfl
 .rw[if_neg (by simpa [rp,hs] using hb),if_neg hb];have Mr:(eT c.file c.sign).who.toNat<r.firms.length:=by unfold rp at hb;omega
  have aeO:c.file.signs[c.sign.toNat].who.toNat<r.firms.length:=by rw[<-hs];exact Mr
  have lg:mG r forum c=[forum,gI r c.file.signs[c.sign.toNat].city,gI r c.file.bill.pay,gI r c.file.bill.city,gI r r.firms[c.file.signs[c.sign.toNat].who.toNat].city]:=by
   simp[mG,hs,aeO]
  have cY:∀l:List Int,hasB l (-1)=true↔-1∈l:=λl=>by simp[hasB]
  rw[lg];simp[aeO];split
  .rename_i h;rw[if_pos ((cY _).mpr (by simpa using h))];rfl
  .rename_i h;rw[if_neg (λh'=>h (by simpa using(cY _).mp h'))]
def awl (r:Realm)(forum:Int)(c:Case)(h1:0<=c.sign/\c.sign<c.file.signs.length):ah T 158 [aQ r,.int forum,fV c] (ints (jJ r forum c)):=by
 have cC:c.sign.toNat<c.file.signs.length:=by omega
 rw[<-aia r forum c cC];have hs:eT c.file c.sign=c.file.signs[c.sign.toNat]:=by simp[eT,cC]
 refine ah.of_nsl rfl ayY ayZ ?_;rw[aia r forum c cC];by_cases hb:rp r forum c
 .refine .inr ⟨by simp[jJ,hb];rfl,?_⟩;have fF:=hb;simp[rp,hs] at fF;simp[O6,h1,cC]
  intros;omega
 have tL:jJ r forum c=if hasB (mG r forum c) (-1)=true then[] else mG r forum c:=by unfold jJ;rw[if_neg hb]
 have fF:=hb;simp[rp,hs] at fF;have hw:c.file.signs[c.sign.toNat].who.toNat<r.firms.length:=by omega
 have hC:=xR (mG r forum c) (-1) (by simp[mG]);cases hh:hasB (mG r forum c) (-1)<;>rw[hh] at hC<;>simp[mG,ints,hs,hw] at hC
 .refine .inl ⟨(mG r forum c).map .int,by simp[mG],by rw[tL,hh];rfl,?_⟩;simp[XG,h1,cC,hw];rw[if_neg (by omega)];refine⟨_,sO r _,_,sO r _,_,sO r _,by omega,_,sO r _,_,by simpa using hC,?_⟩;simp[mG,hs,hw]
 .refine .inr ⟨by rw[tL,hh];rfl,?_⟩;simp[O6,h1,cC,hw]
  intros
  refine⟨_,sO r _,_,sO r _,_,sO r _,by omega,_,sO r _,_,by simpa using hC,?_⟩;simp
structure Right (r:Realm):Prop where
 by_:D9 r
 len:r.orders.length<=100000
 ok:∀o,o∈r.orders->o.OK/\o.rules.length<=100000
structure FewS (f:File):Prop where
 signs:f.signs.length<=1000
 alters:f.alters.length<=1000
 acts:f.acts.length<=1000
 facts:f.facts.length<=1000
def akh {α:Type}(p:α->Bool)(l:List α):(l.takeWhile p).length<=l.length:=by
 obtain⟨m,h1,h2,_⟩:=Pj p l;rw[h2,dG];omega
def FewS.at_ {f:File}(h:FewS f)(day:Int):FewS (bx f day):=
 ⟨ff (akh _ _) h.1,ff (lL _ _) h.2,ff (akh _ _) h.3,ff (lL _ _) h.4⟩
def fj (c:Case):Case:={c with file:=bx c.file c.day}
@[simp] def aET (x:File)(a0 a1 a2 a3 a4 a5 a6 a7 a8 a9 mY mZ a12 na nf pX pY a17 rk:D)(s h d u y:Int):kA 24 (D.agg (dF [a0,a1,a2,a3,a4,a5,a6,a7,a8,a9,mY,mZ,a12,na,nf,pX,pY,a17,rk,.int s,.int h,.int d,.int u,.int y] 0 [.int x.bill.drawer,.int x.bill.drawee,.int x.bill.payee,.int x.bill.sum,.int x.bill.currency,.int x.bill.tenor.kind,.int x.bill.tenor.n,.int x.bill.tenor.unit,.int x.bill.day,.int x.bill.city,.int x.bill.pay,.int x.bill.need,.int x.bill.rate,.int x.bill.flags,.int x.bill.parts,signs x.signs,alters x.alters,acts x.acts,facts x.facts]))=fV ⟨x,s,h,d,u,y⟩:=zyz
def alA (r:Realm)(c:Case)(hf:FewS c.file):ah T 156 [aQ r,fV c] (.tup [fV (fj c),cells (gp r (fj c))]):=by
 refine zyw 22 ayX ?_;simp[XF];have h1:=hf.1;have h2:=hf.2;have h3:=hf.3;have h4:=hf.4;refine⟨_,WY c.file c.day (by omega) (by omega) (by omega) (by omega),?_⟩;have LY:=hf.at_ c.day;have h5:=LY.4;have h6:=LY.2;simp;exact⟨axx r (fj c) (by show(bx c.file c.day).facts.length<=_;omega) (by show(bx c.file c.day).alters.length<=_;omega),(congrArg (kA 24) (avY (fj c) _ _ _ _ _ _ _ _ _ _ _ _ _ _ _ _ _ _ _ _ _ _ _ _)).trans (alp (fj c))⟩
def aBz {r:Realm}{c:Case}(h:gp r c≠[]):0<=c.sign/\c.sign<c.file.signs.length:=by
 unfold gp at h;split at h
 .rename_i hh;have h1:=hh.1;unfold nk at h1;simp[aC] at h1;omega
 .exact absurd rfl h
def afp (r:Realm)(rQ:D9 r)(q:Int)(l:List Int)(hl:l.length<=100000)(yQ:∀b:Int,0<=b->b<r.orders.length->np r b q l=true):∀(n:Nat) (p:List Int),p≠[]->(∀x,x∈p->0<=x/\x<(r.orders.length:Int))->
 (l7 r q l n p).1≠[]/\∀x,x∈(l7 r q l n p).1->0<=x/\x<(r.orders.length:Int)
 |0,p,au,hp=>⟨au,hp⟩
 |n+1,p,au,hp=>by
  have af:p.length-1<p.length:=by have:=Eg.mpr au;omega
  have lU:dv p=p[p.length-1]:=by simp[dv,af]
  have y2:=hp _ (bR af);rw[<-lU] at y2;obtain⟨_,ht⟩:=aaN r rQ (dv p) q l hl (yQ _ y2.1 y2.2)
  have aV:∀x,x∈p++[(gH r (dv p) q l).1]->0<=x/\x<(r.orders.length:Int):=λx hx=>by
   rcases dO.mp hx with h|h
   .exact hp x h
   .simp at h;subst h;exact ht
  rw[TQ];split
  .exact⟨au,hp⟩
  split
  .exact⟨by simp,aV⟩
  split
  .exact⟨by simp,aV⟩
  .exact afp r rQ q l hl yQ n _ (by simp) aV
def afo {r:Realm}(hr:Right r){a q:Int}{l:List Int}(hl:l.length<=100000)(h:(j1 r a q l).2=0):(j1 r a q l).1≠[]/\0<=dv (j1 r a q l).1/\dv (j1 r a q l).1<r.orders.length:=by
 unfold j1 at h ⊢;split at h
 .rename_i hh;rw[if_pos hh];obtain⟨ha,hl5,hx,yQ⟩:=Rz hh.1;obtain⟨h1,h2⟩:=afp r hr.by_ q l hl yQ r.orders.length [a] (by simp) (λx hx=>by simp at hx;subst hx;exact ha);refine⟨h1,?_⟩;have af:(l7 r q l r.orders.length [a]).1.length-1<(l7 r q l r.orders.length [a]).1.length:=by have:=Eg.mpr h1;omega
  have lU:dv (l7 r q l r.orders.length [a]).1=(l7 r q l r.orders.length [a]).1[(l7 r q l r.orders.length [a]).1.length-1]:=by simp[dv,af]
  rw[lU];exact h2 _ (bR af)
 .cases h
def afq (r:Realm)(q:Int)(l:List Int):∀(n:Nat) (p:List Int),(l7 r q l n p).1.length<=p.length+n
 |0,p=>by simp[l7]
 |n+1,p=>by
  rw[TQ];split
  .simp
  split
  .simp
  split
  .simp
  .have:=afq r q l n (p++[(gH r (dv p) q l).1]);simp at this;omega
def ato (r:Realm)(a q:Int)(l:List Int):(j1 r a q l).1.length<=1+r.orders.length:=by
 unfold j1;split
 .exact afq r q l _ [a]
 .simp
@[simp] def aI5 (a b c d e x:D):dF [a,b,c,d,e] 2 [x]=[a,b,x,d,e]:=zyz
@[simp] def aI6 (a b c d e x:D):dF [a,b,c,d,e] 3 [x]=[a,b,c,x,e]:=zyz
@[simp] def aI7 (a b c d e x:D):dF [a,b,c,d,e] 4 [x]=[a,b,c,d,x]:=zyz
def Ub:Said:=⟨dX,-1,[],1⟩
def gT (r:Realm)(forum q:Int)(c:Case):Said×List Cell:=
 if gp r (fj c)=[] then(Ub,[]) else if(sV q).2=false then(Ub,[]) else if jJ r forum (fj c)=[] then(Ub,[]) else
    (⟨dX,if(j1 r forum q (jJ r forum (fj c))).2=0 then dv (j1 r forum q (jJ r forum (fj c))).1 else-1,(j1 r forum q (jJ r forum (fj c))).1,(j1 r forum q (jJ r forum (fj c))).2⟩,gp r (fj c))
def aib (r:Realm)(forum:Int)(c:Case):(jJ r forum c).length<=5:=by
 unfold jJ;split
 .simp
 split<;>simp[mG]
def aly (r:Realm)(hr:Right r)(forum q:Int)(c:Case)(hf:FewS c.file):ah T 109 [aQ r,.int forum,.int q,fV c] (.tup [rM (gT r forum q c).1,cells (gT r forum q c).2]):=by
 refine zyw 21 ayW ?_;simp[XE];refine⟨_,alA r c hf,?_⟩;by_cases hv:gp r (fj c)=[]
 .simp[hv,gT];exact⟨rfl,rfl⟩
 simp[hv,gT];refine⟨_,Vj q,?_⟩;cases hq:(sV q).2
 .simp[hq];exact⟨rfl,rfl⟩
 simp[hq];refine⟨_,awl r forum (fj c) (aBz hv),?_⟩;by_cases hp:jJ r forum (fj c)=[]
 .simp[hp];exact⟨rfl,rfl⟩
 have fK:=aib r forum (fj c);have au:ints (jJ r forum (fj c))≠.list []:=λe=>hp (by simpa [ints] using e);simp[hp];generalize jJ r forum (fj c)=l at*;refine⟨_,akW r hr.by_ hr.len forum q l (by omega),?_⟩;have hlen:=ato r forum q l;have F9:=afo hr (a:=forum) (q:=q) (l:=l) (by omega);have SX:=hr.len;generalize j1 r forum q l=L at*;obtain⟨path,err⟩:=L;simp only at*;by_cases he:err=0
 .obtain⟨h1,h2⟩:=F9 he;have Gs:=Eg.mpr h1;have Tx:i64.wrap ((path.length:Int)-1)=(path.length:Int)-1:=aR (by omega);have SA:((path.length:Int)-1).toNat=path.length-1:=by omega
  have af:path.length-1<path.length:=by omega
  have lU:dv path=path[path.length-1]:=by simp[dv,af]
  simp[he,Tx,SA,af,<-lU];exact⟨by omega,rfl⟩
 .simp[he];rfl
def tl (r:Realm)(forum q:Int)(c:Case):Said:=
 if(gT r forum q c).1.order=-1 then(gT r forum q c).1
 else⟨(rn (qF r (gT r forum q c).1.order) q (gT r forum q c).2).1,(gT r forum q c).1.order,(gT r forum q c).1.path,(rn (qF r (gT r forum q c).1.order) q (gT r forum q c).2).2⟩
def alw {r:Realm}(hr:Right r)(forum q:Int)(c:Case):(gT r forum q c).1.order=-1\/(0<=(gT r forum q c).1.order/\(gT r forum q c).1.order<r.orders.length):=by
 unfold gT;split
 .exact .inl rfl
 split
 .exact .inl rfl
 split
 .exact .inl rfl
 .have fK:=aib r forum (fj c);have F9:=afo hr (a:=forum) (q:=q) (l:=jJ r forum (fj c)) (by omega);show(if _ then _ else _)=_\/_;split
  .rename_i h;exact .inr (F9 h).2
  .exact .inl rfl
def abm (r:Realm)(hr:Right r)(forum q:Int)(c:Case)(hf:FewS c.file):ah T 71 [aQ r,.int forum,.int q,fV c] (rM (tl r forum q c)):=by
 refine zyw 20 ayR ?_;simp[Xz];refine⟨_,aly r hr forum q c hf,?_⟩;have ho:=alw hr forum q c;unfold tl;generalize gT r forum q c=S at*;obtain⟨s,cs⟩:=S;simp only at*;by_cases h:s.order=-1
 .obtain⟨⟨kn,n⟩,o,pth,e⟩:=s;simp only at h;subst h;simp;rfl
 .have h1:0<=s.order/\s.order<r.orders.length:=by omega
  have h2:s.order.toNat<r.orders.length:=by omega
  have h3:qF r s.order=r.orders[s.order.toNat]:=by simp[qF,h2]
  obtain⟨ar,hlen⟩:=hr.ok _ (bR h2);simp[h,h1,h2,h3];refine⟨_,avT _ q cs ar (by omega),?_⟩;simp;rfl
def kX (r:Realm)(forum q:Int)(f:File)(day:Int):Said:=tl r forum q ⟨{f with facts:=[]},0,-1,-1,-1,day⟩
def abn (r:Realm)(hr:Right r)(forum q:Int)(f:File)(day:Int)(hf:FewS f):ah T 36 [aQ r,.int forum,.int q,bW f,.int day] (rM (kX r forum q f day)):=by
 refine zyw 19 ayS ?_;simp[XA];refine⟨rM (kX r forum q f day),abm r hr forum q ⟨{f with facts:=[]},0,-1,-1,-1,day⟩ ⟨hf.1,hf.2,hf.3,by simp⟩,?_⟩;simp
 try rfl
def pJ (s:Said):Int:=if s.err≠0 then 0 else if s.cell.known=false then 2 else if s.cell.n≠0 then 1 else 0
def abo (s:Said):ah T 65 [rM s] (.int (pJ s)):=by
 refine zyw 60 ayV ?_;unfold pJ;by_cases h1:s.err=0<;>cases h2:s.cell.known<;>by_cases h3:s.cell.n=0<;>simp[XD,h1,h2,h3]
def qE (s:Said):Int:=if s.err≠0\/s.cell.known=false then-1 else s.cell.n
def alx (s:Said):ah T 35 [rM s] (.int (qE s)):=by
 refine zyw 62 ayU ?_;unfold qE;by_cases h1:s.err=0<;>cases h2:s.cell.known<;>simp[XC,h1,h2]
def ml (day:Int)(l:List Act)(es:List (D×D)):List (D×D):=l.foldl (λes a=>if a.kind=7/\a.day<=day then fl (.int a.at_) (.bool true) es else es) es
def ayq (day:Int)(l:List Act){k:Nat}(hk:k<l.length):ml day (l.take (k+1)) []=if l[k].kind=7/\l[k].day<=day then fl (.int l[k].at_) (.bool true) (ml day (l.take k) []) else ml day (l.take k) []:=by
 unfold ml;rw[iX hk,s9];rfl
def aih (k v:D):∀es:List (D×D),(fl k v es).length<=es.length+1
 |[]=>by simp[fl]
 |e::es=>by
  unfold fl;split
  .simp
  .have:=aih k v es;simp;omega
def aj1 (day:Int):∀(l:List Act) (es:List (D×D)),(ml day l es).length<=es.length+l.length
 |[],es=>by simp[ml]
 |a::l,es=>by
  have h:=aj1 day l (if a.kind=7/\a.day<=day then fl (.int a.at_) (.bool true) es else es);have hp:=aih (.int a.at_) (.bool true) es;show(ml day l (if a.kind=7/\a.day<=day then fl (.int a.at_) (.bool true) es else es)).length<=_;split at h
  .rename_i hc;rw[if_pos hc];simp;omega
  .rename_i hc;rw[if_neg hc];simp;omega
def ayO (f:File)(day:Int)(hl:f.acts.length<=100000):ah T 107 [bW f,.int day] (.map (ml day f.acts [])):=by
 refine zyw 101 aBd ?_;simp[ZW];refine aL.forRounds f.acts.length (λk=>[.int k]) (λk=>[.map (ml day (f.acts.take k) [])]) ?_ (λk hk=>?_) ?_
 .simp[ml]
 .have hw:=bq hk (by omega);have hs:=ayq day f.acts hk;have hlen:=aj1 day (f.acts.take k) [];rw[hs];simp at hlen;generalize ml day (f.acts.take k) []=es at*;by_cases hc:f.acts[k].kind=7/\f.acts[k].day<=day
  .simp[WW,IA,hk,hw,hc];omega
  .simp[WW,IA,hk,hw,hc]
 .simp[WW,IA]
def aii {k v:D}:∀{es:List (D×D)} {e:D×D},e∈fl k v es->e.2=v\/e∈es
 |[],e,h=>by simp[fl] at h;exact .inl (by rw[h])
 |x::es,e,h=>by
  unfold fl at h;split at h
  .rcases cD.mp h with rfl|h
   .exact .inl rfl
   .exact .inr (by simp[h])
  .rcases cD.mp h with rfl|h
   .exact .inr (by simp)
   .rcases aii h with h|h
    .exact .inl h
    .exact .inr (by simp[h])
def aj2 (day:Int):∀(l:List Act) (es:List (D×D)),(∀e,e∈es->e.2=.bool true)->∀e,e∈ml day l es->e.2=.bool true
 |[],es,h,e,he=>h e he
 |a::l,es,h,e,he=>by
  refine aj2 day l (if a.kind=7/\a.day<=day then fl (.int a.at_) (.bool true) es else es) (λx hx=>?_) e he;split at hx
  .rcases aii hx with h'|h'
   .exact h'
   .exact h x h'
  .exact h x hx
def afy {k d:D}:∀{es:List (D×D)},jq k es=some d->∃e,e∈es/\e.2=d
 |x::es,h=>by
  unfold jq at h;split at h
  .exact⟨x,by simp,by simpa using h⟩
  .obtain⟨e,h1,h2⟩:=afy h;exact⟨e,by simp[h1],h2⟩
def ayp (day:Int)(l:List Act)(k:D):(jq k (ml day l [])).getD (.bool false)=.bool ((jq k (ml day l [])).getD (.bool false)).b:=by
 cases h:jq k (ml day l []) with
 |none=>rfl
 |some d=>
  obtain⟨e,h1,h2⟩:=afy h;have:=aj2 day l [] (λe h=>by cases h) e h1;rw[h2] at this;rw[this];rfl
def Al (f:File)(sign day:Int):Bool:=aC sign f.signs.length&&((jq (.int sign) (ml day f.acts [])).getD (.bool false)).b
def ayN (f:File)(sign day:Int)(hl:f.acts.length<=100000):ah T 66 [bW f,.int sign,.int day] (.bool (Al f sign day)):=by
 refine zyw 100 aBc ?_;by_cases h1:0<=sign<;>by_cases h2:sign<f.signs.length<;>simp[ZV,h1,h2,Al,aC];refine⟨_,ayO f day hl,?_⟩;exact ayp day f.acts (.int sign)
def lG (f:File)(sign:Int)(n:Nat):Int:=(f.alters.take n).foldl (λs a=>if a.at_<=sign then a.sum else s) f.bill.sum
def av6 (f:File)(sign:Int)(hl:f.alters.length<=100000):ah T 108 [bW f,.int sign] (.int (lG f sign f.alters.length)):=by
 refine zyw 105 azC ?_;simp[Yg];refine aL.forRounds f.alters.length (λk=>[.int (lG f sign k),.int k]) (λk=>[]) ?_ (λk hk=>?_) ?_
 .simp[lG]
 .have hw:=bq hk (by omega);have hs:lG f sign (k+1)=if f.alters[k].at_<=sign then f.alters[k].sum else lG f sign k:=by
   unfold lG;rw[iX hk,s9];rfl
  rw[hs];generalize lG f sign k=s at*;by_cases hc:f.alters[k].at_<=sign<;>simp[ai9,Oa,hk,hw,hc]
 .simp[ai9,Oa]
def CO (r:Realm)(c:Int):ah T 73 [aQ r,.int c] (.bool (aC c r.cities.length)):=by
 refine zyw 82 aAV ?_;by_cases h1:0<=c<;>by_cases h2:c<r.cities.length<;>simp[ZF,h1,h2,aC]
def eC (n:Int):Bool:=decide (0<=n)&&decide (n<=100000)
def wS (n:Int):ah T 74 [.int n] (.bool (eC n)):=by
 refine zyw 83 aAW ?_;by_cases h1:0<=n<;>by_cases h2:n<=100000<;>simp[ZG,h1,h2,eC]
def I5 (n:Int):ah T 165 [.int n] (.bool (eC n)):=by
 refine zyw 88 azg ?_;by_cases h1:0<=n<;>by_cases h2:n<=100000<;>simp[XV,h1,h2,eC]
def DQ (t:Tenor):Bool:=decide (t.kind=0)||decide (t.kind=1)
def En (t:Tenor):ah T 75 [qa t] (.bool (DQ t)):=by
 refine zyw 84 aAU ?_;by_cases h1:t.kind=0<;>simp[ZE,h1,DQ]
def age (y m d:Int):∃n:Int,ah T 205 [.int y,.int m,.int d] (.int n):=by
 by_cases h:m<3
 .refine⟨?w,?h⟩
  case h=>
   refine ah.of_tree (d:=.int ?w) rfl abr akb ?_;simp[Pb,h];exact rfl
 .refine⟨?v,?g⟩
  case g=>
   refine ah.of_tree (d:=.int ?v) rfl abr akb ?_;simp[Pb,h];exact rfl
def G3 (y m d:Int):Int:=(age y m d).choose
def M1 (y m d:Int):ah T 205 [.int y,.int m,.int d] (.int (G3 y m d)):=(age y m d).choose_spec
def CR (y m:Int):Int:=if m=12 then 31 else i64.wrap (G3 y (i64.wrap (m+1)) 1-G3 y m 1)
def MH (y m:Int):ah T 187 [.int y,.int m] (.int (CR y m)):=by
 refine zyw 90 aze ?_;unfold CR;by_cases h:m=12
 .simp[Pa,h]
 .simp[Pa,h];refine⟨_,M1 _ _ _,_,M1 _ _ _,?_⟩;simp
def akK (y m d:Int):∃n e:Int,ah T 186 [.int y,.int m,.int d] (.tup [.int n,.int e])/\(e=0->0<=n/\n<=100000):=by
 by_cases h0:(((2000<=y/\y<=2300)/\1<=m)/\m<=12)/\1<=d
 .by_cases h2:d<=CR y m
  .cases h1:eC (G3 y m d)
   .refine⟨0,3,.of_tree rfl JE O9 ?_,by simp⟩;simp[DY];rw[if_pos h0];refine⟨_,MH y m,?_⟩;simp[h0,h2];refine⟨_,M1 _ _ _,_,I5 _,?_⟩;simp[h1]
   .refine⟨G3 y m d,0,.of_tree rfl JE O9 ?_,λ_=>by simpa [eC] using h1⟩;simp[DY];rw[if_pos h0];exact⟨_,MH y m,⟨h0,h2⟩,_,M1 _ _ _,_,I5 _,h1,rfl⟩
  .refine⟨0,3,.of_tree rfl JE O9 ?_,by simp⟩;simp[DY];rw[if_pos h0];refine⟨_,MH y m,?_⟩;simp[h0,h2]
 .refine⟨0,3,.of_tree rfl JE O9 ?_,by simp⟩;simp[DY];rw[if_neg h0];intro a1 a2 a3 a4 a5;exact absurd ⟨⟨⟨⟨a1,a2⟩,a3⟩,a4⟩,a5⟩ h0
def abc (r:Realm)(fr to:Int)(hl:r.usances.length<=100000):∃n e:Int,ah T 89 [aQ r,.int fr,.int to] (.tup [.int n,.int e])/\(e=0->∃u,u∈r.usances/\n=u.days)/\(e=0↔∃u,u∈r.usances/\u.fr=fr/\u.to=to):=by
 let p:Usance->Bool:=λu=>decide (u.fr=fr)&&decide (u.to=to)
 refine⟨match r.usances.find? p with|some u=>u.days|none=>0,match r.usances.find? p with|some u=>0|none=>4,?_,?_⟩
 .refine .of_tree rfl abu akd ?_;simp[Pe];refine aL.scan r.usances.length (λk=>p (r.usances.getD k default)=false) (λk=>[.int 0,.int 0,.int k]) (λ_=>[]) ?_ (λk hk hj ar=>?_) (λk hk hj ar=>?_) (λhj=>?_)
  .simp
  .have hw:=bq hk (by omega);have hn:¬(r.usances[k].fr=fr/\r.usances[k].to=to):=by simpa [p,hk] using ar
   simp[DE,xn,hk,hw,hn]
  .have lR:=yI hk (by simpa [hk] using ar) (λj bz=>by have:=hj j bz;simpa [show j<r.usances.length by omega] using this);have hc:r.usances[k].fr=fr/\r.usances[k].to=to:=by simpa [p,hk] using ar
   rw[lR];simp[DE,xn,hk,hc]
  .have lR:=B5 (l:=r.usances) (p:=p) (λj bz=>by have:=hj j bz;simpa [bz] using this);rw[lR];simp[DE,xn]
 .cases h:r.usances.find? p with
  |none=>
   refine⟨λh=>(by cases h),λh=>(by cases h),λ⟨u,hu,h1,h2⟩=>?_⟩;have:=xX.1 h u hu;simp[p,h1,h2] at this
  |some u=>
   have h2:u.fr=fr/\u.to=to:=by simpa [p] using Pz h
   exact⟨λ_=>⟨u,Eh h,rfl⟩,λ_=>⟨u,Eh h,h2⟩,λ_=>rfl⟩
def ak9 (r:Realm)(fr to:Int)(hl:r.usances.length<=100000):∃n e:Int,ah T 89 [aQ r,.int fr,.int to] (.tup [.int n,.int e])/\(e=0->∃u,u∈r.usances/\n=u.days):=by
 obtain⟨n,e,h1,h2,_⟩:=abc r fr to hl;exact⟨n,e,h1,h2⟩
end Rm
