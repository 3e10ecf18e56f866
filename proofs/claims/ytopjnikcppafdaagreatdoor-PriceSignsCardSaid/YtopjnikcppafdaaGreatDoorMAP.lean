/-
  Shared texts of this claim.
-/
import Derived.Test.YtopjnikcppafdaaGreatDoorMAO
import Derived.Lib.Mul64
set_option linter.defProp false
set_option linter.unusedSimpArgs false
set_option linter.unusedVariables false
noncomputable section
open Go.IntKind (i64)
namespace Rm
open Go Go.Proofs Cx
abbrev u (n:Nat):D:=.v (.int .u64 n)
def IM (n:Int):IntKind.u64.wrap n=n%18446744073709551616:=rfl
def kJ {n:Int}(h:0<=n/\n<18446744073709551616):IntKind.u64.wrap n=n:=by
 rw[IM];omega
def ke {n:Nat}(h:n<18446744073709551616):IntKind.u64.wrap (n:Int)=n:=kJ (by omega)
def Iy (a s:Nat)(h:s<=64):bV .shr .u64 a s=((a/2^s:Nat):Int):=by
 show Int.fdiv (a:Int) (2^(min (s:Int).toNat 64))=_;have:min (s:Int).toNat 64=s:=by simp;omega
 rw[this,akj _ (Int.le_of_lt (Int.pow_pos (by decide)))];rw[Int.natCast_ediv,Int.natCast_pow];rfl
def WY (a s:Nat)(h:s<=64):bV .shl .u64 a s=((a*2^s%18446744073709551616:Nat):Int):=by
 show IntKind.u64.wrap ((a:Int)*(2^(min (s:Int).toNat 64)))=_;have:min (s:Int).toNat 64=s:=by simp;omega
 rw[this,IM,Int.natCast_emod,Int.natCast_mul,Int.natCast_pow];rfl
def D5 (a:Nat)(h:a<18446744073709551616):bV .and .u64 a 4294967295=((a%4294967296:Nat):Int):=by
 show IntKind.u64.wrap ((BitVec.ofInt 64 (a:Int)&&& BitVec.ofInt 64 4294967295).toNat:Nat)=_;have e:(BitVec.ofInt 64 (a:Int)&&& BitVec.ofInt 64 4294967295).toNat=a%4294967296:=by
  rw[BitVec.toNat_and];have e1:(BitVec.ofInt 64 (a:Int)).toNat=a:=by simp[BitVec.ofInt,BitVec.toNat_ofNat];omega
  have e2:(BitVec.ofInt 64 4294967295).toNat=2^32-1:=by decide
  rw[e1,e2,Nat.and_two_pow_sub_one_eq_mod]
 rw[e,ke (by omega)]
@[simp] def dI (a:Nat):bV .shr .u64 a 32=((a/4294967296:Nat):Int):=Iy a 32 (by decide)
@[simp] def aHK (a:Nat):bV .shr .u64 a 16=((a/65536:Nat):Int):=Iy a 16 (by decide)
@[simp] def aHL (a:Nat):bV .shr .u64 a 8=((a/256:Nat):Int):=Iy a 8 (by decide)
set_option maxHeartbeats 2000000 in
def afu (a b:Nat)(ha:a<18446744073709551616)(hb:b<18446744073709551616):ah T 83 [u a,u b] (.tup [u (a*b/18446744073709551616),u (a*b%18446744073709551616)]):=by
 refine zyw 58 ayb ?_;obtain⟨h1,h2,h3,h4⟩:=Go.Lib.mul64_hi a b ha hb;have elo:IntKind.u64.wrap ((a:Int)*(b:Int))=((a*b%18446744073709551616:Nat):Int):=by rw[IM,Int.natCast_emod,Int.natCast_mul];rfl
 have Q6:bV .shr .u64 (a:Int) 32=((a/4294967296:Nat):Int):=dI a;have ea0:bV .and .u64 (a:Int) 4294967295=((a%4294967296:Nat):Int):=D5 a ha;have Q7:bV .shr .u64 (b:Int) 32=((b/4294967296:Nat):Int):=dI b;have eb0:bV .and .u64 (b:Int) 4294967295=((b%4294967296:Nat):Int):=D5 b hb;have aF5:=Go.Lib.half_mul_le (a:=a/4294967296) (b:=b/4294967296) (by omega) (by omega);have aF4:=Go.Lib.half_mul_le (a:=a/4294967296) (b:=b%4294967296) (by omega) (by omega);have aF3:=Go.Lib.half_mul_le (a:=a%4294967296) (b:=b/4294967296) (by omega) (by omega);have aF2:=Go.Lib.half_mul_le (a:=a%4294967296) (b:=b%4294967296) (by omega) (by omega);have Cb:a*b/18446744073709551616<18446744073709551616:=by
  have:a*b<18446744073709551616*18446744073709551616:=Nat.mul_lt_mul'' ha hb;exact Nat.div_lt_of_lt_mul this
 simp only[Xy];generalize a/4294967296=a1 at*;generalize a%4294967296=a0 at*;generalize b/4294967296=b1 at*;generalize b%4294967296=b0 at*;have p11:IntKind.u64.wrap ((a1:Int)*(b1:Int))=((a1*b1:Nat):Int):=by rw[<-Int.natCast_mul];exact ke (by omega)
 have p10:IntKind.u64.wrap ((a1:Int)*(b0:Int))=((a1*b0:Nat):Int):=by rw[<-Int.natCast_mul];exact ke (by omega)
 have p01:IntKind.u64.wrap ((a0:Int)*(b1:Int))=((a0*b1:Nat):Int):=by rw[<-Int.natCast_mul];exact ke (by omega)
 have p00:IntKind.u64.wrap ((a0:Int)*(b0:Int))=((a0*b0:Nat):Int):=by rw[<-Int.natCast_mul];exact ke (by omega)
 rw[<-h4] at Cb ⊢;generalize a1*b1=P at*;generalize a1*b0=Q at*;generalize a0*b1=R at*;generalize a0*b0=S at*;have s1:bV .shr .u64 (S:Int) 32=((S/4294967296:Nat):Int):=dI S;have s2:IntKind.u64.wrap ((Q:Int)+((S/4294967296:Nat):Int))=((Q+S/4294967296:Nat):Int):=by rw[kJ (by omega)];omega
 generalize S/4294967296=S1 at*;generalize hT:Q+S1=TT at*;have s3:bV .shr .u64 (TT:Int) 32=((TT/4294967296:Nat):Int):=dI TT;have s4:bV .and .u64 (TT:Int) 4294967295=((TT%4294967296:Nat):Int):=D5 TT (by omega);have s5:IntKind.u64.wrap (((TT%4294967296:Nat):Int)+(R:Int))=((TT%4294967296+R:Nat):Int):=by rw[kJ (by omega)];omega
 generalize hU:TT%4294967296+R=U at*;have s6:bV .shr .u64 (U:Int) 32=((U/4294967296:Nat):Int):=dI U;have s7:IntKind.u64.wrap ((P:Int)+((TT/4294967296:Nat):Int))=((P+TT/4294967296:Nat):Int):=by rw[kJ (by omega)];omega
 have s8:IntKind.u64.wrap (((P+TT/4294967296:Nat):Int)+((U/4294967296:Nat):Int))=((P+TT/4294967296+U/4294967296:Nat):Int):=by rw[kJ (by omega)];omega
 simp[-dI,-Int.natCast_add,-Int.natCast_mul,-Int.natCast_ediv,-Int.natCast_emod,elo,Q6,ea0,Q7,eb0,p11,p10,p01,p00,s1,s2,s3,s4,s5,s6,s7,s8]
def vd (m:Nat):Int:=if m<1099511627776 then m else 1099511627776
def CV (a b:Int):Int:=if(decide (a<0)!=decide (b<0))=true then-vd (a.natAbs*b.natAbs) else vd (a.natAbs*b.natAbs)
def ahL (m:Nat):0<=vd m/\vd m<=1099511627776:=by unfold vd;split<;>omega
set_option maxHeartbeats 1000000 in
def axI (a b:Int)(ha:-1099511627776<=a/\a<=1099511627776)(hb:-1099511627776<=b/\b<=1099511627776):ah T 232 [.int a,.int b] (.int (CV a b)):=by
 refine zyw 57 aAa ?_;have wa:IntKind.u64.wrap (a.natAbs:Int)=a.natAbs:=ke (by omega);have wb:IntKind.u64.wrap (b.natAbs:Int)=b.natAbs:=ke (by omega);have w0a:i64.wrap (0-a)=-a:=by rw[aQ (by omega)];omega
 have w0b:i64.wrap (0-b)=-b:=by rw[aQ (by omega)];omega
 have aAA:i64.wrap (-a)=-a:=aQ (by omega);have aAB:i64.wrap (-b)=-b:=aQ (by omega);have ea:(if a< -a then D.int (-a) else D.int a)=D.int a.natAbs:=by split<;>congr 1<;>omega
 have eb:(if b< -b then D.int (-b) else D.int b)=D.int b.natAbs:=by split<;>congr 1<;>omega
 have ea':(if a< -a then-a else a)=(a.natAbs:Int):=by split<;>omega
 have eb':(if b< -b then-b else b)=(b.natAbs:Int):=by split<;>omega
 simp[ZA,aAA,aAB,ea,eb,ea',eb'];rw[wa,wb];refine⟨_,afu a.natAbs b.natAbs (by omega) (by omega),?_⟩;unfold CV;generalize a.natAbs*b.natAbs=m;have hs:(decide (a<0)!=decide (b<0))=false↔(a<0↔b<0):=by
  by_cases h1:a<0<;>by_cases h2:b<0<;>simp[h1,h2]
 have key:((if((m/18446744073709551616:Nat):Int)=0/\((m%18446744073709551616:Nat):Int)<1099511627776 then i64.wrap ((m%18446744073709551616:Nat):Int) else 1099511627776):Int)=vd m:=by
  unfold vd;by_cases hm:m<1099511627776
  .have h1:m/18446744073709551616=0:=by omega
   have h2:m%18446744073709551616=m:=by omega
   rw[h1,h2,if_pos ⟨rfl,by omega⟩,if_pos hm,aQ (by omega)]
  .rw[if_neg hm,if_neg];rintro⟨h1,h2⟩;omega
 have fE:=ahL m;have asE:(if((m/18446744073709551616:Nat):Int)=0/\((m%18446744073709551616:Nat):Int)<1099511627776 then D.int (i64.wrap ((m%18446744073709551616:Nat):Int)) else D.int 1099511627776)=D.int (vd m):=by
  rw[<-key];split<;>rfl
 show(if a<0↔b<0 then(if((m/18446744073709551616:Nat):Int)=0/\((m%18446744073709551616:Nat):Int)<1099511627776 then D.int (i64.wrap ((m%18446744073709551616:Nat):Int)) else D.int 1099511627776)=_ else
  i64.wrap (-(if((m/18446744073709551616:Nat):Int)=0/\((m%18446744073709551616:Nat):Int)<1099511627776 then i64.wrap ((m%18446744073709551616:Nat):Int) else 1099511627776))=_)
 rw[asE,key];generalize vd m=n at*;split
 .rename_i h;rw[hs.2 h];simp
 .rename_i h;have:(decide (a<0)!=decide (b<0))=true:=by
   cases e:(decide (a<0)!=decide (b<0)) with
   |true=>rfl
   |false=>exact absurd (hs.1 e) h
  rw[this,aQ (by omega)];simp
def AA (op a b:Int):Int:=if op=9 then ri (a+b) else if op=10 then ri (a-b) else if op=11 then CV a b else if op=12 then min a b else max a b
def axF (op a b:Int)(ha:-1099511627776<=a/\a<=1099511627776)(hb:-1099511627776<=b/\b<=1099511627776):ah T 230 [.int op,.int a,.int b] (.int (AA op a b)):=by
 refine zyw 56 az3 ?_;have w1:i64.wrap (a+b)=a+b:=aQ (by omega);have w2:i64.wrap (a-b)=a-b:=aQ (by omega);simp[Zu,AA,w1,w2];by_cases h1:op=9
 .simp[h1];exact ON _
 by_cases h2:op=10
 .simp[h1,h2];exact ON _
 by_cases h3:op=11
 .simp[h1,h2,h3];exact axI a b ha hb
 by_cases h4:op=12
 .simp[h1,h2,h3,h4];by_cases h5:b<a<;>simp[h5]<;>omega
 simp[h1,h2,h3,h4];by_cases h5:b>a<;>simp[h5]<;>omega
def iQ (b:Bool):Cell:=if b then⟨true,1⟩ else⟨true,0⟩
def xm (b:Bool):ah T 228 [.bool b] (cX (iQ b)):=by
 refine zyw 54 aAc ?_;cases b<;>simp[ZC,iQ]<;>rfl
def fa:Cell:=⟨false,0⟩
@[simp] def aG7:D.agg [.bool false,.int 0]=cX fa:=zyz
@[simp] def aG8:fa.known=false:=rfl
@[simp] def aG9:fa.n=0:=rfl
def cellAt (cs:List Cell)(v:Int):Cell:=cs.getD v.toNat default
def mK (cs:List Cell)(v:Int):Cell:=if cs.length<=v.toNat\/(cellAt cs v).known=false then fa else if(nI v).1=1 then iQ (decide ((cellAt cs v).n≠0)) else⟨true,ri (cellAt cs v).n⟩
abbrev Ra (cs:List Cell):D:=.agg [cells cs]
def axK (cs:List Cell)(v:Int)(hv:0<=v):ah T 219 [Ra cs,.int v] (cX (mK cs v)):=by
 refine zyw 53 az9 ?_;obtain⟨k,rfl⟩:=qP hv;simp[Zz,mK,cellAt];by_cases h1:cs.length<=k
 .simp[h1]
 have cw:k<cs.length:=by omega
 simp[h1,cw];cases h2:cs[k].known
 .simp[h2]
 simp[h2];refine⟨_,ajv _,?_⟩;by_cases h3:(nI k).1=1
 .simp[h3,cw];refine⟨_,xm _,?_⟩;simp;rfl
 .simp[h3,cw];refine⟨_,ON _,?_⟩;simp;rfl
@[simp] def aGs (a b:Int):(a==b)=decide (a=b):=zyz
@[simp] def aGt (a b:Int):(a !=b)= !decide (a=b):=zyz
def bA (l:List Cell)(k:Nat):Cell:=l.getD k default
def iX (op:Int)(l:List Cell):Cell:=
 if op=3 then(if(bA l 0).known=true then iQ (decide ((bA l 0).n=0)) else fa)
 else if(op=4\/op=5)/\(bA l 0=iQ (decide (op=5))\/bA l 1=iQ (decide (op=5))) then iQ (decide (op=5))
 else if op=6 then(if(bA l 1).known=true/\bA l 1=bA l 2 then bA l 1 else fa)
 else if(bA l 0).known=false\/(bA l 1).known=false then fa
 else if op=4\/op=5 then iQ (decide (op=4))
 else if op=7 then iQ (decide ((bA l 0).n<(bA l 1).n)) else if op=8 then iQ (decide ((bA l 0).n=(bA l 1).n)) else⟨true,AA op (bA l 0).n (bA l 1).n⟩
def aly (a b:Cell):a=b↔a.known=b.known/\a.n=b.n:=by cases a;cases b;simp
def axG (op:Int)(l:List Cell)(h1:1<=l.length)(h2:op≠3->2<=l.length)(h3:op=6->3<=l.length)
 (hb:9<=op->(-1099511627776<=(bA l 0).n/\(bA l 0).n<=1099511627776)/\(-1099511627776<=(bA l 1).n/\(bA l 1).n<=1099511627776)) (h9:op<3\/8<op->9<=op):
 ah T 220 [.int op,cells l] (cX (iX op l)):=by
 refine zyw 55 az5 ?_;have g0:0<l.length:=by omega
 have yx:l[0]=bA l 0:=by simp[bA,g0]
 simp[Zw];unfold iX;by_cases o3:op=3
 .simp[o3,g0,yx];cases e:(bA l 0).known
  .simp
  .simp[g0];refine⟨_,xm _,?_⟩;simp
 have g1:1<l.length:=by have:=h2 o3;omega
 have Ff:l[1]=bA l 1:=by simp[bA,g1]
 have fB:(1:Int)<l.length:=by omega
 simp[o3];have fin:∀a b:Cell,(a=b)=(a.known=b.known/\a.n=b.n):=λa b=>propext (aly a b);rcases IT (op=4) with o4|o4
 .subst o4;simp;refine⟨_,xm _,?_⟩;simp[g0,g1,fB,yx,Ff,fin];split
  .rfl
  .split
   .rfl
   .refine⟨_,xm _,?_⟩;simp
 rcases IT (op=5) with o5|o5
 .subst o5;simp;refine⟨_,xm _,?_⟩;simp[g0,g1,fB,yx,Ff,fin];split
  .rfl
  .split
   .rfl
   .refine⟨_,xm _,?_⟩;simp
 rcases IT (op=6) with o6|o6
 .subst o6;have g2:2<l.length:=by have:=h3 rfl;omega
  have gg2:l[2]=bA l 2:=by simp[bA,g2]
  have pV:(2:Int)<l.length:=by omega
  simp[g1,g2,fB,pV,Ff,gg2,fin];cases e1:(bA l 1).known
  .simp
  by_cases e2:(bA l 1).known=(bA l 2).known/\(bA l 1).n=(bA l 2).n
  .rw[e1] at e2;simp[e1,e2]
  .rw[e1] at e2;have sS:¬((bA l 2).known=true/\(bA l 1).n=(bA l 2).n):=λh=>e2 ⟨h.1.symm,h.2⟩;simp only[e1,true_and,if_true]
   first|(rw[if_neg sS,if_neg sS])|(simp[sS])
 simp[o4,o5,o6,g0,g1,fB,yx,Ff];cases e1:(bA l 0).known
 .simp
 cases e2:(bA l 1).known
 .simp
 simp[g1,fB,Ff];rcases IT (op=7) with o7|o7
 .subst o7;simp;refine⟨_,xm _,?_⟩;simp
 rcases IT (op=8) with o8|o8
 .subst o8;simp;refine⟨_,xm _,?_⟩;simp
 simp[o7,o8];obtain⟨b1,b2⟩:=hb (h9 (by omega));refine⟨_,axF op _ _ b1 b2,?_⟩;simp;rfl
def au4 (a b s:Nat)(h:a<18446744073709551616)(hb:b<2^s)(ha:a%2^s=0)(hs:s<=64):bV .or .u64 a b=((a+b:Nat):Int):=by
 show IntKind.u64.wrap ((BitVec.ofInt 64 (a:Int)|||BitVec.ofInt 64 (b:Int)).toNat:Nat)=_;have fE:b<18446744073709551616:=lu hb (by have:=Nat.pow_le_pow_right (n:=2) (by decide) hs;simpa using this);have e1:∀n:Nat,n<18446744073709551616->(BitVec.ofInt 64 (n:Int)).toNat=n:=λn hn=>by simp[BitVec.ofInt,BitVec.toNat_ofNat];omega
 have e:(BitVec.ofInt 64 (a:Int)|||BitVec.ofInt 64 (b:Int)).toNat=a+b:=by
  rw[BitVec.toNat_or,e1 a h,e1 b fE];have e3:a=2^s*(a/2^s):=by have:=xU a (2^s);omega
  rw[e3];exact(Nat.two_pow_add_eq_or_of_lt hb (a/2^s)).symm
 have af:a+b<18446744073709551616:=by rw[<-e];exact BitVec.isLt _
 rw[e,ke af]
def bl (x L:Nat):Prop:=(L=0->x=0)/\(0<L->2^(L-1)<=x)/\x<2^L/\L<=64
def Mq:ByteArray:=⟨#[0,1,2,2,3,3,3,3,4,4,4,4,4,4,4,4,5,5,5,5,5,5,5,5,5,5,5,5,5,5,5,5,6,6,6,6,6,6,6,6,6,6,6,6,6,6,6,6,6,6,6,6,6,6,6,6,6,6,6,6,6,6,6,6,7,7,7,7,7,7,7,7,7,7,7,7,7,7,7,7,7,7,7,7,7,7,7,7,7,7,7,7,7,7,7,7,7,7,7,7,7,7,7,7,7,7,7,7,7,7,7,7,7,7,7,7,7,7,7,7,7,7,7,7,7,7,7,7,8,8,8,8,8,8,8,8,8,8,8,8,8,8,8,8,8,8,8,8,8,8,8,8,8,8,8,8,8,8,8,8,8,8,8,8,8,8,8,8,8,8,8,8,8,8,8,8,8,8,8,8,8,8,8,8,8,8,8,8,8,8,8,8,8,8,8,8,8,8,8,8,8,8,8,8,8,8,8,8,8,8,8,8,8,8,8,8,8,8,8,8,8,8,8,8,8,8,8,8,8,8,8,8,8,8,8,8,8,8,8,8,8,8,8,8,8,8,8,8,8,8,8,8,8,8,8,8]⟩
def len8 (y:Nat):Nat:=(Mq.data.getD y 0).toNat
def asL:(List.range 256).all (λy=>(len8 y==0&&y==0||Nat.ble (2^(len8 y-1)) y&&Nat.blt 0 (len8 y))&&Nat.blt y (2^len8 y)&&Nat.ble (len8 y) 8)=true:=by kernel_rfl
def ql {y:Nat}(h:y<256):((len8 y=0/\y=0)\/(2^(len8 y-1)<=y/\0<len8 y))/\y<2^len8 y/\len8 y<=8:=by
 have:=cN.1 asL y (fu.2 h);simp only[ao,kL,beq_iff_eq,Nat.ble_eq,pC] at this;exact⟨this.1.1,this.1.2,this.2⟩
def aba {y:Nat}(h:y<256):bl y (len8 y):=by
 obtain⟨h1,h2,h3⟩:=ql h;refine⟨λh0=>?_,λh0=>?_,h2,by omega⟩
 .rcases h1 with h1|h1
  .exact h1.2
  .omega
 .rcases h1 with h1|h1
  .omega
  .exact h1.1
def Qz {x s L:Nat}(hx:2^s<=x)(h:bl (x/2^s) L)(hs:L+s<=64):bl x (L+s):=by
 have hp:0<2^s:=xV s;have hL:0<L:=by
  rcases DY L with h0|h0
  .have:=h.1 h0;have:=Nat.div_pos hx hp;omega
  .exact h0
 refine⟨λh0=>by omega,λ_=>?_,?_,hs⟩
 .have h1:=h.2.1 hL;have e:L+s-1=(L-1)+s:=by omega
  rw[e,Pv];exact(Pu hp).1 h1
 .rw[Pv];exact(vB hp).1 h.2.2.1
@[simp] def xC {n:Nat}(h:n<256):IntKind.u8.wrap (n:Int)=n:=by
  show(n:Int)%256=n;omega
def asK:(⟨#[0,1,2,2,3,3,3,3,4,4,4,4,4,4,4,4,5,5,5,5,5,5,5,5,5,5,5,5,5,5,5,5,6,6,6,6,6,6,6,6,6,6,6,6,6,6,6,6,6,6,6,6,6,6,6,6,6,6,6,6,6,6,6,6,7,7,7,7,7,7,7,7,7,7,7,7,7,7,7,7,7,7,7,7,7,7,7,7,7,7,7,7,7,7,7,7,7,7,7,7,7,7,7,7,7,7,7,7,7,7,7,7,7,7,7,7,7,7,7,7,7,7,7,7,7,7,7,7,8,8,8,8,8,8,8,8,8,8,8,8,8,8,8,8,8,8,8,8,8,8,8,8,8,8,8,8,8,8,8,8,8,8,8,8,8,8,8,8,8,8,8,8,8,8,8,8,8,8,8,8,8,8,8,8,8,8,8,8,8,8,8,8,8,8,8,8,8,8,8,8,8,8,8,8,8,8,8,8,8,8,8,8,8,8,8,8,8,8,8,8,8,8,8,8,8,8,8,8,8,8,8,8,8,8,8,8,8,8,8,8,8,8,8,8,8,8,8,8,8,8,8,8,8,8,8,8]⟩:ByteArray)=Mq:=rfl
def wK:Mq.size=256:=by kernel_rfl
def len8_eq (y:Nat):(Mq.data[y]?.getD 0).toNat=len8 y:=by simp[len8]
def l8 (x:Nat):Nat:=if 256<=x then len8 (x/256)+8 else len8 x
def Cz (x:Nat):Nat:=if 65536<=x then l8 (x/65536)+16 else l8 x
def wH (x:Nat):Nat:=if 4294967296<=x then Cz (x/4294967296)+32 else Cz x
def aeJ {x:Nat}(h:x<65536):bl x (l8 x):=by
 unfold l8;split
 .rename_i h1;exact Qz (s:=8) h1 (aba (by omega)) (by have:=(ql (y:=x/256) (by omega)).2.2;omega)
 .exact aba (by omega)
def aeK {x:Nat}(h:x<65536):l8 x<=16:=by
 unfold l8;split
 .have:=(ql (y:=x/256) (by omega)).2.2;omega
 .have:=(ql (y:=x) (by omega)).2.2;omega
def aeH {x:Nat}(h:x<4294967296):bl x (Cz x)/\Cz x<=32:=by
 unfold Cz;split
 .rename_i h1;have:=aeK (x:=x/65536) (by omega);exact⟨Qz (s:=16) h1 (aeJ (by omega)) (by omega),by omega⟩
 .have:=aeK (x:=x) (by omega);exact⟨aeJ (by omega),by omega⟩
def aeI {x:Nat}(h:x<18446744073709551616):bl x (wH x):=by
 unfold wH;split
 .rename_i h1;have:=aeH (x:=x/4294967296) (by omega);exact Qz (s:=32) h1 this.1 (by omega)
 .exact(aeH (by omega)).1
set_option maxRecDepth 10000 in
set_option maxHeartbeats 1000000 in
def asJ (x:Nat)(h:x<18446744073709551616):ah T 121 [u x] (.int (wH x:Nat)):=by
 refine zyw 115 aya ?_;unfold wH Cz l8;simp only[Xx, lb, asK];have w8:i64.wrap 8=8:=aQ (by omega);have xt:i64.wrap 16=16:=aQ (by omega);have xu:i64.wrap 24=24:=aQ (by omega);have xw:i64.wrap 32=32:=aQ (by omega);have xx:i64.wrap 40=40:=aQ (by omega);have xy:i64.wrap 48=48:=aQ (by omega);have xz:i64.wrap 56=56:=aQ (by omega);by_cases h1:4294967296<=x
 .have g1:(4294967296:Int)<=x:=by omega
  generalize kT:x/4294967296=x1 at*;by_cases h2:65536<=x1
  .have g2:(65536:Int)<=(x1:Nat):=by omega
   generalize y8:x1/65536=x2 at*;by_cases h3:256<=x2
   .have g3:(256:Int)<=(x2:Nat):=by omega
    have hY:x2/256<256:=by omega
    have hl:=(ql hY).2.2;have k1:IntKind.u8.wrap ((x2/256:Nat):Int)=((x2/256:Nat):Int):=xC hY;have k2:i64.wrap ((len8 (x2/256):Nat):Int)=len8 (x2/256):=aQ (by omega);have k3:i64.wrap (56+(len8 (x2/256):Int))=56+(len8 (x2/256):Int):=aQ (by omega);simp[h1,h2,h3,g1,g2,g3,k1,wK,len8_eq,k2,k3,w8,xt,xu,xw,xx,xy,xz,kT,y8,-Int.natCast_ediv];omega
   .have g3:¬(256:Int)<=(x2:Nat):=by omega
    have hY:x2<256:=by omega
    have hl:=(ql hY).2.2;have k1:IntKind.u8.wrap ((x2:Nat):Int)=((x2:Nat):Int):=xC hY;have k2:i64.wrap ((len8 (x2):Nat):Int)=len8 (x2):=aQ (by omega);have k3:i64.wrap (48+(len8 (x2):Int))=48+(len8 (x2):Int):=aQ (by omega);simp[h1,h2,h3,g1,g2,g3,k1,wK,len8_eq,k2,k3,w8,xt,xu,xw,xx,xy,xz,kT,y8,-Int.natCast_ediv];omega
  .have g2:¬(65536:Int)<=(x1:Nat):=by omega
   by_cases h3:256<=x1
   .have g3:(256:Int)<=(x1:Nat):=by omega
    have hY:x1/256<256:=by omega
    have hl:=(ql hY).2.2;have k1:IntKind.u8.wrap ((x1/256:Nat):Int)=((x1/256:Nat):Int):=xC hY;have k2:i64.wrap ((len8 (x1/256):Nat):Int)=len8 (x1/256):=aQ (by omega);have k3:i64.wrap (40+(len8 (x1/256):Int))=40+(len8 (x1/256):Int):=aQ (by omega);simp[h1,h2,h3,g1,g2,g3,k1,wK,len8_eq,k2,k3,w8,xt,xu,xw,xx,xy,xz,kT,-Int.natCast_ediv];omega
   .have g3:¬(256:Int)<=(x1:Nat):=by omega
    have hY:x1<256:=by omega
    have hl:=(ql hY).2.2;have k1:IntKind.u8.wrap ((x1:Nat):Int)=((x1:Nat):Int):=xC hY;have k2:i64.wrap ((len8 (x1):Nat):Int)=len8 (x1):=aQ (by omega);have k3:i64.wrap (32+(len8 (x1):Int))=32+(len8 (x1):Int):=aQ (by omega);simp[h1,h2,h3,g1,g2,g3,k1,wK,len8_eq,k2,k3,w8,xt,xu,xw,xx,xy,xz,kT,-Int.natCast_ediv];omega
 .have g1:¬(4294967296:Int)<=x:=by omega
  by_cases h2:65536<=x
  .have g2:(65536:Int)<=(x:Nat):=by omega
   generalize y8:x/65536=x2 at*;by_cases h3:256<=x2
   .have g3:(256:Int)<=(x2:Nat):=by omega
    have hY:x2/256<256:=by omega
    have hl:=(ql hY).2.2;have k1:IntKind.u8.wrap ((x2/256:Nat):Int)=((x2/256:Nat):Int):=xC hY;have k2:i64.wrap ((len8 (x2/256):Nat):Int)=len8 (x2/256):=aQ (by omega);have k3:i64.wrap (24+(len8 (x2/256):Int))=24+(len8 (x2/256):Int):=aQ (by omega);simp[h1,h2,h3,g1,g2,g3,k1,wK,len8_eq,k2,k3,w8,xt,xu,xw,xx,xy,xz,y8,-Int.natCast_ediv];omega
   .have g3:¬(256:Int)<=(x2:Nat):=by omega
    have hY:x2<256:=by omega
    have hl:=(ql hY).2.2;have k1:IntKind.u8.wrap ((x2:Nat):Int)=((x2:Nat):Int):=xC hY;have k2:i64.wrap ((len8 (x2):Nat):Int)=len8 (x2):=aQ (by omega);have k3:i64.wrap (16+(len8 (x2):Int))=16+(len8 (x2):Int):=aQ (by omega);simp[h1,h2,h3,g1,g2,g3,k1,wK,len8_eq,k2,k3,w8,xt,xu,xw,xx,xy,xz,y8,-Int.natCast_ediv];omega
  .have g2:¬(65536:Int)<=(x:Nat):=by omega
   by_cases h3:256<=x
   .have g3:(256:Int)<=(x:Nat):=by omega
    have hY:x/256<256:=by omega
    have hl:=(ql hY).2.2;have k1:IntKind.u8.wrap ((x/256:Nat):Int)=((x/256:Nat):Int):=xC hY;have k2:i64.wrap ((len8 (x/256):Nat):Int)=len8 (x/256):=aQ (by omega);have k3:i64.wrap (8+(len8 (x/256):Int))=8+(len8 (x/256):Int):=aQ (by omega);simp[h1,h2,h3,g1,g2,g3,k1,wK,len8_eq,k2,k3,w8,xt,xu,xw,xx,xy,xz,-Int.natCast_ediv];omega
   .have g3:¬(256:Int)<=(x:Nat):=by omega
    have hY:x<256:=by omega
    have hl:=(ql hY).2.2;have k1:IntKind.u8.wrap ((x:Nat):Int)=((x:Nat):Int):=xC hY;have k2:i64.wrap ((len8 (x):Nat):Int)=len8 (x):=aQ (by omega);have k3:i64.wrap (0+(len8 (x):Int))=0+(len8 (x):Int):=aQ (by omega);simp[h1,h2,h3,g1,g2,g3,k1,wK,len8_eq,k2,k3,w8,xt,xu,xw,xx,xy,xz,-Int.natCast_ediv];omega
def abL {v1 v0 u32 d:Nat}(hv:0<v1)(hd:d<4294967296)(hu:u32<v1*4294967296+v0):(u32*4294967296+d)/(v1*4294967296+v0)<=u32/v1:=by
 have h1:(u32*4294967296+d)/(v1*4294967296+v0)<=(u32*4294967296+d)/(v1*4294967296):=Nat.div_le_div_left (by omega) (by omega);have h2:(u32*4294967296+d)/(v1*4294967296)=u32/v1:=by
  rw[uq v1,<-Nat.div_div_eq_div_mul]
  congr 1;omega
 omega
def abO {v1 v0 u32:Nat}(eF:v0<4294967296)(aL:2147483648<=v1)(hu:u32<v1*4294967296+v0):u32/v1<=4294967297:=by
 have h1:u32/v1*v1<=u32:=Nat.div_mul_le_self u32 v1;have h2:u32/v1*v1<4294967298*v1:=by omega
 have:=Nat.lt_of_mul_lt_mul_right h2;omega
def Q0 (q v1 v0:Nat):q*(v1*4294967296+v0)=q*v1*4294967296+q*v0:=by rw[Nat.mul_add,aaI]
def abN {v1 v0 u32 d q r:Nat}(hu:u32<v1*4294967296+v0)(hd:d<4294967296)(h1:q*v1+r=u32)(c:4294967296<=q\/4294967296*r+d<q*v0):(u32*4294967296+d)/(v1*4294967296+v0)<q:=by
 rw[vB (by omega)];rcases c with c|c
 .have h2:4294967296*(v1*4294967296+v0)<=q*(v1*4294967296+v0):=jJ _ c;omega
 .rw[Q0];omega
def abM {v1 v0 u32 d q r:Nat}(hv:0<v1)(h1:q*v1+r=u32)(c:q*v0<=4294967296*r+d):q<=(u32*4294967296+d)/(v1*4294967296+v0):=by
 rw[Pu (by omega),Q0];omega
def abK {v1 v0 u32 d q r:Nat}(eF:v0<4294967296)(h1:q*v1+r=u32)(hu:u32<v1*4294967296+v0)(c:4294967296<=r):q<=(u32*4294967296+d)/(v1*4294967296+v0):=by
 have hv:0<v1*4294967296+v0:=by omega
 have hq:q<4294967296:=by
  rcases I8 q 4294967296 with h|h
  .exact h
  .have:4294967296*v1<=q*v1:=jJ _ h;omega
 have h2:q*v0<=4294967295*4294967295:=Aw (by omega) (by omega);rw[Pu hv,Q0];omega
def asP (O:Env)(q0 r0 v1 v0 u32 d:Nat)(eF:v0<4294967296)(aL:2147483648<=v1)(ar7:v1<4294967296)(hd:d<4294967296)(hu:u32<v1*4294967296+v0)
 (hq:q0=u32/v1) (hr:r0=u32%v1) (h9:O.r 9=u v1) (jt:O.r 10=u v0) (yF:O.r 13=u d) (yV:O.r 15=u q0) (SU:O.r 16=u r0) (K:Env->Prop) (Q:Out->Prop)
 (hK:∀O':Env,O'.r 15=u ((u32*4294967296+d)/(v1*4294967296+v0))->(∀t,t∉[15,16,67,68,69,78]->O'.r t=O.r t)->K O'):aO T (GD yb) O (gK K Q):=by
 have dm:=λq r=>abN (v1:=v1) (v0:=v0) (u32:=u32) (d:=d) (q:=q) (r:=r) hu hd;have dl:=λq r=>abM (v1:=v1) (v0:=v0) (u32:=u32) (d:=d) (q:=q) (r:=r) (by omega);have dd:=λq r=>abK (v1:=v1) (v0:=v0) (u32:=u32) (d:=d) (q:=q) (r:=r) eF;have di:=abL (v1:=v1) (v0:=v0) (u32:=u32) (d:=d) (by omega) hd hu;have hQ0:0<=(u32*4294967296+d)/(v1*4294967296+v0):=jK _;generalize (u32*4294967296+d)/(v1*4294967296+v0)=QQ at*;refine aO.forLoop (α:=Nat×Nat) (λs vr vo=>s.1*v1+s.2=u32/\QQ<=s.1/\s.2<4294967296/\s.1<=4294967297/\vr=[u s.1,u s.2]/\vo=[]) (λs=>s.1) (q0,r0) ⟨?_,?_,?_,?_,?_,rfl⟩ ?_
 .subst hq hr;exact DX u32 v1
 .subst hq;exact di
 .subst hr;have:=pD u32 (show v1>0 by omega);omega
 .subst hq;exact abO eF aL hu
 .simp[yV,SU]
 .rintro⟨q,r⟩ vr vo ⟨h1,h2,h3,h4,rfl,rfl⟩;dsimp only at h1 h2 h3 h4;have hm:q*v0<=4294967297*4294967295:=Aw h4 (by omega);have w1:IntKind.u64.wrap ((q:Int)*(v0:Int))=(q*v0:Nat):=by rw[<-Int.natCast_mul];exact ke (by omega)
  have w2:IntKind.u64.wrap (4294967296*(r:Int))=(4294967296*r:Nat):=by rw[kJ (by omega)];omega
  have w3:IntKind.u64.wrap (((4294967296*r:Nat):Int)+(d:Int))=(4294967296*r+d:Nat):=by rw[kJ (by omega)];omega
  have dm:=dm q r h1;have dl:=dl q r h1;generalize q*v0=M at*;by_cases c:4294967296<=q\/4294967296*r+d<M
  .have af:=dm c;have w4:IntKind.u64.wrap ((q:Int)-1)=(q-1:Nat):=by rw[kJ (by omega)];omega
   have w5:IntKind.u64.wrap ((r:Int)+(v1:Int))=(r+v1:Nat):=by rw[kJ (by omega)];omega
   have e1:(q-1)*v1+(r+v1)=u32:=by rw[Nat.sub_mul,Nat.one_mul];have:v1<=q*v1:=Nat.le_mul_of_pos_left v1 (by omega);omega
   have uz:(4294967296:Int)<=(q:Int)\/4294967296*r+d<M:=by omega
   by_cases c2:4294967296<=r+v1
   .have yf:(4294967296:Int)<=((r+v1:Nat):Int):=by omega
    have:=dd _ _ e1 hu c2;have e2:q-1=QQ:=by omega
    simp[VN,Hm,h9,jt,yF,w1,w2,w3,w4,w5,uz,yf,-Int.natCast_add,-Int.natCast_mul];refine hK _ ?_ ?_
    .simp[w4,e2]
    .intro t ht;simp at ht;simp[ht]
   .have yf:¬(4294967296:Int)<=((r+v1:Nat):Int):=by omega
    simp[VN,Hm,h9,jt,yF,w1,w2,w3,w4,w5,uz,yf,-Int.natCast_add,-Int.natCast_mul];exact⟨q-1,by omega,r+v1,e1,by omega,by omega,by omega,rfl,rfl⟩
  .have:=dl (by omega);have e2:q=QQ:=by omega
   have uz:¬((4294967296:Int)<=(q:Int)):=by omega
   have QC:¬(4294967296*r+d<M):=by omega
   simp[VN,Hm,h9,jt,yF,w1,w2,w3,uz,QC,-Int.natCast_add,-Int.natCast_mul];refine hK _ ?_ ?_
   .simp[e2]
   .intro t ht;simp at ht;simp[ht]
def asQ (O:Env)(q0 r0 v1 v0 u32 d:Nat)(eF:v0<4294967296)(aL:2147483648<=v1)(ar7:v1<4294967296)(hd:d<4294967296)(hu:u32<v1*4294967296+v0)
 (hq:q0=u32/v1) (hr:r0=u32%v1) (h9:O.r 9=u v1) (jt:O.r 10=u v0) (yF:O.r 14=u d) (yV:O.r 18=u q0) (SU:O.r 16=u r0) (K:Env->Prop) (Q:Out->Prop)
 (hK:∀O':Env,O'.r 18=u ((u32*4294967296+d)/(v1*4294967296+v0))->(∀t,t∉[16,18,102,103,104,113]->O'.r t=O.r t)->K O'):aO T (GF yb) O (gK K Q):=by
 have dm:=λq r=>abN (v1:=v1) (v0:=v0) (u32:=u32) (d:=d) (q:=q) (r:=r) hu hd;have dl:=λq r=>abM (v1:=v1) (v0:=v0) (u32:=u32) (d:=d) (q:=q) (r:=r) (by omega);have dd:=λq r=>abK (v1:=v1) (v0:=v0) (u32:=u32) (d:=d) (q:=q) (r:=r) eF;have di:=abL (v1:=v1) (v0:=v0) (u32:=u32) (d:=d) (by omega) hd hu;have hQ0:0<=(u32*4294967296+d)/(v1*4294967296+v0):=jK _;generalize (u32*4294967296+d)/(v1*4294967296+v0)=QQ at*;refine aO.forLoop (α:=Nat×Nat) (λs vr vo=>s.1*v1+s.2=u32/\QQ<=s.1/\s.2<4294967296/\s.1<=4294967297/\vr=[u s.2,u s.1]/\vo=[]) (λs=>s.1) (q0,r0) ⟨?_,?_,?_,?_,?_,rfl⟩ ?_
 .subst hq hr;exact DX u32 v1
 .subst hq;exact di
 .subst hr;have:=pD u32 (show v1>0 by omega);omega
 .subst hq;exact abO eF aL hu
 .simp[yV,SU]
 .rintro⟨q,r⟩ vr vo ⟨h1,h2,h3,h4,rfl,rfl⟩;dsimp only at h1 h2 h3 h4;have hm:q*v0<=4294967297*4294967295:=Aw h4 (by omega);have w1:IntKind.u64.wrap ((q:Int)*(v0:Int))=(q*v0:Nat):=by rw[<-Int.natCast_mul];exact ke (by omega)
  have w2:IntKind.u64.wrap (4294967296*(r:Int))=(4294967296*r:Nat):=by rw[kJ (by omega)];omega
  have w3:IntKind.u64.wrap (((4294967296*r:Nat):Int)+(d:Int))=(4294967296*r+d:Nat):=by rw[kJ (by omega)];omega
  have dm:=dm q r h1;have dl:=dl q r h1;generalize q*v0=M at*;by_cases c:4294967296<=q\/4294967296*r+d<M
  .have af:=dm c;have w4:IntKind.u64.wrap ((q:Int)-1)=(q-1:Nat):=by rw[kJ (by omega)];omega
   have w5:IntKind.u64.wrap ((r:Int)+(v1:Int))=(r+v1:Nat):=by rw[kJ (by omega)];omega
   have e1:(q-1)*v1+(r+v1)=u32:=by rw[Nat.sub_mul,Nat.one_mul];have:v1<=q*v1:=Nat.le_mul_of_pos_left v1 (by omega);omega
   have uz:(4294967296:Int)<=(q:Int)\/4294967296*r+d<M:=by omega
   by_cases c2:4294967296<=r+v1
   .have yf:(4294967296:Int)<=((r+v1:Nat):Int):=by omega
    have:=dd _ _ e1 hu c2;have e2:q-1=QQ:=by omega
    simp[VO,Hn,h9,jt,yF,w1,w2,w3,w4,w5,uz,yf,-Int.natCast_add,-Int.natCast_mul];refine hK _ ?_ ?_
    .simp[w4,e2]
    .intro t ht;simp at ht;simp[ht]
   .have yf:¬(4294967296:Int)<=((r+v1:Nat):Int):=by omega
    simp[VO,Hn,h9,jt,yF,w1,w2,w3,w4,w5,uz,yf,-Int.natCast_add,-Int.natCast_mul];exact⟨q-1,by omega,r+v1,e1,by omega,by omega,by omega,rfl,rfl⟩
  .have:=dl (by omega);have e2:q=QQ:=by omega
   have uz:¬((4294967296:Int)<=(q:Int)):=by omega
   have QC:¬(4294967296*r+d<M):=by omega
   simp[VO,Hn,h9,jt,yF,w1,w2,w3,uz,QC,-Int.natCast_add,-Int.natCast_mul];refine hK _ ?_ ?_
   .simp[e2]
   .intro t ht;simp at ht;simp[ht]
def bN:Nat->List Cell->Tm->Cell
 |0,_,_=>fa
 |L+1,cs,t=>if t.op=0\/t.op=1 then⟨true,t.n⟩ else if t.op=2 then mK cs t.n else
   if t.op=6/\(bA (t.args.map (bN L cs)) 0).known=true then bA (t.args.map (bN L cs)) (2-(bA (t.args.map (bN L cs)) 0).n).toNat else iX t.op (t.args.map (bN L cs))
def eH:Nat->List Cell->Tm->List Int
 |0,_,_=>[]
 |L+1,cs,t=>if t.op=0\/t.op=1 then[] else if t.op=2 then(if(mK cs t.n).known=true then[] else[t.n]) else
   if t.op=6/\(bA (t.args.map (bN L cs)) 0).known=true then(t.args.map (eH L cs)).getD (2-(bA (t.args.map (bN L cs)) 0).n).toNat [] else
   if(iX t.op (t.args.map (bN L cs))).known=true then[] else(t.args.map (eH L cs)).flatten
def K7 (L:Nat)(cs:List Cell)(t:Tm):bN (L+1) cs t=if t.op=0\/t.op=1 then⟨true,t.n⟩ else if t.op=2 then mK cs t.n else
 if t.op=6/\(bA (t.args.map (bN L cs)) 0).known=true then bA (t.args.map (bN L cs)) (2-(bA (t.args.map (bN L cs)) 0).n).toNat else iX t.op (t.args.map (bN L cs)):=rfl
def MG (L:Nat)(cs:List Cell)(t:Tm):eH (L+1) cs t=if t.op=0\/t.op=1 then[] else if t.op=2 then(if(mK cs t.n).known=true then[] else[t.n]) else
 if t.op=6/\(bA (t.args.map (bN L cs)) 0).known=true then(t.args.map (eH L cs)).getD (2-(bA (t.args.map (bN L cs)) 0).n).toNat [] else
 if(iX t.op (t.args.map (bN L cs))).known=true then[] else(t.args.map (eH L cs)).flatten:=rfl
def QN {L:Nat}{t:Tm}{k:Int}(h:cG (L+1) t=(k,0)):(∀a,a∈t.args->(cG L a).2=0)/\zn t (t.args.map λa=>(cG L a).1)=(k,0):=by
 rw[QM] at h;by_cases e:fU t.args.length (λk=>(cG L (t.args.getD k default)).2)=0
 .rw[if_neg (by simpa using e)] at h;refine⟨λa ha=>?_,h⟩;obtain⟨j,hj,rfl⟩:=ew ha;have:=Rk.1 e j hj;simpa [hj] using this
 .rw[if_pos e] at h;injection h with _ h
  exact absurd h e
inductive Node (ks:List Int) (t:Tm):Int->Prop where
 |int (h:t.op=0) (ha:t.args=[]) (hn:-1099511627776<=t.n/\t.n<=1099511627776):Node ks t 0
 |bool (h:t.op=1) (ha:t.args=[]) (hn:t.n=0\/t.n=1):Node ks t 1
 |var (h:t.op=2) (ha:t.args=[]) (hn:0<=t.n/\t.n<=19):Node ks t (nI t.n).1
 |not (h:t.op=3) (hk:ks=[1]):Node ks t 1
 |log (h:t.op=4\/t.op=5) (hk:ks=[1,1]):Node ks t 1
 |ite (k:Int) (h:t.op=6) (hk:ks=[1,k,k]):Node ks t k
 |less (h:t.op=7) (hk:ks=[0,0]):Node ks t 1
 |equal (k:Int) (h:t.op=8) (hk:ks=[k,k]):Node ks t 1
 |num (h:9<=t.op/\t.op<=13) (hk:ks=[0,0]):Node ks t 0
def aAw (v:Int):(nI v).1=0\/(nI v).1=1:=by
 unfold nI;repeat' split
 all_goals simp
def auw {t:Tm}{ks:List Int}{k:Int}(hl:ks.length=t.args.length)(jQ:∀x,x∈ks->x=0\/x=1)(h:zn t ks=(k,0)):Node ks t k:=by
 unfold zn at h;split at h
 .injection h with _ h;cases h
 rename_i eD;split at h
 .rename_i h3;unfold Gz at h;split at h
  .injection h with _ h;cases h
  rename_i ha0;have ha:t.args=[]:=Pl (by omega);split at h
  .rename_i h0;split at h
   .injection h with _ h;cases h
   .rename_i hc;injection h with h _
    subst h;refine .int h0 ha ?_;unfold ri at hc;omega
  split at h
  .rename_i h0;split at h
   .injection h with _ h;cases h
   .rename_i hc;injection h with h _
    subst h;exact .bool h0 ha (by omega)
  split at h
  .injection h with _ h;cases h
  .rename_i g0 g1 hc;injection h with h _
   subst h;refine .var (by omega) ha ?_;unfold nI at hc;split at hc
   .simp at hc
   .omega
 rename_i h3;split at h
 .injection h with _ h;cases h
 rename_i hlen;have p5:ks.length=(fo t.op).1.length:=by
  refine Aj λhh=>hlen (.inl hh)
 split at h
 .injection h with _ h;cases h
 rename_i ar;have kC:∀j,j<(fo t.op).1.length->qk (fo t.op).1 ks j=true:=xY.1 (by simpa using ar)
 have two:∀{n:Nat},ks.length=2->∃a b,ks=[a,b]:=λh=>by
  match ks,h with
  |[a,b],_=>exact⟨a,b,rfl⟩
 by_cases o3:t.op=3
 .have e:fo t.op=([1],1):=by simp[fo,o3]
  rw[e] at p5 kC h
  match ks,p5 with
  |[a],_=>
   have:=kC 0 (by simp);simp[qk] at this;simp at h;subst h this;exact .not o3 rfl
 by_cases MM:t.op=4\/t.op=5
 .have e:fo t.op=([1,1],1):=by simp[fo,o3,MM]
  rw[e] at p5 kC h
  match ks,p5 with
  |[a,b],_=>
   have t1:=kC 0 (by simp);have t2:=kC 1 (by simp);simp[qk] at t1 t2;simp at h;subst h t1 t2;exact .log MM rfl
 by_cases o6:t.op=6
 .have e:fo t.op=([1,-1,-1],-1):=by simp[fo,o6]
  rw[e] at p5 kC h
  match ks,p5,jQ with
  |[a,b,c],_,jQ=>
   have t1:=kC 0 (by simp);have t3:=kC 2 (by simp);have hb:=jQ b (by simp);have tg:¬b=-1:=by omega
   simp[qk] at t1;simp[qk,oT,tg] at t3;simp[oT,tg] at h;subst h t1 t3;exact .ite _ o6 rfl
 by_cases o7:t.op=7
 .have e:fo t.op=([0,0],1):=by simp[fo,o7]
  rw[e] at p5 kC h
  match ks,p5 with
  |[a,b],_=>
   have t1:=kC 0 (by simp);have t2:=kC 1 (by simp);simp[qk] at t1 t2;simp at h;subst h t1 t2;exact .less o7 rfl
 by_cases o8:t.op=8
 .have e:fo t.op=([-1,-1],1):=by simp[fo,o8]
  rw[e] at p5 kC h
  match ks,p5,jQ with
  |[a,b],_,jQ=>
   have t2:=kC 1 (by simp);have ha:=jQ a (by simp);have han:¬a=-1:=by omega
   simp[qk,oT,han] at t2;simp at h;subst h t2;exact .equal _ o8 rfl
 have e:fo t.op=([0,0],0):=by simp[fo,o3,MM,o6,o7,o8]
 rw[e] at p5 kC h
 match ks,p5 with
 |[a,b],_=>
  have t1:=kC 0 (by simp);have t2:=kC 1 (by simp);simp[qk] at t1 t2;simp at h;subst h t1 t2;exact .num (by omega) rfl
def QO:∀{L:Nat} {t:Tm} {k:Int},cG (L+1) t=(k,0)->Node (t.args.map λa=>(cG L a).1) t k/\(k=0\/k=1)
 |L,t,k,h=>by
  obtain⟨h1,h2⟩:=QN h
  have jQ:∀x,x∈(t.args.map λa=>(cG L a).1)->x=0\/x=1:=by
   intro x hx;obtain⟨a,ha,rfl⟩:=cr.1 hx;cases L with
   |zero=>exact .inl rfl
   |succ L=>exact(QO (L:=L) (t:=a) (k:=(cG (L+1) a).1) (by rw[<-h1 a ha])).2
  have hn:=auw (by simp) jQ h2;refine⟨hn,?_⟩;cases hn with
  |int=>simp
  |bool=>simp
  |var=>exact aAw _
  |not=>simp
  |log=>simp
  |ite k _ hk=>exact jQ k (by rw[hk];simp)
  |less=>simp
  |equal=>simp
  |num=>simp
def xW (k:Int)(c:Cell):Prop:=(c.known=false->c=fa)/\(c.known=true->(k=1->c.n=0\/c.n=1)/\(k=0->-1099511627776<=c.n/\c.n<=1099511627776))
def xc (k:Int):xW k fa:=⟨λ_=>rfl,λh=>by cases h⟩
def Dq (b:Bool):xW 1 (iQ b):=⟨λh=>(by cases b<;>cases h),λ_=>⟨λ_=>(by cases b<;>simp[iQ]),λh=>by cases h⟩⟩
def QW (n:Int):-1099511627776<=ri n/\ri n<=1099511627776:=by unfold ri;omega
def awR (cs:List Cell)(v:Int)(hv:0<=v/\v<=19):xW (nI v).1 (mK cs v):=by
 unfold mK;split
 .exact xc _
 .split
  .rename_i h;rw[h];exact Dq _
  .rename_i h;refine⟨λh=>(by cases h),λ_=>⟨λh'=>absurd h' h,λ_=>QW _⟩⟩
def avK (a b:Int):-1099511627776<=CV a b/\CV a b<=1099511627776:=by
 unfold CV;have:=ahL (a.natAbs*b.natAbs);split<;>omega
def akP (op a b:Int)(ha:-1099511627776<=a/\a<=1099511627776)(hb:-1099511627776<=b/\b<=1099511627776):-1099511627776<=AA op a b/\AA op a b<=1099511627776:=by
 unfold AA;split
 .exact QW _
 split
 .exact QW _
 split
 .exact avK _ _
 split<;>omega
def auh {α β:Type}{f:α->β}{l:List α}{x:β}(h:l.map f=[x]):∃a,l=[a]/\f a=x:=by
 match l,h with
 |[a],h=>exact⟨a,rfl,by simpa using h⟩
def CD {α β:Type}{f:α->β}{l:List α}{x y:β}(h:l.map f=[x,y]):∃a b,l=[a,b]/\f a=x/\f b=y:=by
 match l,h with
 |[a,b],h=>exact⟨a,b,rfl,by simpa using h⟩
def TN {α β:Type}{f:α->β}{l:List α}{x y z:β}(h:l.map f=[x,y,z]):∃a b c,l=[a,b,c]/\f a=x/\f b=y/\f c=z:=by
 match l,h with
 |[a,b,c],h=>exact⟨a,b,c,rfl,by simpa using h⟩
def ab8:∀{L:Nat} {t:Tm} {k:Int} (cs:List Cell),cG L t=(k,0)->xW k (bN L cs t)
 |0,t,k,cs,h=>xc _
 |L+1,t,k,cs,h=>by
  obtain⟨hn,hk⟩:=QO h;obtain⟨ha,_⟩:=QN h;have ih:∀a,a∈t.args->xW (cG L a).1 (bN L cs a):=λa hm=>ab8 cs (show cG L a=((cG L a).1,0) by rw[<-ha a hm]);rw[K7];cases hn with
  |int h0 ha hn=>rw[if_pos (.inl h0)];exact⟨λh=>(by cases h),λ_=>⟨λh=>(by cases h),λ_=>hn⟩⟩
  |bool h0 ha hn=>rw[if_pos (.inr h0)];exact⟨λh=>(by cases h),λ_=>⟨λ_=>hn,λh=>by cases h⟩⟩
  |var h0 ha hn=>rw[if_neg (by omega),if_pos h0];exact awR cs _ hn
  |not h0 hk=>
   rw[if_neg (by omega),if_neg (by omega),if_neg (by omega)];unfold iX;rw[if_pos h0];split
   .exact Dq _
   .exact xc _
  |log h0 hk=>
   rw[if_neg (by omega),if_neg (by omega),if_neg (by omega)];unfold iX;rw[if_neg (by omega)];split
   .exact Dq _
   rw[if_neg (by omega)];split
   .exact xc _
   exact Dq _
  |ite k h0 cE=>
   obtain⟨a,b,c,hl,e1,e2,e3⟩:=TN cE;rw[hl] at ih ⊢;have r1:=ih a (by simp);have r2:=ih b (by simp);have r3:=ih c (by simp);rw[e1] at r1;rw[e2] at r2;rw[e3] at r3;rw[if_neg (by omega),if_neg (by omega)];simp only[iS,List.map_nil,bA,qQ];split
   .rename_i hh;rcases(r1.2 hh.2).1 rfl with h1|h1<;>rw[h1]
    .exact r3
    .exact r2
   .unfold iX;rw[if_neg (by omega),if_neg (by omega),if_pos h0];simp only[bA,qQ,DT];split
    .exact r2
    .exact xc _
  |less h0 hk=>
   rw[if_neg (by omega),if_neg (by omega),if_neg (by omega)];unfold iX;rw[if_neg (by omega),if_neg (by omega),if_neg (by omega)];split
   .exact xc _
   repeat' split
   all_goals exact Dq _
  |equal k h0 hk=>
   rw[if_neg (by omega),if_neg (by omega),if_neg (by omega)];unfold iX;rw[if_neg (by omega),if_neg (by omega),if_neg (by omega)];split
   .exact xc _
   repeat' split
   all_goals exact Dq _
  |num h0 cE=>
   obtain⟨a,b,hl,e1,e2⟩:=CD cE;rw[hl] at ih ⊢;have r1:=ih a (by simp);have r2:=ih b (by simp);rw[e1] at r1;rw[e2] at r2;rw[if_neg (by omega),if_neg (by omega),if_neg (by omega)];unfold iX;rw[if_neg (by omega),if_neg (by omega),if_neg (by omega)];simp only[iS,List.map_nil,bA,qQ,DT];split
   .exact xc _
   rename_i FM;rw[if_neg (by omega),if_neg (by omega),if_neg (by omega)];have k1:(bN L cs a).known=true:=by
    cases e:(bN L cs a).known with
    |true=>rfl
    |false=>exact absurd (.inl e) FM
   have k2:(bN L cs b).known=true:=by
    cases e:(bN L cs b).known with
    |true=>rfl
    |false=>exact absurd (.inr e) FM
   exact⟨λh=>(by cases h),λ_=>⟨λh=>(by cases h),λ_=>akP _ _ _ ((r1.2 k1).2 rfl) ((r2.2 k2).2 rfl)⟩⟩
def afw:∀(L:Nat) (cs:List Cell) (t:Tm),cS L t<=60->((eH L cs t).length:Int)<=cS L t
 |0,cs,t,h=>by simp[cS] at h
 |L+1,cs,t,h=>by
  have h1:=zl (L+1) t;obtain⟨hl,hp⟩:=TP h;have hs:∀(l:List Tm) (n:Int),(∀a,a∈l->cS L a<=60)->ga (cS L) l n<=60->((l.map (eH L cs)).flatten.length:Int)+n<=ga (cS L) l n/\∀j,(((l.map (eH L cs)).getD j []).length:Int)+n<=ga (cS L) l n:=by
   intro l
   induction l with
   |nil=>intro n _ _;simp[ga]
   |cons a l ih=>
    intro n hp hm;have ha:=afw L cs a (hp a (by simp));unfold ga at hm ⊢;split at hm
    .omega
    .rename_i h60;rw[if_neg h60];obtain⟨i1,i2⟩:=ih (n+cS L a) (λb hb=>hp b (by simp[hb])) hm;refine⟨by rw[iS,aau,mM];omega,λj=>?_⟩;cases j with
     |zero=>simp;omega
     |succ j=>have:=i2 j;simp at this ⊢;omega
  obtain⟨L8,dU⟩:=hs t.args 1 hp h;rw[MG];split
  .simp;omega
  split
  .split<;>simp<;>omega
  split
  .have:=dU (2-(bA (t.args.map (bN L cs)) 0).n).toNat;show _<=ga _ _ _;omega
  split
  .simp;omega
  .show _<=ga _ _ _;omega
@[simp] def aHY (x y:List Int):xk (ints x) 0 (ints y)=ints y:=zyz
@[simp] def axr (x y:Cell):xk (cX x) 0 (cX y)=cX y:=zyz
@[simp] def aGu (a b:List Int):D.list (a.map D.int++b.map D.int)=ints (a++b):=by simp[ints]
def lists (l:List (List Int)):D:=.list (l.map ints)
@[simp] def aGG (l:List (List Int)):(lists l).l=l.map ints:=zyz
def aj4 (l:List (List Int))(hl:l.length<=1000)(hs:l.flatten.length<=1000000):ah T 221 [lists l] (ints l.flatten):=by
 refine zyw 59 azI ?_;simp[YY];have hb:∀k,(l.take k).flatten.length<=l.flatten.length:=by
  intro k
  conv=>rhs;rw[<-I7 k l]
  rw[List.flatten_append,mM];omega
 have bD:∀k (hk:k<l.length),(l.take (k+1)).flatten=(l.take k).flatten++l[k]:=λk hk=>by
  rw[jn hk,List.flatten_append];simp
 refine aO.forRounds l.length (λk=>[.int ((l.take k).flatten.length:Nat),.int k]) (λk=>[]) ?_ (λk hk=>?_) ?_
 .simp
 .have hw:=bx hk (by omega);have h1:=bD k hk;have h2:=hb (k+1);rw[h1] at h2 ⊢;rw[mM] at h2 ⊢;generalize (l.take k).flatten.length=m at*;have uX:i64.wrap ((m:Int)+(l[k].length:Int))=(m:Int)+l[k].length:=aQ (by omega);have FW:¬((m:Int)+l[k].length<0):=by omega
  simp[aiL,Oc,hk,hw,uX,FW]
 .simp[aiL,Oc];have eV:ah T 231 [.list [],.int (l.flatten.length:Nat)] (.list []):=by
   refine .of_ext (g:=λ_ ds=>Lg ds) rfl ⟨0,λ_ _=>?_⟩;show(if(0:Int)<=(l.flatten.length:Nat)/\((l.flatten.length:Nat):Int)<=4294967296 then some (D.list []) else none)=some (D.list []);rw[if_pos (by omega)]
  rw[List.length_flatten] at eV;refine⟨_,eV,?_⟩;refine aO.forRounds l.length (λk=>[.none,.int k]) (λk=>[ints (l.take k).flatten]) ?_ (λk hk=>?_) ?_
  .simp[ints]
  .have hw:=bx hk (by omega);have h1:=bD k hk;have h2:=hb (k+1);rw[h1] at h2 ⊢;rw[mM] at h2;generalize (l.take k).flatten=m at*;simp[aiM,Od,hk,hw];omega
  .simp[aiM,Od]
def al9 {op:Int}{l:List Cell}(h:(iX op l).known=false):iX op l=fa:=by
 have hy:∀b,(iQ b).known=true:=λb=>by cases b<;>simp[iQ]
 unfold iX at h ⊢;split<;>rename_i c1
 .rw[if_pos c1] at h;split<;>rename_i c2
  .rw[if_pos c2,hy] at h;cases h
  .rfl
 rw[if_neg c1] at h;split<;>rename_i c2
 .rw[if_pos c2,hy] at h;cases h
 rw[if_neg c2] at h;split<;>rename_i c3
 .rw[if_pos c3] at h;split<;>rename_i c4
  .rw[if_pos c4,c4.1] at h;cases h
  .rfl
 rw[if_neg c3] at h;split<;>rename_i c4
 .rfl
 rw[if_neg c4] at h
 repeat' split at h
 all_goals first|(rw[hy] at h;cases h)|cases h
def ajw:∀(L:Nat) (cs:List Cell) (t:Tm) (k:Int),t.OK->cS L t<=60->cG L t=(k,0)->ah T 202 [Ra cs,dP t] (.tup [cX (bN L cs t),ints (eH L cs t)])
 |0,cs,t,k,ht,hm,hc=>by simp[cS] at hm
 |L+1,cs,t,k,ht,hm,hc=>by
  refine zyw 52 az8 ?_;obtain⟨hl,hp⟩:=TP hm;obtain⟨ha,_⟩:=QN hc;obtain⟨hn,aFU⟩:=QO hc;have jx:∀a,a∈t.args->ah T 202 [Ra cs,dP a] (.tup [cX (bN L cs a),ints (eH L cs a)]):=λa fG=>ajw L cs a (cG L a).1 (ht.arg fG) (hp a fG) (by rw[<-ha a fG]);have yX:∀a,a∈t.args->xW (cG L a).1 (bN L cs a):=λa fG=>ab8 cs (show cG L a=((cG L a).1,0) by rw[<-ha a fG]);have FV:∀a,a∈t.args->(eH L cs a).length<=60:=λa fG=>by have:=afw L cs a (hp a fG);have:=hp a fG;omega
  by_cases jQ:t.op=0\/t.op=1
  ·
   have e1:bN (L+1) cs t=⟨true,t.n⟩:=by rw[K7,if_pos jQ]
   have e2:eH (L+1) cs t=[]:=by rw[MG,if_pos jQ]
   rw[e1,e2];rcases jQ with h|h<;>simp[IG,h]<;>exact⟨rfl,rfl⟩
  have o0:t.op≠0:=λh=>jQ (.inl h);have o1:t.op≠1:=λh=>jQ (.inr h);by_cases o2:t.op=2
  .have hv:0<=t.n:=by
    cases hn with
    |var h0 ha hn=>exact hn.1
    |_=>omega
   have e1:bN (L+1) cs t=mK cs t.n:=by rw[K7,if_neg jQ,if_pos o2]
   have e2:eH (L+1) cs t=if(mK cs t.n).known=true then[] else[t.n]:=by rw[MG,if_neg jQ,if_pos o2]
   rw[e1,e2];simp[IG,o2];refine⟨_,axK cs t.n hv,?_⟩;cases e:(mK cs t.n).known
   .have:mK cs t.n=fa:=by
     unfold mK at e ⊢;split
     .rfl
     .rename_i h;rw[if_neg h] at e;split at e
      .cases hb:decide ((cellAt cs t.n).n≠0)<;>rw[hb] at e<;>cases e
      .cases e
    rw[this];simp[ints]
   .have h:mK cs t.n=⟨true,(mK cs t.n).n⟩:=by rw[<-e]
    rw[h];simp[ints]
    try rfl
  have hlen:1<=t.args.length/\(t.op≠3->2<=t.args.length)/\(t.op=6->3<=t.args.length):=by
   cases hn with
   |int h0 ha hn=>omega
   |bool h0 ha hn=>omega
   |var h0 ha hn=>omega
   |not h0 hk=>obtain⟨a,hl,_⟩:=auh hk;rw[hl];simp;omega
   |log h0 hk=>obtain⟨a,b,hl,_⟩:=CD hk;rw[hl];simp;omega
   |ite k h0 hk=>obtain⟨a,b,c,hl,_⟩:=TN hk;rw[hl];simp
   |less h0 hk=>obtain⟨a,b,hl,_⟩:=CD hk;rw[hl];simp;omega
   |equal k h0 hk=>obtain⟨a,b,hl,_⟩:=CD hk;rw[hl];simp;omega
   |num h0 hk=>obtain⟨a,b,hl,_⟩:=CD hk;rw[hl];simp;omega
  have hb9:9<=t.op->(-1099511627776<=(bA (t.args.map (bN L cs)) 0).n/\(bA (t.args.map (bN L cs)) 0).n<=1099511627776)/\(-1099511627776<=(bA (t.args.map (bN L cs)) 1).n/\(bA (t.args.map (bN L cs)) 1).n<=1099511627776):=by
   intro h9;have rb:∀c:Cell,xW 0 c->-1099511627776<=c.n/\c.n<=1099511627776:=by
    intro c hr;cases e:c.known with
    |false=>rw[hr.1 e];simp
    |true=>exact(hr.2 e).2 rfl
   cases hn with
   |num h0 hk=>
    obtain⟨a,b,hl,ea,eb⟩:=CD hk;rw[hl] at yX ⊢;have r1:=yX a (by simp);have r2:=yX b (by simp);rw[ea] at r1;rw[eb] at r2;exact⟨rb _ r1,rb _ r2⟩
   |log h0 hk=>omega
   |_=>omega
  have h6:t.op=6->(bA (t.args.map (bN L cs)) 0).known=true->(bA (t.args.map (bN L cs)) 0).n=0\/(bA (t.args.map (bN L cs)) 0).n=1:=by
   intro o6 FM;cases hn with
   |ite k h0 hk=>
    obtain⟨a,b,c,hl,ea,_⟩:=TN hk;rw[hl] at yX FM ⊢;have r1:=yX a (by simp);rw[ea] at r1;exact(r1.2 FM).1 rfl
   |log h0 hk=>omega
   |num h0 hk=>omega
   |_=>omega
  have eD:t.op<3\/8<t.op->9<=t.op:=by
   cases hn with
   |log h0 hk=>omega
   |num h0 hk=>omega
   |_=>omega
  have e1:bN (L+1) cs t=if t.op=6/\(bA (t.args.map (bN L cs)) 0).known=true then bA (t.args.map (bN L cs)) (2-(bA (t.args.map (bN L cs)) 0).n).toNat else iX t.op (t.args.map (bN L cs)):=by
   rw[K7,if_neg jQ,if_neg o2]
  have e2:eH (L+1) cs t=if t.op=6/\(bA (t.args.map (bN L cs)) 0).known=true then(t.args.map (eH L cs)).getD (2-(bA (t.args.map (bN L cs)) 0).n).toNat [] else if(iX t.op (t.args.map (bN L cs))).known=true then[] else(t.args.map (eH L cs)).flatten:=by
   rw[MG,if_neg jQ,if_neg o2]
  rw[e1,e2];simp[IG,o0,o1,o2];refine⟨by omega,?_⟩;refine aO.forRounds t.args.length (λk=>[.int k]) (λk=>[cells ((t.args.map (bN L cs)).take k++List.replicate (t.args.length-k) fa),lists ((t.args.map (eH L cs)).take k++List.replicate (t.args.length-k) [])]) ?_ (λk hk=>?_) ?_
  .simp[cells,lists,ints]
  .have hw:=bx hk (by omega);have cV:=bU hk;have hr:=jx _ cV;have s1:=WW (t.args.map (bN L cs)) fa (n:=t.args.length) (by simp) hk;have s2:=WW (t.args.map (eH L cs)) [] (n:=t.args.length) (by simp) hk;rw[<-s1,<-s2];have l1:((t.args.map (bN L cs)).take k++List.replicate (t.args.length-k) fa).length=t.args.length:=by simp;omega
   have l2:((t.args.map (eH L cs)).take k++List.replicate (t.args.length-k) []).length=t.args.length:=by simp;omega
   have g1:(t.args.map (bN L cs))[k]'(by simpa using hk)=bN L cs t.args[k]:=by simp
   have g2:(t.args.map (eH L cs))[k]'(by simpa using hk)=eH L cs t.args[k]:=by simp
   rw[g1,g2];generalize (t.args.map (bN L cs)).take k++List.replicate (t.args.length-k) fa=A at*;generalize (t.args.map (eH L cs)).take k++List.replicate (t.args.length-k) []=B at*;generalize bN L cs t.args[k]=c at*;generalize eH L cs t.args[k]=d at*;simp[WB,If,hk];refine⟨_,hr,?_⟩;simp[hw,hk,l1,l2,cells,lists]
  .have hA:(t.args.map (bN L cs)).take t.args.length++List.replicate (t.args.length-t.args.length) fa=t.args.map (bN L cs):=by rw[Pw,List.replicate_zero,um,xT (by simp)]
   have hB:(t.args.map (eH L cs)).take t.args.length++List.replicate (t.args.length-t.args.length) []=t.args.map (eH L cs):=by rw[Pw,List.replicate_zero,um,xT (by simp)]
   have lA:(t.args.map (bN L cs)).length=t.args.length:=by simp
   have lB:(t.args.map (eH L cs)).length=t.args.length:=by simp
   have vW:∀l:List Tm,(∀a,a∈l->a∈t.args)->((l.map (eH L cs)).flatten.length<=l.length*60):=by
    intro l
    induction l with
    |nil=>intro _;simp
    |cons a l ih=>
     intro h;have h1:=FV a (h a (by simp));have h2:=ih (λb hb=>h b (by simp[hb]));rw[iS,aau,mM,qT];omega
   have vW:=vW t.args (λa h=>h);have hBg:∀m:Nat,(Option.map (eH L cs) t.args[m]?).getD []=(t.args.map (eH L cs)).getD m []:=λm=>by simp[aE]
   rw[hA,hB];generalize t.args.map (bN L cs)=A at*;generalize t.args.map (eH L cs)=B at*;have g0:0<A.length:=by omega
   have yx:A[0]=bA A 0:=by simp[bA,g0]
   by_cases Lq:t.op=6/\(bA A 0).known=true
   .obtain⟨o6,kn⟩:=Lq;have hv:=h6 o6 kn;have hw:i64.wrap (2-(bA A 0).n)=2-(bA A 0).n:=aQ (by omega);have h3:3<=t.args.length:=hlen.2.2 o6;rw[if_pos ⟨o6,kn⟩,if_pos ⟨o6,kn⟩];obtain⟨m,fG⟩:∃m:Nat,m=(2-(bA A 0).n).toNat:=⟨_,rfl⟩
    have FQ:m<A.length:=by omega
    have Si:m<B.length:=by omega
    simp[WB,If,o6,kn,g0,yx,hw,<-fG,FQ,Si,cells,lists];refine⟨by omega,by omega,by simp[bA,FQ],?_⟩;rw[hBg,aE,aU Si];rfl
   .rw[if_neg Lq,if_neg Lq];have ap1:=axG t.op A (by omega) (by omega) (by omega) hb9 eD;have ap2:=aj4 B (by omega) (by omega);simp[WB,If,g0,yx];rw[if_neg Lq];refine⟨_,ap1,?_⟩;cases e:(iX t.op A).known
    .have fH:iX t.op A=fa:=al9 e;rw[fH];simp;exact ap2
    .have h:iX t.op A=⟨true,(iX t.op A).n⟩:=by rw[<-e]
     rw[h];simp[ints]
     try rfl
def nl (n:Nat)(g:Nat->Bool):Int:=if(List.range n).findIdx g<n then((List.range n).findIdx g:Nat) else-1
def Gx (n:Nat)(g:Nat->Bool):(nl n g=-1/\∀k,k<n->g k=false)\/∃k:Nat,k<n/\nl n g=k/\g k=true/\∀i,i<k->g i=false:=by
 unfold nl;split
 .rename_i h;refine .inr ⟨_,h,rfl,?_,λi hi=>?_⟩
  .have:=List.findIdx_getElem (p:=g) (xs:=List.range n) (w:=by simpa using h);simpa using this
  .have:=List.not_of_lt_findIdx (p:=g) (xs:=List.range n) hi;simpa using this
 .rename_i h;refine .inl ⟨rfl,λk hk=>?_⟩;have:=List.not_of_lt_findIdx (p:=g) (xs:=List.range n) (i:=k) (by omega);simpa using this
def Ml {n:Nat}{g:Nat->Bool}(h:∀k,k<n->g k=false):nl n g=-1:=by
 rcases Gx n g with⟨h1,_⟩|⟨k,hk,_,h2,_⟩
 .exact h1
 .rw[h k hk] at h2;cases h2
def Mm {n k:Nat}{g:Nat->Bool}(hk:k<n)(h:g k=true)(hj:∀i,i<k->g i=false):nl n g=k:=by
 rcases Gx n g with⟨_,h1⟩|⟨m,hm,h1,h2,h3⟩
 .rw[h1 k hk] at h;cases h
 .rcases Nat.lt_trichotomy m k with h4|h4|h4
  .rw[hj m h4] at h2;cases h2
  .rw[h1,h4]
  .rw[h3 k h4] at h;cases h
def Tx (n:Nat)(g:Nat->Bool):decide (0<=nl n g)=(List.range n).any g:=by
 rcases Gx n g with⟨h1,h2⟩|⟨m,hm,h1,h2,h3⟩
 .rw[h1]
  symm
  simp;exact h2
 .rw[h1];simp;exact⟨m,hm,h2⟩
def akf (l:List Rule)(f:Nat)(caps:List D)(g:Nat->Bool)(hg:∀k (hk:k<l.length),ah T f (uE l[k]::caps) (.bool (g k)))(hl:l.length<=4294967296):
 ah T 199 [rules l,.clo f caps] (.int (nl l.length g)):=by
 refine zyw 43 azQ ?_;simp[Zg];refine .scan l.length (λk=>g k=false) (λk=>[.int 0,.int k]) (λ_=>[]) ?_ (λk hk hj ho=>?_) (λk hk hj ho=>?_) (λhj=>?_)
 .simp
 .have hw:=bx hk hl;simp[Wv,H9,hk,hw];refine⟨_,_,⟨rfl,rfl⟩,_,hg k hk,?_⟩;simp[ho,hw]
 .have he:=Mm hk (by simpa using ho) hj;simp[Wv,H9,hk,he];refine⟨_,_,⟨rfl,rfl⟩,_,hg k hk,?_⟩;simp[ho]
 .have he:=Ml hj;simp[Wv,H9,he]
def akg (l:List Int)(f:Nat)(caps:List D)(g:Nat->Bool)(hg:∀k (hk:k<l.length),ah T f (.int l[k]::caps) (.bool (g k)))(hl:l.length<=4294967296):
 ah T 224 [ints l,.clo f caps] (.int (nl l.length g)):=by
 refine zyw 38 azR ?_;simp[Zh];refine .scan l.length (λk=>g k=false) (λk=>[.int 0,.int k]) (λ_=>[]) ?_ (λk hk hj ho=>?_) (λk hk hj ho=>?_) (λhj=>?_)
 .simp
 .have hw:=bx hk hl;simp[Ww,Ia,hk,hw,ints];refine⟨_,_,⟨rfl,rfl⟩,_,hg k hk,?_⟩;simp[ho,hw]
 .have he:=Mm hk (by simpa using ho) hj;simp[Ww,Ia,hk,he,ints];refine⟨_,_,⟨rfl,rfl⟩,_,hg k hk,?_⟩;simp[ho]
 .have he:=Ml hj;simp[Ww,Ia,he,ints]
def akd (l:List Alter)(f:Nat)(caps:List D)(g:Nat->Bool)(hg:∀k (hk:k<l.length),ah T f (pR l[k]::caps) (.bool (g k)))(hl:l.length<=4294967296):
 ah T 223 [alters l,.clo f caps] (.int (nl l.length g)):=by
 refine zyw 26 azO ?_;simp[Ze];refine .scan l.length (λk=>g k=false) (λk=>[.int 0,.int k]) (λ_=>[]) ?_ (λk hk hj ho=>?_) (λk hk hj ho=>?_) (λhj=>?_)
 .simp
 .have hw:=bx hk hl;simp[Wt,H7,hk,hw];refine⟨_,_,⟨rfl,rfl⟩,_,hg k hk,?_⟩;simp[ho,hw]
 .have he:=Mm hk (by simpa using ho) hj;simp[Wt,H7,hk,he];refine⟨_,_,⟨rfl,rfl⟩,_,hg k hk,?_⟩;simp[ho]
 .have he:=Ml hj;simp[Wt,H7,he]
def aj7 (l:List Int)(f:Nat)(caps:List D)(g:Nat->Bool)(hg:∀k (hk:k<l.length),ah T f (.int l[k]::caps) (.bool (g k)))(hl:l.length<=4294967296):
 ah T 215 [ints l,.clo f caps] (.bool ((List.range l.length).any g)):=by
 refine zyw 37 azL ?_;simp[Zb];refine⟨_,akg l f caps g hg hl,?_⟩;have:=Tx l.length g;simp[<-this]
def aj5 (l:List Alter)(f:Nat)(caps:List D)(g:Nat->Bool)(hg:∀k (hk:k<l.length),ah T f (pR l[k]::caps) (.bool (g k)))(hl:l.length<=4294967296):
 ah T 211 [alters l,.clo f caps] (.bool ((List.range l.length).any g)):=by
 refine zyw 25 azJ ?_;simp[YZ];refine⟨_,akd l f caps g hg hl,?_⟩;have:=Tx l.length g;simp[<-this]
def BL (cs:List Cell)(t:Tm):Cell:=if(pM t).2=0 then bN 8 cs t else fa
def alL {t:Tm}(h:(pM t).2=0):cS 8 t<=60/\cG 8 t=((pM t).1,0):=by
 unfold pM at h ⊢;split at h
 .cases h
 .rename_i hm;rw[if_neg hm];exact⟨by omega,by rw[<-h]⟩
def axE (t:Tm)(cs:List Cell)(ht:t.OK):ah T 182 [dP t,cells cs] (cX (BL cs t)):=by
 refine zyw 51 az1 ?_;simp[Zs,BL];refine⟨_,aju t ht,?_⟩;by_cases h:(pM t).2=0
 .obtain⟨h1,h2⟩:=alL h;simp[h];refine⟨_,ajw 8 cs t _ ht h1 h2,?_⟩;simp
  try rfl
 .simp[h]
  try rfl
def TY:List Int:=[6,7,10,12,13,14,15,16,20,21]
def sG (ask:Int):Int×Bool:=if ask<0\/22<=ask then(0,false) else if hasB TY ask then(0,true) else(1,true)
def U3 (ask:Int):ah T 178 [.int ask] (.tup [.int (sG ask).1,.bool (sG ask).2]):=by
 refine zyw 31 ayA ?_;simp[XV,sG];by_cases h0:ask<0
 .simp[h0]
 by_cases h1:22<=ask
 .simp[h0,h1]
 simp[h0,h1];refine⟨_,xF TY ask (by decide),?_⟩;cases h:hasB TY ask<;>simp[h]
def MH:Tm:=⟨0,0,[]⟩
def xg (o:Order)(ask:Int)(k:Nat):Bool:=decide ((o.rules.getD k default).ask=ask)
def Ir (o:Order)(i:Int):Tm:=(o.rules.getD i.toNat default).term
def findF (o:Order)(ask:Int):Tm×Int:=
 if(sG ask).2=false then(MH,1) else if nl o.rules.length (xg o ask)<0 then(MH,4) else
    if(pM (Ir o (nl o.rules.length (xg o ask)))).2≠0\/(pM (Ir o (nl o.rules.length (xg o ask)))).1≠(sG ask).1 then(MH,11) else(Ir o (nl o.rules.length (xg o ask)),0)
def ai6 {o:Order}(ho:o.OK){m:Nat}(hm:m<o.rules.length):o.rules[m].term.OK:=(ho.2.2 _ (bU hm)).2
def TX:MH.OK:=by
 exact .mk 0 0 [] (by unfold ba;omega) (by unfold ba;omega) (by decide) (λ_ h=>by cases h)
def anU {o:Order}(ho:o.OK)(ask:Int):(findF o ask).1.OK:=by
 unfold findF;split
 .exact TX
 split
 .exact TX
 split
 .exact TX
 .rename_i h _;rcases Gx o.rules.length (xg o ask) with⟨h1,h2⟩|⟨m,hm,h1,h2,h3⟩
  .exact absurd (by rw[h1];decide) h
  .rw[h1];simp[Ir,hm];exact ai6 ho hm
def anS (r:Rule)(ask:Int):ah T 200 [uE r,.ref (.int ask)] (.bool (decide (r.ask=ask))):=by
 refine zyw 42 ayB ?_;simp[XX]
def au7 (o:Order)(ask:Int)(ho:o.OK)(hl:o.rules.length<=4294967296):ah T 181 [kq o,.int ask] (.tup [dP (findF o ask).1,.int (findF o ask).2]):=by
 refine zyw 41 ayC ?_;simp[XW,findF];refine⟨_,U3 ask,?_⟩;cases h0:(sG ask).2
 .simp[h0]
  try rfl
 simp[h0];refine⟨_,akf o.rules 200 [.ref (.int ask)] (xg o ask) (λk hk=>by simpa [xg,hk] using anS o.rules[k] ask) hl,?_⟩;rcases Gx o.rules.length (xg o ask) with⟨h1,h2⟩|⟨m,hm,h1,h2,h3⟩
 .rw[h1];simp
  try rfl
 .rw[h1];have FW:¬((m:Int)<0):=by omega
  have htm:o.rules[m].term.OK:=ai6 ho hm;simp[hm,Ir,FW];refine⟨_,aju _ htm,?_⟩;by_cases h4:(pM o.rules[m].term).2=0<;>by_cases h5:(pM o.rules[m].term).1=(sG ask).1<;>simp[h4,h5]<;>try rfl
def Az (o:Order)(ask:Int)(cs:List Cell):Cell×Int:=
 if(findF o ask).2≠0 then(fa,(findF o ask).2) else
    (if(sG ask).1=0/\(BL cs (findF o ask).1).known=true then⟨true,min (max (BL cs (findF o ask).1).n 0) 20000⟩ else BL cs (findF o ask).1,0)
def au5 (o:Order)(ask:Int)(cs:List Cell)(ho:o.OK)(hl:o.rules.length<=4294967296):ah T 145 [kq o,.int ask,cells cs] (.tup [cX (Az o ask cs).1,.int (Az o ask cs).2]):=by
 refine zyw 40 ayz ?_;simp[XU];refine⟨_,au7 o ask ho hl,?_⟩;have hf:(findF o ask).1.OK:=anU ho ask;by_cases h:(findF o ask).2=0
 .simp[h,Az];refine⟨_,axE _ cs hf,_,U3 ask,?_⟩;generalize BL cs (findF o ask).1=c;obtain⟨kn,n⟩:=c;by_cases h1:(sG ask).1=0
  .cases kn
   .simp[h1,cX]
   .by_cases h2:n<0
    .have:min (max n 0) 20000=0:=by omega
     simp[h1,cX,h2,this];rfl
    .by_cases h3:20000<n
     .have:min (max n 0) 20000=20000:=by omega
      simp[h1,cX,h2,h3,this];rfl
     .have:min (max n 0) 20000=n:=by omega
      simp[h1,cX,h2,h3,this];rfl
  .simp[h1,cX]
 .simp[h,Az]
  try rfl
def aiS (b:Bool):ah T 213 [.bool b] (cX (iQ b)):=by
 refine zyw 29 azG ?_;cases b<;>simp[YW,iQ]<;>rfl
def K9 (kind sign:Int)(x:Fact):Bool:=decide (x.kind=kind)&&decide (x.at_=sign)
def l9 (f:File)(kind sign:Int):Cell:=match f.facts.find? (K9 kind sign) with|none=>fa|some x=>iQ (decide (x.n≠0))
def BN {α:Type}{p:α->Bool}:∀{l:List α} {k:Nat} (hk:k<l.length),p l[k]=true->(∀j (hj:j<k),p (l[j]'(by omega))=false)->l.find? p=some l[k]
 |a::l,0,hk,h,hj=>by simp at h;simp[h]
 |a::l,k+1,hk,h,hj=>by
  have h0:=hj 0 (by omega);simp at h0;simp only[List.find?_cons,h0,List.getElem_cons_succ];exact BN (by simpa using hk) (by simpa using h) (λj bC=>by simpa using hj (j+1) (by omega))
def E6 {α:Type}{p:α->Bool}{l:List α}(h:∀j (hj:j<l.length),p l[j]=false):l.find? p=none:=by
 rw[Ao];intro x hx;obtain⟨j,hj,rfl⟩:=ew hx;rw[h j hj];decide
def Ik (f:File)(kind sign:Int)(hl:f.facts.length<=4294967296):ah T 214 [cf f,.int kind,.int sign] (cX (l9 f kind sign)):=by
 refine zyw 30 azC ?_;simp[YT];refine .scan f.facts.length (λk=>K9 kind sign (f.facts.getD k default)=false) (λk=>[.int k]) (λ_=>[cX fa]) ?_ (λk hk hj ho=>?_) (λk hk hj ho=>?_) (λhj=>?_)
 .simp
 .have hw:=bx hk hl;simp[hk,K9] at ho;by_cases h1:f.facts[k].kind=kind<;>by_cases h2:f.facts[k].at_=sign
  .exact absurd h2 (ho h1)
  all_goals simp[Wp,H4,hk,hw,h1,h2]
 .have hw:=bx hk hl;have hf:l9 f kind sign=iQ (decide (f.facts[k].n≠0)):=by
   unfold l9;rw[BN hk (by simpa [hk] using ho) (λj bC=>by have:=hj j bC;simpa [show j<f.facts.length by omega] using this)]
  simp[hk,K9] at ho;simp[Wp,H4,hk,hw,ho,hf];refine⟨_,aiS _,?_⟩;simp
  try rfl
 .have hf:l9 f kind sign=fa:=by
   unfold l9;rw[E6 (λj bC=>by have:=hj j bC;simpa [bC] using this)]
  simp[Wp,H4,hf]
  try rfl
def gE (r:Realm)(c:Int):Int:=if aC c r.cities.length=true then(r.cities.getD c.toNat default).order else-1
def sy (r:Realm)(c:Int):ah T 147 [aP r,.int c] (.int (gE r c)):=by
 refine zyw 27 azq ?_;simp[YH,gE];refine⟨_,gf c r.cities.length,?_⟩;cases h:aC c r.cities.length
 .simp[h]
 .simp[aC] at h;have h1:c.toNat<r.cities.length:=by omega
  simp[h,h1]
def pv (day:Int)(l:List Sign):List Sign:=l.takeWhile λs=>decide (s.day<=day)
def O9 (day:Int)(l:List Act):List Act:=l.takeWhile λs=>decide (s.day<=day)
def pH (n:Nat)(a:Alter):Bool:=decide (a.at_<=(n:Int))
def rA (n:Nat)(x:Fact):Bool:=aC x.at_ n
def bh (f:File)(day:Int):File:=
 ⟨f.bill,pv day f.signs,f.alters.filter (pH (pv day f.signs).length),O9 day f.acts,f.facts.filter (rA (pv day f.signs).length)⟩
def O3 {α:Type}(p:α->Bool):∀(l:List α),∃m,m<=l.length/\l.takeWhile p=l.take m/\(∀k (hk:k<l.length),k<m->p l[k]=true)/\(∀hk:m<l.length,p l[m]=false)
 |[]=>⟨0,by simp,by simp,λk hk=>by simp at hk,λhk=>by simp at hk⟩
 |a::l=>by
  by_cases h:p a=true
  .obtain⟨m,h1,h2,h3,h4⟩:=O3 p l;refine⟨m+1,by simp;omega,by simp[h,h2],λk hk hm=>?_,λhk=>?_⟩
   .cases k with
    |zero=>simpa using h
    |succ k=>simpa using h3 k (by simpa using hk) (by omega)
   .simpa using h4 (by simpa using hk)
  .refine⟨0,by simp,by simp[h],λk hk hm=>by omega,λhk=>by simpa using h⟩
def OL {α:Type}(p:α->Bool)(l:List α){k:Nat}(hk:k<l.length):(l.take (k+1)).filter p=(l.take k).filter p++if p l[k] then[l[k]] else[]:=by
 rw[jn hk,DS]
 congr 1
 cases h:p l[k]<;>simp[h]
def D3 (b:Bill)(w x y z:D):D:=.agg [.int b.drawer,.int b.drawee,.int b.payee,.int b.sum,.int b.currency,.int b.tenor.kind,.int b.tenor.n,.int b.tenor.unit,.int b.day,.int b.city,.int b.pay,.int b.need,.int b.rate,.int b.flags,.int b.parts,w,x,y,z]
def p8 {α:Type}(l:List α):D:=match l with|[]=>.list []|_=>.none
@[simp] def aGa {α:Type}:p8 ([]:List α)=.list []:=rfl
@[simp] def aF9 {α:Type}(l:List α)(x:α):p8 (l++[x])=.none:=by cases l<;>rfl
def WG (f:File)(day:Int)(h1:f.signs.length<=4294967295)(h2:f.acts.length<=4294967295)(h3:f.alters.length<=4294967295)(h4:f.facts.length<=4294967295):ah T 62 [cf f,.int day] (cf (bh f day)):=by
 refine zyw 17 azB ?_;simp[YS];obtain⟨m,hm,hS,hS1,BY⟩:=O3 (λs:Sign=>decide (s.day<=day)) f.signs;obtain⟨n,hn,hA,hA1,hA2⟩:=O3 (λs:Act=>decide (s.day<=day)) f.acts;refine aO.forRounds m (λk=>[.int k]) (λk=>[signs (f.signs.take k),D3 f.bill (p8 (f.signs.take k)) (.list []) (.list []) (.list [])]) ?_ (λk hk=>?_) ?_
 .simp[D3,signs]
  try rfl
 .have bf:k<f.signs.length:=by omega
  have hw:=bx bf (by omega);have hd:=hS1 k bf hk;simp at hd;have gw:¬day<f.signs[k].day:=by omega
  have hle:(k:Int)+1<=4294967296:=by omega
  have ht:=jn bf;rw[ht];have hlen:(f.signs.take k).length=k:=by simp;omega
  generalize f.signs.take k=A at*;simp[Wl,HZ,bf,hw,gw,hlen];exact⟨hle,by simp[signs],rfl⟩
 have hSl:(f.signs.take m).length<=4294967295:=by rw[dO];omega
 have hAt:bh f day=⟨f.bill,f.signs.take m,f.alters.filter (pH (f.signs.take m).length),f.acts.take n,f.facts.filter (rA (f.signs.take m).length)⟩:=by
  unfold bh pv O9;rw[hS,hA]
 rw[hAt];generalize f.signs.take m=S at*;have hAl:(f.acts.take n).length<=4294967295:=by rw[dO];omega
 by_cases fG:m<f.signs.length
 case' pos=>
  have hd:=BY fG;simp at hd;simp[Wl,HZ,fG,hd];generalize D.bool true=bb
 case' neg=>
  have FP:m=f.signs.length:=by omega
  simp[Wl,HZ,fG,FP];generalize D.bool false=bb
 all_goals
  refine aO.forRounds n (λk=>[.int k]) (λk=>[acts (f.acts.take k),D3 f.bill (p8 S) (.list []) (p8 (f.acts.take k)) (.list [])]) ?_ (λk hk=>?_) ?_
  .simp[acts]
  .have bf:k<f.acts.length:=by omega
   have hw:=bx bf (by omega);have hd:=hA1 k bf hk;simp at hd;have gw:¬day<f.acts[k].day:=by omega
   have hle:(k:Int)+1<=4294967296:=by omega
   have ht:=jn bf;rw[ht];have hlen:(f.acts.take k).length=k:=by simp;omega
   generalize f.acts.take k=A at*;simp[Wm,H0,bf,hw,gw,hlen];exact⟨hle,by simp[acts],rfl⟩
  generalize f.acts.take n=A at*;by_cases lI:n<f.acts.length
  case' pos=>
   have hd:=hA2 lI;simp at hd;simp[Wm,H0,lI,hd];generalize D.bool true=bc
  case' neg=>
   have rL:n=f.acts.length:=by omega
   simp[Wm,H0,lI,rL];generalize D.bool false=bc
  all_goals
   refine aO.forRounds f.alters.length (λk=>[.int k]) (λk=>[D3 f.bill (p8 S) (p8 ((f.alters.take k).filter (pH S.length))) (p8 A) (.list []),alters ((f.alters.take k).filter (pH S.length))]) ?_ (λk hk=>?_) ?_
   .simp[alters]
   .have hw:=bx hk (by omega);have ht:=OL (pH S.length) f.alters hk;rw[ht];have hlen:((f.alters.take k).filter (pH S.length)).length<=k:=gm (pA _ _) (by simp;omega);generalize (f.alters.take k).filter (pH S.length)=B at*;by_cases hd:f.alters[k].at_<=(S.length:Int)
    .simp[Wn,H2,pH,hk,hw,hd];exact⟨by omega,rfl,by simp[alters]⟩
    .simp[Wn,H2,pH,hk,hw,hd]
   simp[Wn,H2];generalize f.alters.filter (pH S.length)=B at*;refine aO.forRounds f.facts.length (λk=>[.int k]) (λk=>[D3 f.bill (p8 S) (p8 B) (p8 A) (p8 ((f.facts.take k).filter (rA S.length))),facts ((f.facts.take k).filter (rA S.length))]) ?_ (λk hk=>?_) ?_
   .simp[facts]
   .have hw:=bx hk (by omega);have ht:=OL (rA S.length) f.facts hk;rw[ht];have hlen:((f.facts.take k).filter (rA S.length)).length<=k:=gm (pA _ _) (by simp;omega);generalize (f.facts.take k).filter (rA S.length)=C at*;cases hd:aC f.facts[k].at_ S.length
    .simp[Wo,H3,rA,hk,hw,hd];refine⟨_,sA _ _,?_⟩;simp[hd,hw]
    .simp[Wo,H3,rA,hk,hw,hd];refine⟨_,sA _ _,?_⟩;simp[hd,hw];exact⟨by omega,rfl,by simp[facts]⟩
   simp[Wo,H3];rfl
def CI:List Int->Int
 |[]=>-1
 |x::l=>l.foldl min x
def akp (x:Int)(l:List Int)(hl:l.length<4294967296):ah T 109 [ints (x::l)] (.int (CI (x::l))):=by
 refine zyw 64 azU ?_;have h0:¬((l.length:Int)+1<1):=by omega
 simp[Zk,h0,CI,ints];refine aO.forRounds l.length (λk=>[.int ((l.take k).foldl min x),.int ((k:Int)+1)]) (λk=>[]) ?_ (λk hk=>?_) ?_
 .simp
 .have hw:i64.wrap ((k:Int)+1+1)=(k:Int)+1+1:=aQ (by omega);rw[jn hk,uo];generalize (l.take k).foldl min x=y;have ht:((k:Int)+1).toNat=k+1:=by omega
  have af:(k:Int)+1<(l.length:Int)+1:=by omega
  simp[aiN,Oe,hk,hw,ht,af];refine⟨by omega,?_⟩;by_cases h:l[k]<y
  .simp[h];omega
  .simp[h];omega
 .simp[aiN,Oe]
def lW (f:File)(n:Nat):List Int:=if f.bill.tenor.kind=1 then((f.signs.take n).filter (λs=>decide (s.kind=1))).map (·.day) else[]
def mI (f:File)(n:Nat):List Int:=if f.bill.tenor.kind=1 then((f.acts.take n).filter (λs=>decide (s.kind=1))).map (·.day) else[]
def Ix (f:File)(a:Act):Bool:=decide (f.bill.tenor.kind=0)&&decide (a.kind=2)
def nA (f:File):Int:=match f.acts.find? (Ix f) with|some a=>a.day|none=>CI (lW f f.signs.length++mI f f.acts.length)
def awD (f:File)(h1:f.signs.length<=100000)(h2:f.acts.length<=100000):ah T 66 [cf f] (.int (nA f)):=by
 refine zyw 63 azD ?_;simp[YU];refine aO.forRounds f.signs.length (λk=>[.none,.int k]) (λk=>[ints (lW f k)]) ?_ (λk hk=>?_) ?_
 .simp[lW,ints]
 .have hw:=bx hk (by omega);have hs:lW f (k+1)=lW f k++if f.bill.tenor.kind=1/\f.signs[k].kind=1 then[f.signs[k].day] else[]:=by
   unfold lW;by_cases h:f.bill.tenor.kind=1
   .simp only[if_pos h,OL _ _ hk,nR,h,true_and]
    congr 1
    by_cases h':f.signs[k].kind=1<;>simp[h']
   .simp[h]
  have hlen:(lW f k).length<=k:=by
   unfold lW;split
   .rw[ef];exact gm (pA _ _) (by simp;omega)
   .simp
  rw[hs];generalize lW f k=A at*;by_cases hc:f.bill.tenor.kind=1/\f.signs[k].kind=1
  .simp[Wq,H5,hk,hw,hc];exact⟨by omega,by simp[ints]⟩
  .simp[Wq,H5,hk,hw,hc]
 .have hlS:(lW f f.signs.length).length<=100000:=by
   unfold lW;split
   .rw[ef];exact gm (pA _ _) (by simp;omega)
   .simp
  have hE:nA f=match f.acts.find? (Ix f) with|some a=>a.day|none=>CI (lW f f.signs.length++mI f f.acts.length):=rfl
  generalize lW f f.signs.length=A at*;simp[Wq,H5];refine aO.scan f.acts.length (λk=>Ix f (f.acts.getD k default)=false) (λk=>[.int 0,.none,.int k]) (λk=>[ints (A++mI f k)]) ?_ (λk hk hj ho=>?_) (λk hk hj ho=>?_) (λhj=>?_)
  .simp[mI,ints]
  .have hw:=bx hk (by omega);have hs:mI f (k+1)=mI f k++if f.bill.tenor.kind=1/\f.acts[k].kind=1 then[f.acts[k].day] else[]:=by
        unfold mI;by_cases h:f.bill.tenor.kind=1
        .simp only[if_pos h,OL _ _ hk,nR,h,true_and]
         congr 1
         by_cases h':f.acts[k].kind=1<;>simp[h']
        .simp[h]
   have hlen:(mI f k).length<=k:=by
        unfold mI;split
        .rw[ef];exact gm (pA _ _) (by simp;omega)
        .simp
   rw[hs];generalize mI f k=B at*;simp[Ix,hk] at ho;by_cases hc:f.bill.tenor.kind=1/\f.acts[k].kind=1
   .simp[H6,zR,hk,hw,hc];exact⟨by omega,by simp[ints]⟩
   .have hn:¬(f.bill.tenor.kind=0/\f.acts[k].kind=2):=λh=>ho h.1 h.2;simp[H6,zR,hk,hw,hc,hn]
  .have hf:nA f=f.acts[k].day:=by
        rw[hE,BN hk (by simpa [hk] using ho) (λj bC=>by have:=hj j bC;simpa [show j<f.acts.length by omega] using this)]
   simp[Ix,hk] at ho;simp[H6,zR,hk,ho,hf]
  .have hf:nA f=CI (A++mI f f.acts.length):=by
        rw[hE,E6 (λj bC=>by have:=hj j bC;simpa [bC] using this)]
   have hlA:(mI f f.acts.length).length<=100000:=by
        unfold mI;split
        .rw[ef];exact gm (pA _ _) (by simp;omega)
        .simp
   rw[hf];have hL:(A++mI f f.acts.length).length<=200000:=by rw[mM];omega
   generalize A++mI f f.acts.length=L at*;cases L with
   |nil=>simp[H6,zR,CI,ints]
   |cons x l=>
    have au:¬((l.length:Int)+1=0):=by omega
    simp[H6,zR,au];exact akp x l (by simp at hL;omega)
def iW (g:Nat->Cell):D:=.list ((List.range 20).map λi=>cX (g i))
def abo {g g':Nat->Cell}(h:∀i,i<20->g i=g' i):iW g=iW g':=by
 unfold iW
 congr 1
 exact sL λi hi=>by rw[h i (by simpa using hi)]
def abp (g:Nat->Cell)(k:Nat)(c:Cell):D.list ((iW g).l.set k (cX c))=iW (λi=>if i=k then c else g i):=by
 unfold iW
 congr 1
 show((List.range 20).map λi=>cX (g i)).set k (cX c)=_;apply Pm
 .simp
 .intro i h1 h2;simp at h2;rw[List.getElem_set];by_cases h:k=i
  .simp[h]
  .have h':¬i=k:=λe=>h e.symm;simp[h,h']
@[simp] def aD5 (g:Nat->Cell):(iW g).l.length=20:=by
  show((List.range 20).map λi=>cX (g i)).length=20;simp
def Ju (g:Nat->Cell){k:Nat}(hk:k<20):(iW g).l[k]?.getD D.none=cX (g k):=by
 show((List.range 20).map λi=>cX (g i))[k]?.getD D.none=cX (g k);simp[hk]
def alA (g:Nat->Cell){k:Nat}(hk:k<(iW g).l.length):(iW g).l[k]=cX (g k):=by
 have h:=Ju g (k:=k) (by simpa using hk);rw[aU hk] at h;exact h
def alC (g:Nat->Cell)(k:Nat)(c:Cell):(iW g).l.set k (cX c)=(iW (λi=>if i=k then c else g i)).l:=congrArg D.l (abp g k c)
def alB (g:Nat->Cell):D.list (iW g).l=iW g:=rfl
@[simp] def aHW (x:Cell)(b:Bool)(n:Int):xk (cX x) 0 (D.agg [D.bool b,D.int n])=cX ⟨b,n⟩:=zyz
def BM {α:Type}(l:List (Int×α))(val:α->Cell)(g0:Nat->Cell)(i:Nat):Cell:=match l.find? (λp=>decide (p.1=(i:Int))) with|some p=>val p.2|none=>g0 i
def tM {α:Type}(enc:α->D)(p:Int×α):D:=.tup [.int p.1,enc p.2]
def afb {α:Type}{J o:Nat}{ps dc:List Nat}{a:PC}{O:Env}{Q:Out->Prop}(l:List (Int×α))(enc:α->D)(val:α->Cell)(g0:Nat->Cell)
 (nd:∀p q,p∈l->q∈l->p.1=q.1->p=q) (WM:∀p,p∈l->0<=p.1) (he:O.o J=.tup [.list [],.map (l.map λp=>(.int p.1,enc p.2))]) (h0:O.o o=iW g0)
 (step:∀p,p∈l->∀g done,aH T (sD [o] a) ((O.put ps (dc.map (tM enc p).tget) [o] [iW g]).setO J (.tup [.list (done++[tM enc p]),.map (l.map λp=>(.int p.1,enc p.2))])) (λy=>∃O',y=.next O'/\O'.o o=.list ((iW g).l.set p.1.toNat (cX (val p.2)))))
 (last:Q (.next (O.put [] [] [o] [iW (BM l val g0)]))):aO T (.meach J ps dc [o] a) O Q:=by
 have oN:ji (.map (l.map λp=>((D.int p.1,enc p.2):D×D)))=l.map (tM enc):=by
  simp[ji,tM]
 refine .meachR _ he (λdone vo=>∃g:Nat->Cell,vo=[iW g]/\(∀p,p∈l->tM enc p∈done->g p.1.toNat=val p.2)/\∀i:Nat,(∀p,p∈l->tM enc p∈done->p.1≠i)->g i=g0 i) ⟨g0,by simp[h0],(λp _ h=>by cases h),λi _=>rfl⟩ (λdone x rest vo hp ⟨g,hv,jU,iz⟩=>?_) ⟨_,λdone hp vo ⟨g,hv,jU,iz⟩=>?_,last⟩
 .subst hv;rw[oN] at hp;have hx:x∈l.map (tM enc):=hp.subset (by simp);obtain⟨p,fJ,rfl⟩:=cr.mp hx;refine Ax _ (λy ⟨O',e,ho⟩=>⟨O',e,λi=>if i=p.1.toNat then val p.2 else g i,by simp[ho,abp],λq hq SN=>?_,λi hi=>?_⟩) (step p fJ g done)
  .have yV:=WM q hq;have rO:=WM p fJ;by_cases h:q.1=p.1
   .rw[nd q p hq fJ h];simp
   .show(if q.1.toNat=p.1.toNat then val p.2 else g q.1.toNat)=val q.2;rw[if_neg (by omega)];rcases dC.mp SN with h1|h1
    .exact jU q hq h1
    .simp[tM] at h1;exact absurd h1.1 h
  .have rO:=WM p fJ;have df:=hi p fJ (by simp);show(if i=p.1.toNat then val p.2 else g i)=g0 i;rw[if_neg (by omega)];exact iz i λq hq SN=>hi q hq (by simp[SN])
 .rw[hv,oN] at*
  congr 1
  refine abo λi hi=>?_;unfold BM;cases hf:l.find? (λp=>decide (p.1=(i:Int))) with
  |some p=>
   have fJ:=DW hf;have L3:p.1=(i:Int):=by simpa using Pn hf
   have:=jU p fJ (hp.symm.subset (As fJ));simp only;rw[<-this,L3];rfl
  |none=>
   refine iz i λp fJ _=>?_;have:=Ao.mp hf p fJ;simpa using this
@[simp] def aGE (a b:Int):eP (D.int a) (D.int b)=decide (a=b):=by
  show((a==b)&&true)=decide (a=b);rw[Bool.and_true];by_cases h:a=b<;>simp[h]
def Fa (n k:Int):Bool:=decide (bV .and .i64 n k≠0)
def CA (s:Sign)(due:Int):Int:=if due=-1 then 0 else s.day-due
def aaX (f:File)(sign:Int):Bool:=(List.range f.alters.length).any λk=>decide ((f.alters.getD k default).at_<=sign)
def mj (c:Case):Int:=if c.holder<0 then 0 else c.holder
def xe (c:Case)(s:Sign):List (Int×Int):=[(0,c.file.bill.sum),(1,c.file.bill.parts),(2,c.file.bill.tenor.kind),(3,c.file.bill.rate),(4,s.kind),(5,c.defence),(6,CA s c.due)]
def xf (r:Realm)(c:Case)(s:Sign):List (Int×Bool):=[(7,Fa c.file.bill.flags 1),(8,decide (c.file.bill.payee=-1)),(9,Fa c.file.bill.flags 4),(10,Fa c.file.bill.flags 2),(11,decide (gE r c.file.bill.city≠gE r c.file.bill.pay)),(12,aaX c.file c.sign),(13,Fa s.flags 1),(14,decide (0<CA s c.due))]
def Ru (r:Realm)(c:Case)(s:Sign):List Cell:=
 (xe c s).map (λp=>⟨true,p.2⟩)++(xf r c s).map (λp=>iQ p.2)++
    [l9 c.file 0 c.sign,l9 c.file 1 c.sign,l9 c.file 2 c.sign,l9 c.file 3 (mj c),l9 c.file 4 (mj c)]
@[simp] def aDE (x:Case):kl 19 (fS x)=cf x.file:=zyz
@[simp] def aDC (x:Case):kl 15 (fS x)=dJ x.file.bill:=zyz
@[simp] def aDD (x:File):kl 15 (cf x)=dJ x.bill:=zyz
def q7 (c:Case):Bool:=aC c.sign c.file.signs.length&&decide (-1<=c.holder)&&decide (mj c<c.file.signs.length)&&(decide (c.due=-1)||aC c.due 100001)
def jF (r:Realm)(c:Case):List Cell:=if q7 c=true/\aC (c.file.signs.getD c.sign.toNat default).day 100001=true then Ru r c (c.file.signs.getD c.sign.toNat default) else[]
def awE (r:Realm)(c:Case)(h2:c.file.facts.length<=100000)(h3:c.file.alters.length<=100000):ah T 196 [aP r,fS c] (cells (jF r c)):=by
 refine zyw 23 azF ?_;cases hs:aC c.sign c.file.signs.length
 .have hv:jF r c=[]:=by unfold jF q7;rw[hs];simp
  rw[hv];simp[xo];refine⟨_,sA _ _,?_⟩;simp[hs];rfl
 by_cases hh:c.holder< -1
 .have hv:jF r c=[]:=by unfold jF q7;rw[hs];simp;intros;omega
  rw[hv];simp[xo,hh];exact⟨⟨_,sA _ _⟩,rfl⟩
 by_cases hm:(c.file.signs.length:Int)<=mj c
 .have hv:jF r c=[]:=by unfold jF q7;rw[hs];simp;intros;omega
  rw[hv];unfold mj at hm;simp[xo,hm];exact⟨⟨_,sA _ _⟩,rfl⟩
 by_cases hd:c.due≠-1/\aC c.due 100001=false
 .have hv:jF r c=[]:=by unfold jF q7;rw[hs];simp[hd]
  rw[hv];unfold mj at hm;obtain⟨bu,dD⟩:=hd;simp[xo,hh,hm,bu];refine⟨_,sA _ _,?_⟩;simp[hs,hh,hm,bu];refine⟨_,sA _ _,?_⟩;simp[hs,hh,hm,bu,dD];rfl
 have hcb:q7 c=true:=by
  unfold q7;rw[hs];simp;refine⟨⟨by omega,by omega⟩,?_⟩;by_cases h:c.due=-1
  .exact .inl h
  .right;cases hb:aC c.due 100001
   .exact absurd ⟨h,hb⟩ hd
   .rfl
 have hlen:c.sign.toNat<c.file.signs.length:=by simp[aC] at hs;omega
 have dU:0<=c.sign/\c.sign<(c.file.signs.length:Int):=by simpa [aC] using hs
 obtain⟨s,Ge⟩:∃s:Sign,s=c.file.signs[c.sign.toNat]:=⟨_,rfl⟩
 have tC:c.file.signs.getD c.sign.toNat default=s:=by rw[Ge];simp[hlen]
 have hv:jF r c=if aC s.day 100001=true then Ru r c s else[]:=by
  unfold jF;rw[tC,hcb];simp
 rw[hv];unfold mj at hm;by_cases Fy:c.due=-1
 case' pos=>
  have ac7:(c.due=-1)=True:=eq_true Fy;simp[xo,hh,hm,ac7];refine⟨_,sA _ _,?_⟩;simp[hs,hh,hm,ac7,hlen,<-Ge,dU]
 case' neg=>
  have Fv:aC c.due 100001=true:=by
   cases hb:aC c.due 100001
   .exact absurd ⟨Fy,hb⟩ hd
   .rfl
  simp[xo,hh,hm,Fy];refine⟨_,sA _ _,?_⟩;simp[hs,hh,hm,Fy];refine⟨_,sA _ _,?_⟩;simp[hs,hh,hm,Fy,Fv,hlen,<-Ge,dU]
 all_goals
  refine⟨_,sA _ _,?_⟩;cases uO:aC s.day 100001
  .simp[uO];rfl
  simp[uO,fj];refine afb (xe c s) D.int (λn=>⟨true,n⟩) (λ_=>fa) ?_ ?_ ?_ ?_ (λp hp g done=>?_) ?_
  .intro p q hp hq h;simp[xe] at hp hq;rcases hp with rfl|rfl|rfl|rfl|rfl|rfl|rfl<;>rcases hq with rfl|rfl|rfl|rfl|rfl|rfl|rfl<;>first|rfl|(simp at h)
  .intro p hp;simp[xe] at hp;rcases hp with rfl|rfl|rfl|rfl|rfl|rfl|rfl<;>simp
  .have R6:(if c.due=-1 then(0:Int) else i64.wrap (s.day-c.due))=CA s c.due:=by
        unfold CA;by_cases h:c.due=-1
        .simp[h]
        .have Fv:aC c.due 100001=true:=by
          cases hb:aC c.due 100001
          .exact absurd ⟨h,hb⟩ hd
          .rfl
         simp[aC] at Fv uO;rw[if_neg h,if_neg h];exact aQ (by omega)
   simp[xe,fj,hlen,<-Ge];rw[<-R6];by_cases h:c.due=-1<;>simp[h]
  .simp[iW];rfl
  .have hr:0<=p.1/\p.1<20:=by
        simp[xe] at hp;rcases hp with rfl|rfl|rfl|rfl|rfl|rfl|rfl<;>simp
   have hk:p.1.toNat<20:=by omega
   simp[aws,Wr,tM,Ju g hk];exact hr
  have aqT:∀k (hk:k<c.file.alters.length),ah T 212 (pR c.file.alters[k]::[.ref (fS c)]) (.bool (decide ((c.file.alters.getD k default).at_<=c.sign))):=λk hk=>by
   refine zyw 24 azE ?_;simp[YV,hk]
  simp;refine⟨_,aj5 c.file.alters _ _ _ aqT (by omega),_,sy r _,_,sy r _,?_⟩;have R6:(if c.due=-1 then(0:Int) else i64.wrap (s.day-c.due))=CA s c.due:=by
   unfold CA;by_cases h:c.due=-1
   .simp[h]
   .have Fv:aC c.due 100001=true:=by
     cases hb:aC c.due 100001
     .exact absurd ⟨h,hb⟩ hd
     .rfl
    simp[aC] at Fv uO;rw[if_neg h,if_neg h];exact aQ (by omega)
  have R5:cells (Ru r c s)=iW (λi=>if i=15 then l9 c.file 0 c.sign else if i=16 then l9 c.file 1 c.sign else if i=17 then l9 c.file 2 c.sign else if i=18 then l9 c.file 3 (mj c) else if i=19 then l9 c.file 4 (mj c) else BM (xf r c s) iQ (BM (xe c s) (λn=>⟨true,n⟩) (λ_=>fa)) i):=by
   rfl
  generalize BM (xe c s) (λn=>(⟨true,n⟩:Cell)) (λ_=>fa)=g1 at*;refine afb (xf r c s) D.bool iQ g1 ?_ ?_ ?_ ?_ (λp hp g done=>?_) ?_
  .intro p q hp hq h;simp[xf] at hp hq;rcases hp with rfl|rfl|rfl|rfl|rfl|rfl|rfl|rfl<;>rcases hq with rfl|rfl|rfl|rfl|rfl|rfl|rfl|rfl<;>first|rfl|(simp at h)
  .intro p hp;simp[xf] at hp;rcases hp with rfl|rfl|rfl|rfl|rfl|rfl|rfl|rfl<;>simp
  .simp[xf,fj,hlen,<-Ge,Fa];rw[<-R6];by_cases h:c.due=-1<;>simp[h,aaX]
  .simp
  .have hr:0<=p.1/\p.1<20:=by
        simp[xf] at hp;rcases hp with rfl|rfl|rfl|rfl|rfl|rfl|rfl|rfl<;>simp
   have hk:p.1.toNat<20:=by omega
   simp[awt,Ws,tM,Ju g hk];refine⟨_,aiS _,?_⟩;simp[Ju g hk];exact hr
  simp;generalize BM (xf r c s) iQ g1=g2 at*;have hho:(if c.holder<0 then D.int 0 else D.int c.holder)=D.int (mj c):=by
   unfold mj;split<;>rfl
  rw[hho];refine⟨_,Ik _ _ _ (by omega),_,Ik _ _ _ (by omega),_,Ik _ _ _ (by omega),_,Ik _ _ _ (by omega),_,Ik _ _ _ (by omega),?_⟩;rw[R5];simp only[alA,axr,alC,alB];refine abo λi hi=>?_;by_cases Lj:i=15
  .subst Lj;simp
  by_cases Ll:i=16
  .subst Ll;simp
  by_cases Lm:i=17
  .subst Lm;simp
  by_cases Ln:i=18
  .subst Ln;simp
  by_cases h19:i=19
  .subst h19;simp
  simp[Lj,Ll,Lm,Ln,h19]
def M7 (n:Nat)(x:Int):Bool:=decide (x<0)||decide ((n:Int)<=x)
def mW (r:Realm)(a q:Int)(l:List Int):Bool:=
 !(decide (a<0)||decide ((r.orders.length:Int)<=a)||decide (q<0)||decide (22<=q)||decide (l.length≠5))&& !((List.range l.length).any λk=>M7 r.orders.length (l.getD k 0))
def anV (x n:Int):ah T 216 [.int x,.ref (.int n)] (.bool (decide (x<0)||decide (n<=x))):=by
 refine zyw 36 ayo ?_;by_cases h:x<0<;>simp[XK,h]
def aci (r:Realm)(a q:Int)(l:List Int)(hl:l.length<=100000):ah T 197 [aP r,.int a,.int q,ints l] (.bool (mW r a q l)):=by
 refine zyw 35 ayp ?_;by_cases h1:a<0
 .simp[xn,mW,h1]
 by_cases h2:(r.orders.length:Int)<=a
 .simp[xn,mW,h1,h2]
 by_cases h3:q<0
 .simp[xn,mW,h1,h2,h3]
 by_cases h4:22<=q
 .simp[xn,mW,h1,h2,h3,h4]
 by_cases h5:(l.length:Int)=5
 .have Lp:l.length=5:=by omega
  simp[xn,h1,h2,h3,h4,Lp];refine⟨_,aj7 l 216 [.ref (.int r.orders.length)] (λk=>M7 r.orders.length (l.getD k 0)) (λk hk=>by simpa [M7,hk] using anV l[k] r.orders.length) (by omega),?_⟩;simp only[mW,Lp];simp[h1,h2,h3,h4]
 .have Lp:¬l.length=5:=by omega
  simp[xn,mW,h1,h2,h3,h4,Lp];intro h;omega
def Ri {r:Realm}{a q:Int}{l:List Int}(h:mW r a q l=true):(0<=a/\a<r.orders.length)/\l.length=5/\(∀x,x∈l->0<=x/\x<r.orders.length)/\∀b:Int,0<=b->b<r.orders.length->mW r b q l=true:=by
 unfold mW at h ⊢;rw[ao] at h;obtain⟨h1,h2⟩:=h;simp at h1;refine⟨by omega,h1.2,λx hx=>?_,λb gu de=>?_⟩
 .obtain⟨k,hk,rfl⟩:=ew hx;simp[M7] at h2;have:=h2 k hk;simp[hk] at this;omega
 .rw[h2];simp;omega
def DO (r:Realm):Prop:=∀o,o∈r.orders->o.choices.length<=100000/\∀ch,ch∈o.choices->0<=ch.by_/\ch.by_<5
def ze (q:Int)(ch:Choice):Bool:=decide (ch.ask=q)&&decide (ch.by_≠0)
def qp (r:Realm)(a:Int):Order:=r.orders.getD a.toNat default
def gD (r:Realm)(a q:Int)(l:List Int):Int×Bool:=
 (match(qp r a).choices.find? (ze q) with|some ch=>l.getD ch.by_.toNat 0|none=>a,match(qp r a).choices.find? (ze q) with|some ch=>ch.whole|none=>false)
def aaq (r:Realm)(rE:DO r)(a q:Int)(l:List Int)(hl:l.length<=100000)(hf:mW r a q l=true):
 ah T 198 [aP r,.int a,.int q,ints l] (.tup [.int (gD r a q l).1,.bool (gD r a q l).2])/\0<=(gD r a q l).1/\(gD r a q l).1<r.orders.length:=by
 obtain⟨ha,hl5,hx,_⟩:=Ri hf;have B1:a.toNat<r.orders.length:=by omega
 obtain⟨aY,kP⟩:=rE _ (bU B1);obtain⟨o,ho⟩:∃o,o=r.orders[a.toNat]:=⟨_,rfl⟩
 rw[<-ho] at aY kP;have SA:qp r a=o:=by rw[ho];simp[qp,B1]
 unfold gD;rw[SA];refine⟨?_,?_⟩
 .refine zyw 39 ayn ?_;simp[XJ];refine⟨_,aci r a q l hl,?_⟩;simp[hf,B1,<-ho,ha];refine aO.scan o.choices.length (λk=>ze q (o.choices.getD k default)=false) (λk=>[.int 0,.bool false,.int k]) (λ_=>[]) ?_ (λk hk hj ar=>?_) (λk hk hj ar=>?_) (λhj=>?_)
  .simp
  .have hw:=bx hk (by omega);have hn:¬(o.choices[k].ask=q/\¬o.choices[k].by_=0):=by simpa [ze,hk] using ar
   simp[VS,Hp,B1,<-ho,hk,hw,hn]
  .have lD:=BN hk (by simpa [hk] using ar) (λj bC=>by have:=hj j bC;simpa [show j<o.choices.length by omega] using this);rw[lD];have hc:o.choices[k].ask=q/\¬o.choices[k].by_=0:=by simpa [ze,hk] using ar
   have hb:=kP _ (bU hk);have Fs:o.choices[k].by_.toNat<l.length:=by omega
   simp[VS,Hp,B1,<-ho,hk,hc,ints,Fs];omega
  .have lD:=E6 (l:=o.choices) (p:=ze q) (λj bC=>by have:=hj j bC;simpa [bC] using this);rw[lD];simp[VS,Hp,B1,<-ho]
 .cases lD:o.choices.find? (ze q) with
  |none=>exact ha
  |some ch=>
   have hb:=kP _ (DW lD);have Fs:ch.by_.toNat<l.length:=by omega
   simp[Fs];exact hx _ (bU Fs)
def U9:∀(N:Nat) (l:List Int),l.Nodup->(∀x,x∈l->0<=x/\x<(N:Int))->l.length<=N
 |0,l,hn,h=>by
  cases l with
  |nil=>simp
  |cons a l=>have:=h a (by simp);omega
 |N+1,l,hn,h=>by
  by_cases hm:(N:Int)∈l
  .have h1:=U9 N (l.erase (N:Int)) (hn.erase _) (λx hx=>by
    have da:=(hn.mem_erase_iff).mp hx;have:=h x da.2;have au:=da.1;omega)
   rw[List.length_erase_of_mem hm] at h1;omega
  .have h1:=U9 N l hn (λx hx=>by
    have:=h x hx;have au:x≠(N:Int):=λe=>hm (e▸hx);omega)
   omega
def dx (l:List Int):Int:=l.getD (l.length-1) 0
def lO (r:Realm)(q:Int)(l:List Int):Nat->List Int->List Int×Int
 |0,p=>(p,0)
 |n+1,p=>
  if(gD r (dx p) q l).1=dx p then(p,0)
  else if(gD r (dx p) q l).2=false\/(hasB p (gD r (dx p) q l).1=true/\(qp r (gD r (dx p) q l).1).accepts=true) then(p++[(gD r (dx p) q l).1],0)
  else if hasB p (gD r (dx p) q l).1=true then(p++[(gD r (dx p) q l).1],12)
  else lO r q l n (p++[(gD r (dx p) q l).1])
def TD (r:Realm)(q:Int)(l:List Int)(n:Nat)(p:List Int):lO r q l (n+1) p=
 if(gD r (dx p) q l).1=dx p then(p,0)
 else if(gD r (dx p) q l).2=false\/(hasB p (gD r (dx p) q l).1=true/\(qp r (gD r (dx p) q l).1).accepts=true) then(p++[(gD r (dx p) q l).1],0)
 else if hasB p (gD r (dx p) q l).1=true then(p++[(gD r (dx p) q l).1],12)
 else lO r q l n (p++[(gD r (dx p) q l).1]):=rfl
def jX (r:Realm)(a q:Int)(l:List Int):List Int×Int:=if mW r a q l=true/\l.getD 0 0=a then lO r q l r.orders.length [a] else([],1)
def akl (r:Realm)(rE:DO r)(hn:r.orders.length<=100000)(a q:Int)(l:List Int)(hl:l.length<=100000):ah T 180 [aP r,.int a,.int q,ints l] (.tup [ints (jX r a q l).1,.int (jX r a q l).2]):=by
 refine zyw 34 aym ?_;simp[XI];refine⟨_,aci r a q l hl,?_⟩;cases hf:mW r a q l
 .simp[jX,hf];rfl
 obtain⟨ha,hl5,hx,td⟩:=Ri hf;have h0:0<l.length:=by omega
 by_cases yN:l[0]=a
 .have hE:jX r a q l=lO r q l r.orders.length [a]:=by unfold jX;rw[if_pos ⟨hf,by simp[h0,yN]⟩]
  rw[hE];simp[h0,yN,ints];refine aO.forLoop (α:=Nat×List Int) (λs vr vo=>vr=[.list [],.int 0,.none]/\vo=[ints s.2]/\s.2.Nodup/\(∀x,x∈s.2->0<=x/\x<(r.orders.length:Int))/\s.2≠[]/\s.1+s.2.length=r.orders.length+1/\lO r q l s.1 s.2=lO r q l r.orders.length [a]) (λs=>s.1) (r.orders.length,[a]) ?_ ?_
  .simp[ints];exact ha
  .rintro⟨n,p⟩ vr vo ⟨rfl,rfl,bo,bO,au,hlen,FN⟩;simp only at*;have fJ:p.length<=r.orders.length:=U9 _ p bo bO;have F6:0<p.length:=xO.mpr au;obtain⟨m,rfl⟩:∃m,n=m+1:=⟨n-1,by omega⟩
   have af:p.length-1<p.length:=by omega
   have lG:dx p=p[p.length-1]:=by simp[dx,af]
   have yO:=bO _ (bU af);rw[<-lG] at yO;obtain⟨RG,gA,gB⟩:=aaq r rE (dx p) q l hl (td _ yO.1 yO.2);have Sg:((p.length:Int)-1).toNat=p.length-1:=by omega
   have Tj:i64.wrap ((p.length:Int)-1)=(p.length:Int)-1:=aQ (by omega);rw[<-FN,TD];obtain⟨L,hL⟩:∃L,L=gD r (dx p) q l:=⟨_,rfl⟩
   rw[<-hL] at RG gA gB ⊢;obtain⟨to,whole⟩:=L;simp only at RG gA gB;have y4:to.toNat<r.orders.length:=by omega
   have SA:qp r to=r.orders[to.toNat]:=by simp[qp,y4]
   simp only[SA];simp[awq,VR,Tj,Sg,af,<-lG,ints];refine⟨by omega,_,RG,?_⟩;by_cases h1:to=dx p
   .simp[h1]
   simp[h1];refine⟨_,xF p to (by omega),by omega,?_⟩;cases whole
   .simp
   cases h2:hasB p to
   .have cQ:to∉p:=λhm=>by
     have:hasB p to=true:=by simp[hasB,hm]
     rw[h2] at this;cases this
    simp[h2];refine⟨m,by omega,p++[to],by simp,?_,?_,by simp,by simp;omega,rfl⟩
    .exact I1.mpr ⟨bo,by simp,λx hx y hy=>by simp at hy;subst hy;exact λe=>cQ (e▸hx)⟩
    .intro x hx;rcases dC.mp hx with h|h
     .exact bO x h
     .simp at h;subst h;exact⟨gA,gB⟩
   .cases h3:r.orders[to.toNat].accepts<;>simp[h2,h3,y4]<;>omega
 .have hE:jX r a q l=([],1):=by unfold jX;rw[if_neg (by simp[h0,yN])]
  rw[hE];simp[h0,yN];rfl
def eK (f:File)(i:Int):Sign:=f.signs.getD i.toNat default
def mu (r:Realm)(forum:Int)(c:Case):List Int:=[forum,gE r (eK c.file c.sign).city,gE r c.file.bill.pay,gE r c.file.bill.city,gE r (r.firms.getD (eK c.file c.sign).who.toNat default).city]
def qZ (r:Realm)(forum:Int)(c:Case):Prop:=(eK c.file c.sign).who<0\/(r.firms.length:Int)<=(eK c.file c.sign).who\/forum<0\/(r.orders.length:Int)<=forum
instance (r:Realm) (forum:Int) (c:Case):Decidable (qZ r forum c):=by unfold qZ;infer_instance
def jC (r:Realm)(forum:Int)(c:Case):List Int:=if qZ r forum c then[] else if hasB (mu r forum c) (-1)=true then[] else mu r forum c
@[simp] def aDY (r:Realm)(x:Int):AE (aP r) x=gE r x:=by
  unfold AE gE aC;by_cases h:0<=x/\x<(r.cities.length:Int)
  .have hx:x.toNat<r.cities.length:=by omega
   rw[if_pos (by simpa using h),if_pos (by simpa using h)];simp[hx]
  .rw[if_neg (by simpa using h),if_neg (by simpa using h)]
def ahH (r:Realm)(forum:Int)(c:Case)(h1:c.sign.toNat<c.file.signs.length):Va [aP r,.int forum,fS c]=ints (jC r forum c):=by
 have hs:eK c.file c.sign=c.file.signs[c.sign.toNat]:=by simp[eK,h1]
 unfold Va jC;simp[h1];by_cases hb:qZ r forum c
 .rw[if_pos (by simpa [qZ,hs] using hb),if_pos hb];rfl
 .rw[if_neg (by simpa [qZ,hs] using hb),if_neg hb];have Mc:(eK c.file c.sign).who.toNat<r.firms.length:=by unfold qZ at hb;omega
  have aee:c.file.signs[c.sign.toNat].who.toNat<r.firms.length:=by rw[<-hs];exact Mc
  have kR:mu r forum c=[forum,gE r c.file.signs[c.sign.toNat].city,gE r c.file.bill.pay,gE r c.file.bill.city,gE r r.firms[c.file.signs[c.sign.toNat].who.toNat].city]:=by
   simp[mu,hs,aee]
  have cV:∀l:List Int,hasB l (-1)=true↔-1∈l:=λl=>by simp[hasB]
  rw[kR];simp[aee];split
  .rename_i h;rw[if_pos ((cV _).mpr (by simpa using h))];rfl
  .rename_i h;rw[if_neg (λh'=>h (by simpa using(cV _).mp h'))]
def avv (r:Realm)(forum:Int)(c:Case)(h1:0<=c.sign/\c.sign<c.file.signs.length):ah T 179 [aP r,.int forum,fS c] (ints (jC r forum c)):=by
 have cw:c.sign.toNat<c.file.signs.length:=by omega
 rw[<-ahH r forum c cw];have hs:eK c.file c.sign=c.file.signs[c.sign.toNat]:=by simp[eK,cw]
 refine ah.of_nsl rfl ax0 ax1 ?_;rw[ahH r forum c cw];by_cases hb:qZ r forum c
 .refine .inr ⟨by simp[jC,hb];rfl,?_⟩;have fE:=hb;simp[qZ,hs] at fE;simp[OQ,h1,cw]
  intros;omega
 have tg:jC r forum c=if hasB (mu r forum c) (-1)=true then[] else mu r forum c:=by unfold jC;rw[if_neg hb]
 have fE:=hb;simp[qZ,hs] at fE;have hw:c.file.signs[c.sign.toNat].who.toNat<r.firms.length:=by omega
 have hC:=xF (mu r forum c) (-1) (by simp[mu]);cases hh:hasB (mu r forum c) (-1)<;>rw[hh] at hC<;>simp[mu,ints,hs,hw] at hC
 .refine .inl ⟨(mu r forum c).map .int,by simp[mu],by rw[tg,hh];rfl,?_⟩;simp[Xp,h1,cw,hw];rw[if_neg (by omega)];refine⟨_,sy r _,_,sy r _,_,sy r _,by omega,_,sy r _,_,by simpa using hC,?_⟩;simp[mu,hs,hw]
 .refine .inr ⟨by rw[tg,hh];rfl,?_⟩;simp[OQ,h1,cw,hw]
  intros
  refine⟨_,sy r _,_,sy r _,_,sy r _,by omega,_,sy r _,_,by simpa using hC,?_⟩;simp
structure Right (r:Realm):Prop where
 by_:DO r
 len:r.orders.length<=100000
 ok:∀o,o∈r.orders->o.OK/\o.rules.length<=100000
structure FewS (f:File):Prop where
 signs:f.signs.length<=1000
 alters:f.alters.length<=1000
 acts:f.acts.length<=1000
 facts:f.facts.length<=1000
def ajI {α:Type}(p:α->Bool)(l:List α):(l.takeWhile p).length<=l.length:=by
 obtain⟨m,h1,h2,_⟩:=O3 p l;rw[h2,dO];omega
def FewS.at_ {f:File}(h:FewS f)(day:Int):FewS (bh f day):=
 ⟨gm (ajI _ _) h.1,gm (pA _ _) h.2,gm (ajI _ _) h.3,gm (pA _ _) h.4⟩
def ia (c:Case):Case:={c with file:=bh c.file c.day}
@[simp] def aDP (x:File)(a0 a1 a2 a3 a4 a5 a6 a7 a8 a9 mO mP a12 mQ mR qV qW a17 qX:D)(s h d u y:Int):kl 24 (D.agg (dg [a0,a1,a2,a3,a4,a5,a6,a7,a8,a9,mO,mP,a12,mQ,mR,qV,qW,a17,qX,.int s,.int h,.int d,.int u,.int y] 0 [.int x.bill.drawer,.int x.bill.drawee,.int x.bill.payee,.int x.bill.sum,.int x.bill.currency,.int x.bill.tenor.kind,.int x.bill.tenor.n,.int x.bill.tenor.unit,.int x.bill.day,.int x.bill.city,.int x.bill.pay,.int x.bill.need,.int x.bill.rate,.int x.bill.flags,.int x.bill.parts,signs x.signs,alters x.alters,acts x.acts,facts x.facts]))=fS ⟨x,s,h,d,u,y⟩:=zyz
def akT (r:Realm)(c:Case)(hf:FewS c.file):ah T 177 [aP r,fS c] (.tup [fS (ia c),cells (jF r (ia c))]):=by
 refine zyw 22 axZ ?_;simp[Xo];have h1:=hf.1;have h2:=hf.2;have h3:=hf.3;have h4:=hf.4;refine⟨_,WG c.file c.day (by omega) (by omega) (by omega) (by omega),?_⟩;have yH:=hf.at_ c.day;have h5:=yH.4;have h6:=yH.2;simp;exact⟨awE r (ia c) (by show(bh c.file c.day).facts.length<=_;omega) (by show(bh c.file c.day).alters.length<=_;omega),(congrArg (kl 24) (ava (ia c) _ _ _ _ _ _ _ _ _ _ _ _ _ _ _ _ _ _ _ _ _ _ _ _)).trans (akL (ia c))⟩
def aAy {r:Realm}{c:Case}(h:jF r c≠[]):0<=c.sign/\c.sign<c.file.signs.length:=by
 unfold jF at h;split at h
 .rename_i hh;have h1:=hh.1;unfold q7 at h1;simp[aC] at h1;omega
 .exact absurd rfl h
def aeO (r:Realm)(rE:DO r)(q:Int)(l:List Int)(hl:l.length<=100000)(td:∀b:Int,0<=b->b<r.orders.length->mW r b q l=true):∀(n:Nat) (p:List Int),p≠[]->(∀x,x∈p->0<=x/\x<(r.orders.length:Int))->
 (lO r q l n p).1≠[]/\∀x,x∈(lO r q l n p).1->0<=x/\x<(r.orders.length:Int)
 |0,p,au,hp=>⟨au,hp⟩
 |n+1,p,au,hp=>by
  have af:p.length-1<p.length:=by have:=xO.mpr au;omega
  have lG:dx p=p[p.length-1]:=by simp[dx,af]
  have yO:=hp _ (bU af);rw[<-lG] at yO;obtain⟨_,ht⟩:=aaq r rE (dx p) q l hl (td _ yO.1 yO.2)
  have aV:∀x,x∈p++[(gD r (dx p) q l).1]->0<=x/\x<(r.orders.length:Int):=λx hx=>by
   rcases dC.mp hx with h|h
   .exact hp x h
   .simp at h;subst h;exact ht
  rw[TD];split
  .exact⟨au,hp⟩
  split
  .exact⟨by simp,aV⟩
  split
  .exact⟨by simp,aV⟩
  .exact aeO r rE q l hl td n _ (by simp) aV
def aeN {r:Realm}(hr:Right r){a q:Int}{l:List Int}(hl:l.length<=100000)(h:(jX r a q l).2=0):(jX r a q l).1≠[]/\0<=dx (jX r a q l).1/\dx (jX r a q l).1<r.orders.length:=by
 unfold jX at h ⊢;split at h
 .rename_i hh;rw[if_pos hh];obtain⟨ha,hl5,hx,td⟩:=Ri hh.1;obtain⟨h1,h2⟩:=aeO r hr.by_ q l hl td r.orders.length [a] (by simp) (λx hx=>by simp at hx;subst hx;exact ha);refine⟨h1,?_⟩;have af:(lO r q l r.orders.length [a]).1.length-1<(lO r q l r.orders.length [a]).1.length:=by have:=xO.mpr h1;omega
  have lG:dx (lO r q l r.orders.length [a]).1=(lO r q l r.orders.length [a]).1[(lO r q l r.orders.length [a]).1.length-1]:=by simp[dx,af]
  rw[lG];exact h2 _ (bU af)
 .cases h
def aeP (r:Realm)(q:Int)(l:List Int):∀(n:Nat) (p:List Int),(lO r q l n p).1.length<=p.length+n
 |0,p=>by simp[lO]
 |n+1,p=>by
  rw[TD];split
  .simp
  split
  .simp
  split
  .simp
  .have:=aeP r q l n (p++[(gD r (dx p) q l).1]);simp at this;omega
def asH (r:Realm)(a q:Int)(l:List Int):(jX r a q l).1.length<=1+r.orders.length:=by
 unfold jX;split
 .exact aeP r q l _ [a]
 .simp
@[simp] def aHT (a b c d e x:D):dg [a,b,c,d,e] 2 [x]=[a,b,x,d,e]:=zyz
@[simp] def aHU (a b c d e x:D):dg [a,b,c,d,e] 3 [x]=[a,b,c,x,e]:=zyz
@[simp] def aHV (a b c d e x:D):dg [a,b,c,d,e] 4 [x]=[a,b,c,d,x]:=zyz
def TV:Said:=⟨fa,-1,[],1⟩
def jq (r:Realm)(forum q:Int)(c:Case):Said×List Cell:=
 if jF r (ia c)=[] then(TV,[]) else if(sG q).2=false then(TV,[]) else if jC r forum (ia c)=[] then(TV,[]) else
    (⟨fa,if(jX r forum q (jC r forum (ia c))).2=0 then dx (jX r forum q (jC r forum (ia c))).1 else-1,(jX r forum q (jC r forum (ia c))).1,(jX r forum q (jC r forum (ia c))).2⟩,jF r (ia c))
def ahI (r:Realm)(forum:Int)(c:Case):(jC r forum c).length<=5:=by
 unfold jC;split
 .simp
 split<;>simp[mu]
def akS (r:Realm)(hr:Right r)(forum q:Int)(c:Case)(hf:FewS c.file):ah T 144 [aP r,.int forum,.int q,fS c] (.tup [rz (jq r forum q c).1,cells (jq r forum q c).2]):=by
 refine zyw 21 axY ?_;simp[Xn];refine⟨_,akT r c hf,?_⟩;by_cases hv:jF r (ia c)=[]
 .simp[hv,jq];exact⟨rfl,rfl⟩
 simp[hv,jq];refine⟨_,U3 q,?_⟩;cases hq:(sG q).2
 .simp[hq];exact⟨rfl,rfl⟩
 simp[hq];refine⟨_,avv r forum (ia c) (aAy hv),?_⟩;by_cases hp:jC r forum (ia c)=[]
 .simp[hp];exact⟨rfl,rfl⟩
 have fJ:=ahI r forum (ia c);have au:ints (jC r forum (ia c))≠.list []:=λe=>hp (by simpa [ints] using e);simp[hp];generalize jC r forum (ia c)=l at*;refine⟨_,akl r hr.by_ hr.len forum q l (by omega),?_⟩;have hlen:=asH r forum q l;have FN:=aeN hr (a:=forum) (q:=q) (l:=l) (by omega);have SF:=hr.len;generalize jX r forum q l=L at*;obtain⟨path,err⟩:=L;simp only at*;by_cases he:err=0
 .obtain⟨h1,h2⟩:=FN he;have F6:=xO.mpr h1;have Tj:i64.wrap ((path.length:Int)-1)=(path.length:Int)-1:=aQ (by omega);have Sg:((path.length:Int)-1).toNat=path.length-1:=by omega
  have af:path.length-1<path.length:=by omega
  have lG:dx path=path[path.length-1]:=by simp[dx,af]
  simp[he,Tj,Sg,af,<-lG];exact⟨by omega,rfl⟩
 .simp[he];rfl
def sP (r:Realm)(forum q:Int)(c:Case):Said:=
 if(jq r forum q c).1.order=-1 then(jq r forum q c).1
 else⟨(Az (qp r (jq r forum q c).1.order) q (jq r forum q c).2).1,(jq r forum q c).1.order,(jq r forum q c).1.path,(Az (qp r (jq r forum q c).1.order) q (jq r forum q c).2).2⟩
def akQ {r:Realm}(hr:Right r)(forum q:Int)(c:Case):(jq r forum q c).1.order=-1\/(0<=(jq r forum q c).1.order/\(jq r forum q c).1.order<r.orders.length):=by
 unfold jq;split
 .exact .inl rfl
 split
 .exact .inl rfl
 split
 .exact .inl rfl
 .have fJ:=ahI r forum (ia c);have FN:=aeN hr (a:=forum) (q:=q) (l:=jC r forum (ia c)) (by omega);show(if _ then _ else _)=_\/_;split
  .rename_i h;exact .inr (FN h).2
  .exact .inl rfl
def aaZ (r:Realm)(hr:Right r)(forum q:Int)(c:Case)(hf:FewS c.file):ah T 103 [aP r,.int forum,.int q,fS c] (rz (sP r forum q c)):=by
 refine zyw 20 axT ?_;simp[Xi];refine⟨_,akS r hr forum q c hf,?_⟩;have ho:=akQ hr forum q c;unfold sP;generalize jq r forum q c=S at*;obtain⟨s,cs⟩:=S;simp only at*;by_cases h:s.order=-1
 .obtain⟨⟨kn,n⟩,o,pth,e⟩:=s;simp only at h;subst h;simp;rfl
 .have h1:0<=s.order/\s.order<r.orders.length:=by omega
  have h2:s.order.toNat<r.orders.length:=by omega
  have h3:qp r s.order=r.orders[s.order.toNat]:=by simp[qp,h2]
  obtain⟨ar,hlen⟩:=hr.ok _ (bU h2);simp[h,h1,h2,h3];refine⟨_,au5 _ q cs ar (by omega),?_⟩;simp;rfl
def km (r:Realm)(forum q:Int)(f:File)(day:Int):Said:=sP r forum q ⟨{f with facts:=[]},0,-1,-1,-1,day⟩
def aa0 (r:Realm)(hr:Right r)(forum q:Int)(f:File)(day:Int)(hf:FewS f):ah T 64 [aP r,.int forum,.int q,cf f,.int day] (rz (km r forum q f day)):=by
 refine zyw 19 axU ?_;simp[Xj];refine⟨rz (km r forum q f day),aaZ r hr forum q ⟨{f with facts:=[]},0,-1,-1,-1,day⟩ ⟨hf.1,hf.2,hf.3,by simp⟩,?_⟩;simp
 try rfl
def vn (s:Said):Int:=if s.err≠0 then 0 else if s.cell.known=false then 2 else if s.cell.n≠0 then 1 else 0
def aa1 (s:Said):ah T 78 [rz s] (.int (vn s)):=by
 refine zyw 60 axX ?_;unfold vn;by_cases h1:s.err=0<;>cases h2:s.cell.known<;>by_cases h3:s.cell.n=0<;>simp[Xm,h1,h2,h3]
def qo (s:Said):Int:=if s.err≠0\/s.cell.known=false then-1 else s.cell.n
def akR (s:Said):ah T 63 [rz s] (.int (qo s)):=by
 refine zyw 62 axW ?_;unfold qo;by_cases h1:s.err=0<;>cases h2:s.cell.known<;>simp[Xl,h1,h2]
def lY (day:Int)(l:List Act)(es:List (D×D)):List (D×D):=l.foldl (λes a=>if a.kind=7/\a.day<=day then fj (.int a.at_) (.bool true) es else es) es
def axu (day:Int)(l:List Act){k:Nat}(hk:k<l.length):lY day (l.take (k+1)) []=if l[k].kind=7/\l[k].day<=day then fj (.int l[k].at_) (.bool true) (lY day (l.take k) []) else lY day (l.take k) []:=by
 unfold lY;rw[jn hk,uo];rfl
def ahN (k v:D):∀es:List (D×D),(fj k v es).length<=es.length+1
 |[]=>by simp[fj]
 |e::es=>by
  unfold fj;split
  .simp
  .have:=ahN k v es;simp;omega
def ajs (day:Int):∀(l:List Act) (es:List (D×D)),(lY day l es).length<=es.length+l.length
 |[],es=>by simp[lY]
 |a::l,es=>by
  have h:=ajs day l (if a.kind=7/\a.day<=day then fj (.int a.at_) (.bool true) es else es);have hp:=ahN (.int a.at_) (.bool true) es;show(lY day l (if a.kind=7/\a.day<=day then fj (.int a.at_) (.bool true) es else es)).length<=_;split at h
  .rename_i hc;rw[if_pos hc];simp;omega
  .rename_i hc;rw[if_neg hc];simp;omega
def axQ (f:File)(day:Int)(hl:f.acts.length<=100000):ah T 124 [cf f,.int day] (.map (lY day f.acts [])):=by
 refine zyw 101 aAe ?_;simp[ZE];refine aO.forRounds f.acts.length (λk=>[.int k]) (λk=>[.map (lY day (f.acts.take k) [])]) ?_ (λk hk=>?_) ?_
 .simp[lY]
 .have hw:=bx hk (by omega);have hs:=axu day f.acts hk;have hlen:=ajs day (f.acts.take k) [];rw[hs];simp at hlen;generalize lY day (f.acts.take k) []=es at*;by_cases hc:f.acts[k].kind=7/\f.acts[k].day<=day
  .simp[WD,Ih,hk,hw,hc];omega
  .simp[WD,Ih,hk,hw,hc]
 .simp[WD,Ih]
def ahO {k v:D}:∀{es:List (D×D)} {e:D×D},e∈fj k v es->e.2=v\/e∈es
 |[],e,h=>by simp[fj] at h;exact .inl (by rw[h])
 |x::es,e,h=>by
  unfold fj at h;split at h
  .rcases cB.mp h with rfl|h
   .exact .inl rfl
   .exact .inr (by simp[h])
  .rcases cB.mp h with rfl|h
   .exact .inr (by simp)
   .rcases ahO h with h|h
    .exact .inl h
    .exact .inr (by simp[h])
def ajt (day:Int):∀(l:List Act) (es:List (D×D)),(∀e,e∈es->e.2=.bool true)->∀e,e∈lY day l es->e.2=.bool true
 |[],es,h,e,he=>h e he
 |a::l,es,h,e,he=>by
  refine ajt day l (if a.kind=7/\a.day<=day then fj (.int a.at_) (.bool true) es else es) (λx hx=>?_) e he;split at hx
  .rcases ahO hx with h'|h'
   .exact h'
   .exact h x h'
  .exact h x hx
def aeY {k d:D}:∀{es:List (D×D)},jf k es=some d->∃e,e∈es/\e.2=d
 |x::es,h=>by
  unfold jf at h;split at h
  .exact⟨x,by simp,by simpa using h⟩
  .obtain⟨e,h1,h2⟩:=aeY h;exact⟨e,by simp[h1],h2⟩
def axt (day:Int)(l:List Act)(k:D):(jf k (lY day l [])).getD (.bool false)=.bool ((jf k (lY day l [])).getD (.bool false)).b:=by
 cases h:jf k (lY day l []) with
 |none=>rfl
 |some d=>
  obtain⟨e,h1,h2⟩:=aeY h;have:=ajt day l [] (λe h=>by cases h) e h1;rw[h2] at this;rw[this];rfl
def vm (f:File)(sign day:Int):Bool:=aC sign f.signs.length&&((jf (.int sign) (lY day f.acts [])).getD (.bool false)).b
def axP (f:File)(sign day:Int)(hl:f.acts.length<=100000):ah T 79 [cf f,.int sign,.int day] (.bool (vm f sign day)):=by
 refine zyw 100 aAd ?_;by_cases h1:0<=sign<;>by_cases h2:sign<f.signs.length<;>simp[ZD,h1,h2,vm,aC];refine⟨_,axQ f day hl,?_⟩;exact axt day f.acts (.int sign)
def nH (f:File)(sign:Int)(n:Nat):Int:=(f.alters.take n).foldl (λs a=>if a.at_<=sign then a.sum else s) f.bill.sum
def avh (f:File)(sign:Int)(hl:f.alters.length<=100000):ah T 125 [cf f,.int sign] (.int (nH f sign f.alters.length)):=by
 refine zyw 105 ayF ?_;simp[X0];refine aO.forRounds f.alters.length (λk=>[.int (nH f sign k),.int k]) (λk=>[]) ?_ (λk hk=>?_) ?_
 .simp[nH]
 .have hw:=bx hk (by omega);have hs:nH f sign (k+1)=if f.alters[k].at_<=sign then f.alters[k].sum else nH f sign k:=by
   unfold nH;rw[jn hk,uo];rfl
  rw[hs];generalize nH f sign k=s at*;by_cases hc:f.alters[k].at_<=sign<;>simp[aiz,NW,hk,hw,hc]
 .simp[aiz,NW]
def Cw (r:Realm)(c:Int):ah T 104 [aP r,.int c] (.bool (aC c r.cities.length)):=by
 refine zyw 82 azW ?_;by_cases h1:0<=c<;>by_cases h2:c<r.cities.length<;>simp[Zn,h1,h2,aC]
def eB (n:Int):Bool:=decide (0<=n)&&decide (n<=100000)
def wE (n:Int):ah T 105 [.int n] (.bool (eB n)):=by
 refine zyw 83 azX ?_;by_cases h1:0<=n<;>by_cases h2:n<=100000<;>simp[Zo,h1,h2,eB]
def IL (n:Int):ah T 184 [.int n] (.bool (eB n)):=by
 refine zyw 88 ayi ?_;by_cases h1:0<=n<;>by_cases h2:n<=100000<;>simp[XE,h1,h2,eB]
def Du (t:Tenor):Bool:=decide (t.kind=0)||decide (t.kind=1)
def DZ (t:Tenor):ah T 106 [pS t] (.bool (Du t)):=by
 refine zyw 84 azV ?_;by_cases h1:t.kind=0<;>simp[Zm,h1,Du]
def afE (y m d:Int):∃n:Int,ah T 222 [.int y,.int m,.int d] (.int n):=by
 by_cases h:m<3
 .refine⟨?w,?h⟩
  case h=>
   refine ah.of_tree (d:=.int ?w) rfl aa4 ajC ?_;simp[OV,h];exact rfl
 .refine⟨?v,?g⟩
  case g=>
   refine ah.of_tree (d:=.int ?v) rfl aa4 ajC ?_;simp[OV,h];exact rfl
def GJ (y m d:Int):Int:=(afE y m d).choose
def MK (y m d:Int):ah T 222 [.int y,.int m,.int d] (.int (GJ y m d)):=(afE y m d).choose_spec
def CC (y m:Int):Int:=if m=12 then 31 else i64.wrap (GJ y (i64.wrap (m+1)) 1-GJ y m 1)
def Ms (y m:Int):ah T 205 [.int y,.int m] (.int (CC y m)):=by
 refine zyw 90 ayg ?_;unfold CC;by_cases h:m=12
 .simp[OU,h]
 .simp[OU,h];refine⟨_,MK _ _ _,_,MK _ _ _,?_⟩;simp
def aj9 (y m d:Int):∃n e:Int,ah T 204 [.int y,.int m,.int d] (.tup [.int n,.int e])/\(e=0->0<=n/\n<=100000):=by
 by_cases h0:(((2000<=y/\y<=2300)/\1<=m)/\m<=12)/\1<=d
 .by_cases h2:d<=CC y m
  .cases h1:eB (GJ y m d)
   .refine⟨0,3,.of_tree rfl Jn OT ?_,by simp⟩;simp[DB];rw[if_pos h0];refine⟨_,Ms y m,?_⟩;simp[h0,h2];refine⟨_,MK _ _ _,_,IL _,?_⟩;simp[h1]
   .refine⟨GJ y m d,0,.of_tree rfl Jn OT ?_,λ_=>by simpa [eB] using h1⟩;simp[DB];rw[if_pos h0];exact⟨_,Ms y m,⟨h0,h2⟩,_,MK _ _ _,_,IL _,h1,rfl⟩
  .refine⟨0,3,.of_tree rfl Jn OT ?_,by simp⟩;simp[DB];rw[if_pos h0];refine⟨_,Ms y m,?_⟩;simp[h0,h2]
 .refine⟨0,3,.of_tree rfl Jn OT ?_,by simp⟩;simp[DB];rw[if_neg h0];intro a1 a2 a3 a4 a5;exact absurd ⟨⟨⟨⟨a1,a2⟩,a3⟩,a4⟩,a5⟩ h0
def aaP (r:Realm)(fr to:Int)(hl:r.usances.length<=100000):∃n e:Int,ah T 97 [aP r,.int fr,.int to] (.tup [.int n,.int e])/\(e=0->∃u,u∈r.usances/\n=u.days)/\(e=0↔∃u,u∈r.usances/\u.fr=fr/\u.to=to):=by
 let p:Usance->Bool:=λu=>decide (u.fr=fr)&&decide (u.to=to)
 refine⟨match r.usances.find? p with|some u=>u.days|none=>0,match r.usances.find? p with|some u=>0|none=>4,?_,?_⟩
 .refine .of_tree rfl aa6 ajE ?_;simp[OY];refine aO.scan r.usances.length (λk=>p (r.usances.getD k default)=false) (λk=>[.int 0,.int 0,.int k]) (λ_=>[]) ?_ (λk hk hj ar=>?_) (λk hk hj ar=>?_) (λhj=>?_)
  .simp
  .have hw:=bx hk (by omega);have hn:¬(r.usances[k].fr=fr/\r.usances[k].to=to):=by simpa [p,hk] using ar
   simp[Dh,w7,hk,hw,hn]
  .have lD:=BN hk (by simpa [hk] using ar) (λj bC=>by have:=hj j bC;simpa [show j<r.usances.length by omega] using this);have hc:r.usances[k].fr=fr/\r.usances[k].to=to:=by simpa [p,hk] using ar
   rw[lD];simp[Dh,w7,hk,hc]
  .have lD:=E6 (l:=r.usances) (p:=p) (λj bC=>by have:=hj j bC;simpa [bC] using this);rw[lD];simp[Dh,w7]
 .cases h:r.usances.find? p with
  |none=>
   refine⟨λh=>(by cases h),λh=>(by cases h),λ⟨u,hu,h1,h2⟩=>?_⟩;have:=Ao.1 h u hu;simp[p,h1,h2] at this
  |some u=>
   have h2:u.fr=fr/\u.to=to:=by simpa [p] using Pn h
   exact⟨λ_=>⟨u,DW h,rfl⟩,λ_=>⟨u,DW h,h2⟩,λ_=>rfl⟩
def aky (r:Realm)(fr to:Int)(hl:r.usances.length<=100000):∃n e:Int,ah T 97 [aP r,.int fr,.int to] (.tup [.int n,.int e])/\(e=0->∃u,u∈r.usances/\n=u.days):=by
 obtain⟨n,e,h1,h2,_⟩:=aaP r fr to hl;exact⟨n,e,h1,h2⟩
end Rm
