/-
  Shared texts of this claim.
-/
import Derived.Test.YtibbcfbmjlehcaaGreatDoorBAO
import Derived.Lib.Mul64
set_option linter.defProp false
set_option linter.unusedSimpArgs false
set_option linter.unusedVariables false
noncomputable section
open Go.IntKind (i64)
namespace Rm
open Go Go.Proofs Cx
abbrev u (n:Nat):D:=.v (.int .u64 n)
def IA (n:Int):IntKind.u64.wrap n=n%18446744073709551616:=rfl
def kC {n:Int}(h:0<=n/\n<18446744073709551616):IntKind.u64.wrap n=n:=by
 rw[IA];omega
def j3 {n:Nat}(h:n<18446744073709551616):IntKind.u64.wrap (n:Int)=n:=kC (by omega)
def Il (a s:Nat)(h:s<=64):bW .shr .u64 a s=((a/2^s:Nat):Int):=by
 show Int.fdiv (a:Int) (2^(min (s:Int).toNat 64))=_;have:min (s:Int).toNat 64=s:=by simp;omega
 rw[this,ake _ (Int.le_of_lt (Int.pow_pos (by decide)))];rw[Int.natCast_ediv,Int.natCast_pow];rfl
def WN (a s:Nat)(h:s<=64):bW .shl .u64 a s=((a*2^s%18446744073709551616:Nat):Int):=by
 show IntKind.u64.wrap ((a:Int)*(2^(min (s:Int).toNat 64)))=_;have:min (s:Int).toNat 64=s:=by simp;omega
 rw[this,IA,Int.natCast_emod,Int.natCast_mul,Int.natCast_pow];rfl
def D0 (a:Nat)(h:a<18446744073709551616):bW .and .u64 a 4294967295=((a%4294967296:Nat):Int):=by
 show IntKind.u64.wrap ((BitVec.ofInt 64 (a:Int)&&& BitVec.ofInt 64 4294967295).toNat:Nat)=_;have e:(BitVec.ofInt 64 (a:Int)&&& BitVec.ofInt 64 4294967295).toNat=a%4294967296:=by
  rw[BitVec.toNat_and];have e1:(BitVec.ofInt 64 (a:Int)).toNat=a:=by simp[BitVec.ofInt,BitVec.toNat_ofNat];omega
  have e2:(BitVec.ofInt 64 4294967295).toNat=2^32-1:=by decide
  rw[e1,e2,Nat.and_two_pow_sub_one_eq_mod]
 rw[e,j3 (by omega)]
@[simp] def dD (a:Nat):bW .shr .u64 a 32=((a/4294967296:Nat):Int):=Il a 32 (by decide)
@[simp] def aHQ (a:Nat):bW .shr .u64 a 16=((a/65536:Nat):Int):=Il a 16 (by decide)
@[simp] def aHR (a:Nat):bW .shr .u64 a 8=((a/256:Nat):Int):=Il a 8 (by decide)
set_option maxHeartbeats 2000000 in
def aft (a b:Nat)(ha:a<18446744073709551616)(hb:b<18446744073709551616):ah T 79 [u a,u b] (.tup [u (a*b/18446744073709551616),u (a*b%18446744073709551616)]):=by
 refine zyw 58 ax6 ?_;obtain⟨h1,h2,h3,h4⟩:=Go.Lib.mul64_hi a b ha hb;have elo:IntKind.u64.wrap ((a:Int)*(b:Int))=((a*b%18446744073709551616:Nat):Int):=by rw[IA,Int.natCast_emod,Int.natCast_mul];rfl
 have QV:bW .shr .u64 (a:Int) 32=((a/4294967296:Nat):Int):=dD a;have ea0:bW .and .u64 (a:Int) 4294967295=((a%4294967296:Nat):Int):=D0 a ha;have QW:bW .shr .u64 (b:Int) 32=((b/4294967296:Nat):Int):=dD b;have eb0:bW .and .u64 (b:Int) 4294967295=((b%4294967296:Nat):Int):=D0 b hb;have aF6:=Go.Lib.half_mul_le (a:=a/4294967296) (b:=b/4294967296) (by omega) (by omega);have aF5:=Go.Lib.half_mul_le (a:=a/4294967296) (b:=b%4294967296) (by omega) (by omega);have aF4:=Go.Lib.half_mul_le (a:=a%4294967296) (b:=b/4294967296) (by omega) (by omega);have aF3:=Go.Lib.half_mul_le (a:=a%4294967296) (b:=b%4294967296) (by omega) (by omega);have B0:a*b/18446744073709551616<18446744073709551616:=by
  have:a*b<18446744073709551616*18446744073709551616:=Nat.mul_lt_mul'' ha hb;exact Nat.div_lt_of_lt_mul this
 simp only[Xo];generalize a/4294967296=a1 at*;generalize a%4294967296=a0 at*;generalize b/4294967296=b1 at*;generalize b%4294967296=b0 at*;have p11:IntKind.u64.wrap ((a1:Int)*(b1:Int))=((a1*b1:Nat):Int):=by rw[<-Int.natCast_mul];exact j3 (by omega)
 have p10:IntKind.u64.wrap ((a1:Int)*(b0:Int))=((a1*b0:Nat):Int):=by rw[<-Int.natCast_mul];exact j3 (by omega)
 have p01:IntKind.u64.wrap ((a0:Int)*(b1:Int))=((a0*b1:Nat):Int):=by rw[<-Int.natCast_mul];exact j3 (by omega)
 have p00:IntKind.u64.wrap ((a0:Int)*(b0:Int))=((a0*b0:Nat):Int):=by rw[<-Int.natCast_mul];exact j3 (by omega)
 rw[<-h4] at B0 ⊢;generalize a1*b1=P at*;generalize a1*b0=Q at*;generalize a0*b1=R at*;generalize a0*b0=S at*;have s1:bW .shr .u64 (S:Int) 32=((S/4294967296:Nat):Int):=dD S;have s2:IntKind.u64.wrap ((Q:Int)+((S/4294967296:Nat):Int))=((Q+S/4294967296:Nat):Int):=by rw[kC (by omega)];omega
 generalize S/4294967296=S1 at*;generalize hT:Q+S1=TT at*;have s3:bW .shr .u64 (TT:Int) 32=((TT/4294967296:Nat):Int):=dD TT;have s4:bW .and .u64 (TT:Int) 4294967295=((TT%4294967296:Nat):Int):=D0 TT (by omega);have s5:IntKind.u64.wrap (((TT%4294967296:Nat):Int)+(R:Int))=((TT%4294967296+R:Nat):Int):=by rw[kC (by omega)];omega
 generalize hU:TT%4294967296+R=U at*;have s6:bW .shr .u64 (U:Int) 32=((U/4294967296:Nat):Int):=dD U;have s7:IntKind.u64.wrap ((P:Int)+((TT/4294967296:Nat):Int))=((P+TT/4294967296:Nat):Int):=by rw[kC (by omega)];omega
 have s8:IntKind.u64.wrap (((P+TT/4294967296:Nat):Int)+((U/4294967296:Nat):Int))=((P+TT/4294967296+U/4294967296:Nat):Int):=by rw[kC (by omega)];omega
 simp[-dD,-Int.natCast_add,-Int.natCast_mul,-Int.natCast_ediv,-Int.natCast_emod,elo,QV,ea0,QW,eb0,p11,p10,p01,p00,s1,s2,s3,s4,s5,s6,s7,s8]
def uW (m:Nat):Int:=if m<1099511627776 then m else 1099511627776
def CK (a b:Int):Int:=if(decide (a<0)!=decide (b<0))=true then-uW (a.natAbs*b.natAbs) else uW (a.natAbs*b.natAbs)
def ahD (m:Nat):0<=uW m/\uW m<=1099511627776:=by unfold uW;split<;>omega
set_option maxHeartbeats 1000000 in
def axD (a b:Int)(ha:-1099511627776<=a/\a<=1099511627776)(hb:-1099511627776<=b/\b<=1099511627776):ah T 215 [.int a,.int b] (.int (CK a b)):=by
 refine zyw 57 az5 ?_;have wa:IntKind.u64.wrap (a.natAbs:Int)=a.natAbs:=j3 (by omega);have wb:IntKind.u64.wrap (b.natAbs:Int)=b.natAbs:=j3 (by omega);have w0a:i64.wrap (0-a)=-a:=by rw[aO (by omega)];omega
 have w0b:i64.wrap (0-b)=-b:=by rw[aO (by omega)];omega
 have aAu:i64.wrap (-a)=-a:=aO (by omega);have aAv:i64.wrap (-b)=-b:=aO (by omega);have ea:(if a< -a then D.int (-a) else D.int a)=D.int a.natAbs:=by split<;>congr 1<;>omega
 have eb:(if b< -b then D.int (-b) else D.int b)=D.int b.natAbs:=by split<;>congr 1<;>omega
 have ea':(if a< -a then-a else a)=(a.natAbs:Int):=by split<;>omega
 have eb':(if b< -b then-b else b)=(b.natAbs:Int):=by split<;>omega
 simp[Zq,aAu,aAv,ea,eb,ea',eb'];rw[wa,wb];refine⟨_,aft a.natAbs b.natAbs (by omega) (by omega),?_⟩;unfold CK;generalize a.natAbs*b.natAbs=m;have hs:(decide (a<0)!=decide (b<0))=false↔(a<0↔b<0):=by
  by_cases h1:a<0<;>by_cases h2:b<0<;>simp[h1,h2]
 have key:((if((m/18446744073709551616:Nat):Int)=0/\((m%18446744073709551616:Nat):Int)<1099511627776 then i64.wrap ((m%18446744073709551616:Nat):Int) else 1099511627776):Int)=uW m:=by
  unfold uW;by_cases hm:m<1099511627776
  .have h1:m/18446744073709551616=0:=by omega
   have h2:m%18446744073709551616=m:=by omega
   rw[h1,h2,if_pos ⟨rfl,by omega⟩,if_pos hm,aO (by omega)]
  .rw[if_neg hm,if_neg];rintro⟨h1,h2⟩;omega
 have fy:=ahD m;have asv:(if((m/18446744073709551616:Nat):Int)=0/\((m%18446744073709551616:Nat):Int)<1099511627776 then D.int (i64.wrap ((m%18446744073709551616:Nat):Int)) else D.int 1099511627776)=D.int (uW m):=by
  rw[<-key];split<;>rfl
 show(if a<0↔b<0 then(if((m/18446744073709551616:Nat):Int)=0/\((m%18446744073709551616:Nat):Int)<1099511627776 then D.int (i64.wrap ((m%18446744073709551616:Nat):Int)) else D.int 1099511627776)=_ else
  i64.wrap (-(if((m/18446744073709551616:Nat):Int)=0/\((m%18446744073709551616:Nat):Int)<1099511627776 then i64.wrap ((m%18446744073709551616:Nat):Int) else 1099511627776))=_)
 rw[asv,key];generalize uW m=n at*;split
 .rename_i h;rw[hs.2 h];simp
 .rename_i h;have:(decide (a<0)!=decide (b<0))=true:=by
   cases e:(decide (a<0)!=decide (b<0)) with
   |true=>rfl
   |false=>exact absurd (hs.1 e) h
  rw[this,aO (by omega)];simp
def Aq (op a b:Int):Int:=if op=9 then qP (a+b) else if op=10 then qP (a-b) else if op=11 then CK a b else if op=12 then min a b else max a b
def axA (op a b:Int)(ha:-1099511627776<=a/\a<=1099511627776)(hb:-1099511627776<=b/\b<=1099511627776):ah T 213 [.int op,.int a,.int b] (.int (Aq op a b)):=by
 refine zyw 56 azY ?_;have w1:i64.wrap (a+b)=a+b:=aO (by omega);have w2:i64.wrap (a-b)=a-b:=aO (by omega);simp[Zk,Aq,w1,w2];by_cases h1:op=9
 .simp[h1];exact OA _
 by_cases h2:op=10
 .simp[h1,h2];exact OA _
 by_cases h3:op=11
 .simp[h1,h2,h3];exact axD a b ha hb
 by_cases h4:op=12
 .simp[h1,h2,h3,h4];by_cases h5:b<a<;>simp[h5]<;>omega
 simp[h1,h2,h3,h4];by_cases h5:b>a<;>simp[h5]<;>omega
def iL (b:Bool):Cell:=if b then⟨true,1⟩ else⟨true,0⟩
def wY (b:Bool):ah T 211 [.bool b] (cX (iL b)):=by
 refine zyw 54 az7 ?_;cases b<;>simp[Zs,iL]<;>rfl
def eW:Cell:=⟨false,0⟩
@[simp] def aG9:D.agg [.bool false,.int 0]=cX eW:=zyz
@[simp] def aHa:eW.known=false:=rfl
@[simp] def aHb:eW.n=0:=rfl
def cellAt (cs:List Cell)(v:Int):Cell:=cs.getD v.toNat default
def mB (cs:List Cell)(v:Int):Cell:=if cs.length<=v.toNat\/(cellAt cs v).known=false then eW else if(nw v).1=1 then iL (decide ((cellAt cs v).n≠0)) else⟨true,qP (cellAt cs v).n⟩
abbrev Q0 (cs:List Cell):D:=.agg [cells cs]
def axF (cs:List Cell)(v:Int)(hv:0<=v):ah T 201 [Q0 cs,.int v] (cX (mB cs v)):=by
 refine zyw 53 az4 ?_;obtain⟨k,rfl⟩:=qz hv;simp[Zp,mB,cellAt];by_cases h1:cs.length<=k
 .simp[h1]
 have cB:k<cs.length:=by omega
 simp[h1,cB];cases h2:cs[k].known
 .simp[h2]
 simp[h2];refine⟨_,ajq _,?_⟩;by_cases h3:(nw k).1=1
 .simp[h3,cB];refine⟨_,wY _,?_⟩;simp;rfl
 .simp[h3,cB];refine⟨_,OA _,?_⟩;simp;rfl
@[simp] def aGu (a b:Int):(a==b)=decide (a=b):=zyz
@[simp] def aGv (a b:Int):(a !=b)= !decide (a=b):=zyz
def bz (l:List Cell)(k:Nat):Cell:=l.getD k default
def iU (op:Int)(l:List Cell):Cell:=
 if op=3 then(if(bz l 0).known=true then iL (decide ((bz l 0).n=0)) else eW)
 else if(op=4\/op=5)/\(bz l 0=iL (decide (op=5))\/bz l 1=iL (decide (op=5))) then iL (decide (op=5))
 else if op=6 then(if(bz l 1).known=true/\bz l 1=bz l 2 then bz l 1 else eW)
 else if(bz l 0).known=false\/(bz l 1).known=false then eW
 else if op=4\/op=5 then iL (decide (op=4))
 else if op=7 then iL (decide ((bz l 0).n<(bz l 1).n)) else if op=8 then iL (decide ((bz l 0).n=(bz l 1).n)) else⟨true,Aq op (bz l 0).n (bz l 1).n⟩
def als (a b:Cell):a=b↔a.known=b.known/\a.n=b.n:=by cases a;cases b;simp
def axB (op:Int)(l:List Cell)(h1:1<=l.length)(h2:op≠3->2<=l.length)(h3:op=6->3<=l.length)
 (hb:9<=op->(-1099511627776<=(bz l 0).n/\(bz l 0).n<=1099511627776)/\(-1099511627776<=(bz l 1).n/\(bz l 1).n<=1099511627776)) (h9:op<3\/8<op->9<=op):
 ah T 202 [.int op,cells l] (cX (iU op l)):=by
 refine zyw 55 az0 ?_;have g0:0<l.length:=by omega
 have yh:l[0]=bz l 0:=by simp[bz,g0]
 simp[Zm];unfold iU;by_cases o3:op=3
 .simp[o3,g0,yh];cases e:(bz l 0).known
  .simp
  .simp[g0];refine⟨_,wY _,?_⟩;simp
 have g1:1<l.length:=by have:=h2 o3;omega
 have Fa:l[1]=bz l 1:=by simp[bz,g1]
 have fu:(1:Int)<l.length:=by omega
 simp[o3];have fin:∀a b:Cell,(a=b)=(a.known=b.known/\a.n=b.n):=λa b=>propext (als a b);rcases II (op=4) with o4|o4
 .subst o4;simp;refine⟨_,wY _,?_⟩;simp[g0,g1,fu,yh,Fa,fin];split
  .rfl
  .split
   .rfl
   .refine⟨_,wY _,?_⟩;simp
 rcases II (op=5) with o5|o5
 .subst o5;simp;refine⟨_,wY _,?_⟩;simp[g0,g1,fu,yh,Fa,fin];split
  .rfl
  .split
   .rfl
   .refine⟨_,wY _,?_⟩;simp
 rcases II (op=6) with o6|o6
 .subst o6;have g2:2<l.length:=by have:=h3 rfl;omega
  have gg2:l[2]=bz l 2:=by simp[bz,g2]
  have pA:(2:Int)<l.length:=by omega
  simp[g1,g2,fu,pA,Fa,gg2,fin];cases e1:(bz l 1).known
  .simp
  by_cases e2:(bz l 1).known=(bz l 2).known/\(bz l 1).n=(bz l 2).n
  .rw[e1] at e2;simp[e1,e2]
  .rw[e1] at e2;have sF:¬((bz l 2).known=true/\(bz l 1).n=(bz l 2).n):=λh=>e2 ⟨h.1.symm,h.2⟩;simp only[e1,true_and,if_true]
   first|(rw[if_neg sF,if_neg sF])|(simp[sF])
 simp[o4,o5,o6,g0,g1,fu,yh,Fa];cases e1:(bz l 0).known
 .simp
 cases e2:(bz l 1).known
 .simp
 simp[g1,fu,Fa];rcases II (op=7) with o7|o7
 .subst o7;simp;refine⟨_,wY _,?_⟩;simp
 rcases II (op=8) with o8|o8
 .subst o8;simp;refine⟨_,wY _,?_⟩;simp
 simp[o7,o8];obtain⟨b1,b2⟩:=hb (h9 (by omega));refine⟨_,axA op _ _ b1 b2,?_⟩;simp;rfl
def au0 (a b s:Nat)(h:a<18446744073709551616)(hb:b<2^s)(ha:a%2^s=0)(hs:s<=64):bW .or .u64 a b=((a+b:Nat):Int):=by
 show IntKind.u64.wrap ((BitVec.ofInt 64 (a:Int)|||BitVec.ofInt 64 (b:Int)).toNat:Nat)=_;have fy:b<18446744073709551616:=ln hb (by have:=Nat.pow_le_pow_right (n:=2) (by decide) hs;simpa using this);have e1:∀n:Nat,n<18446744073709551616->(BitVec.ofInt 64 (n:Int)).toNat=n:=λn hn=>by simp[BitVec.ofInt,BitVec.toNat_ofNat];omega
 have e:(BitVec.ofInt 64 (a:Int)|||BitVec.ofInt 64 (b:Int)).toNat=a+b:=by
  rw[BitVec.toNat_or,e1 a h,e1 b fy];have e3:a=2^s*(a/2^s):=by have:=Al a (2^s);omega
  rw[e3];exact(Nat.two_pow_add_eq_or_of_lt hb (a/2^s)).symm
 have af:a+b<18446744073709551616:=by rw[<-e];exact BitVec.isLt _
 rw[e,j3 af]
def bl (x L:Nat):Prop:=(L=0->x=0)/\(0<L->2^(L-1)<=x)/\x<2^L/\L<=64
def L9:ByteArray:=⟨#[0,1,2,2,3,3,3,3,4,4,4,4,4,4,4,4,5,5,5,5,5,5,5,5,5,5,5,5,5,5,5,5,6,6,6,6,6,6,6,6,6,6,6,6,6,6,6,6,6,6,6,6,6,6,6,6,6,6,6,6,6,6,6,6,7,7,7,7,7,7,7,7,7,7,7,7,7,7,7,7,7,7,7,7,7,7,7,7,7,7,7,7,7,7,7,7,7,7,7,7,7,7,7,7,7,7,7,7,7,7,7,7,7,7,7,7,7,7,7,7,7,7,7,7,7,7,7,7,8,8,8,8,8,8,8,8,8,8,8,8,8,8,8,8,8,8,8,8,8,8,8,8,8,8,8,8,8,8,8,8,8,8,8,8,8,8,8,8,8,8,8,8,8,8,8,8,8,8,8,8,8,8,8,8,8,8,8,8,8,8,8,8,8,8,8,8,8,8,8,8,8,8,8,8,8,8,8,8,8,8,8,8,8,8,8,8,8,8,8,8,8,8,8,8,8,8,8,8,8,8,8,8,8,8,8,8,8,8,8,8,8,8,8,8,8,8,8,8,8,8,8,8,8,8,8,8]⟩
def len8 (y:Nat):Nat:=(L9.data.getD y 0).toNat
def asC:(List.range 256).all (λy=>(len8 y==0&&y==0||Nat.ble (2^(len8 y-1)) y&&Nat.blt 0 (len8 y))&&Nat.blt y (2^len8 y)&&Nat.ble (len8 y) 8)=true:=by kernel_rfl
def pW {y:Nat}(h:y<256):((len8 y=0/\y=0)\/(2^(len8 y-1)<=y/\0<len8 y))/\y<2^len8 y/\len8 y<=8:=by
 have:=cN.1 asC y (fP.2 h);simp only[ao,kE,beq_iff_eq,Nat.ble_eq,ph] at this;exact⟨this.1.1,this.1.2,this.2⟩
def aa2 {y:Nat}(h:y<256):bl y (len8 y):=by
 obtain⟨h1,h2,h3⟩:=pW h;refine⟨λh0=>?_,λh0=>?_,h2,by omega⟩
 .rcases h1 with h1|h1
  .exact h1.2
  .omega
 .rcases h1 with h1|h1
  .omega
  .exact h1.1
def Qp {x s L:Nat}(hx:2^s<=x)(h:bl (x/2^s) L)(hs:L+s<=64):bl x (L+s):=by
 have hp:0<2^s:=xG s;have hL:0<L:=by
  rcases Am L with h0|h0
  .have:=h.1 h0;have:=Nat.div_pos hx hp;omega
  .exact h0
 refine⟨λh0=>by omega,λ_=>?_,?_,hs⟩
 .have h1:=h.2.1 hL;have e:L+s-1=(L-1)+s:=by omega
  rw[e,Pm];exact(Pk hp).1 h1
 .rw[Pm];exact(xE hp).1 h.2.2.1
@[simp] def xl {n:Nat}(h:n<256):IntKind.u8.wrap (n:Int)=n:=by
  show(n:Int)%256=n;omega
def asB:(⟨#[0,1,2,2,3,3,3,3,4,4,4,4,4,4,4,4,5,5,5,5,5,5,5,5,5,5,5,5,5,5,5,5,6,6,6,6,6,6,6,6,6,6,6,6,6,6,6,6,6,6,6,6,6,6,6,6,6,6,6,6,6,6,6,6,7,7,7,7,7,7,7,7,7,7,7,7,7,7,7,7,7,7,7,7,7,7,7,7,7,7,7,7,7,7,7,7,7,7,7,7,7,7,7,7,7,7,7,7,7,7,7,7,7,7,7,7,7,7,7,7,7,7,7,7,7,7,7,7,8,8,8,8,8,8,8,8,8,8,8,8,8,8,8,8,8,8,8,8,8,8,8,8,8,8,8,8,8,8,8,8,8,8,8,8,8,8,8,8,8,8,8,8,8,8,8,8,8,8,8,8,8,8,8,8,8,8,8,8,8,8,8,8,8,8,8,8,8,8,8,8,8,8,8,8,8,8,8,8,8,8,8,8,8,8,8,8,8,8,8,8,8,8,8,8,8,8,8,8,8,8,8,8,8,8,8,8,8,8,8,8,8,8,8,8,8,8,8,8,8,8,8,8,8,8,8,8]⟩:ByteArray)=L9:=rfl
def wk:L9.size=256:=by kernel_rfl
def len8_eq (y:Nat):(L9.data[y]?.getD 0).toNat=len8 y:=by simp[len8]
def l8 (x:Nat):Nat:=if 256<=x then len8 (x/256)+8 else len8 x
def Cn (x:Nat):Nat:=if 65536<=x then l8 (x/65536)+16 else l8 x
def wh (x:Nat):Nat:=if 4294967296<=x then Cn (x/4294967296)+32 else Cn x
def aeH {x:Nat}(h:x<65536):bl x (l8 x):=by
 unfold l8;split
 .rename_i h1;exact Qp (s:=8) h1 (aa2 (by omega)) (by have:=(pW (y:=x/256) (by omega)).2.2;omega)
 .exact aa2 (by omega)
def aeI {x:Nat}(h:x<65536):l8 x<=16:=by
 unfold l8;split
 .have:=(pW (y:=x/256) (by omega)).2.2;omega
 .have:=(pW (y:=x) (by omega)).2.2;omega
def aeF {x:Nat}(h:x<4294967296):bl x (Cn x)/\Cn x<=32:=by
 unfold Cn;split
 .rename_i h1;have:=aeI (x:=x/65536) (by omega);exact⟨Qp (s:=16) h1 (aeH (by omega)) (by omega),by omega⟩
 .have:=aeI (x:=x) (by omega);exact⟨aeH (by omega),by omega⟩
def aeG {x:Nat}(h:x<18446744073709551616):bl x (wh x):=by
 unfold wh;split
 .rename_i h1;have:=aeF (x:=x/4294967296) (by omega);exact Qp (s:=32) h1 this.1 (by omega)
 .exact(aeF (by omega)).1
set_option maxRecDepth 10000 in
set_option maxHeartbeats 1000000 in
def asA (x:Nat)(h:x<18446744073709551616):ah T 104 [u x] (.int (wh x:Nat)):=by
 refine zyw 115 ax5 ?_;unfold wh Cn l8;simp only[Xn, kZ, asB];have w8:i64.wrap 8=8:=aO (by omega);have xc:i64.wrap 16=16:=aO (by omega);have xd:i64.wrap 24=24:=aO (by omega);have xe:i64.wrap 32=32:=aO (by omega);have xf:i64.wrap 40=40:=aO (by omega);have xg:i64.wrap 48=48:=aO (by omega);have xh:i64.wrap 56=56:=aO (by omega);by_cases h1:4294967296<=x
 .have g1:(4294967296:Int)<=x:=by omega
  generalize kR:x/4294967296=x1 at*;by_cases h2:65536<=x1
  .have g2:(65536:Int)<=(x1:Nat):=by omega
   generalize yX:x1/65536=x2 at*;by_cases h3:256<=x2
   .have g3:(256:Int)<=(x2:Nat):=by omega
    have hY:x2/256<256:=by omega
    have hl:=(pW hY).2.2;have k1:IntKind.u8.wrap ((x2/256:Nat):Int)=((x2/256:Nat):Int):=xl hY;have k2:i64.wrap ((len8 (x2/256):Nat):Int)=len8 (x2/256):=aO (by omega);have k3:i64.wrap (56+(len8 (x2/256):Int))=56+(len8 (x2/256):Int):=aO (by omega);simp[h1,h2,h3,g1,g2,g3,k1,wk,len8_eq,k2,k3,w8,xc,xd,xe,xf,xg,xh,kR,yX,-Int.natCast_ediv];omega
   .have g3:¬(256:Int)<=(x2:Nat):=by omega
    have hY:x2<256:=by omega
    have hl:=(pW hY).2.2;have k1:IntKind.u8.wrap ((x2:Nat):Int)=((x2:Nat):Int):=xl hY;have k2:i64.wrap ((len8 (x2):Nat):Int)=len8 (x2):=aO (by omega);have k3:i64.wrap (48+(len8 (x2):Int))=48+(len8 (x2):Int):=aO (by omega);simp[h1,h2,h3,g1,g2,g3,k1,wk,len8_eq,k2,k3,w8,xc,xd,xe,xf,xg,xh,kR,yX,-Int.natCast_ediv];omega
  .have g2:¬(65536:Int)<=(x1:Nat):=by omega
   by_cases h3:256<=x1
   .have g3:(256:Int)<=(x1:Nat):=by omega
    have hY:x1/256<256:=by omega
    have hl:=(pW hY).2.2;have k1:IntKind.u8.wrap ((x1/256:Nat):Int)=((x1/256:Nat):Int):=xl hY;have k2:i64.wrap ((len8 (x1/256):Nat):Int)=len8 (x1/256):=aO (by omega);have k3:i64.wrap (40+(len8 (x1/256):Int))=40+(len8 (x1/256):Int):=aO (by omega);simp[h1,h2,h3,g1,g2,g3,k1,wk,len8_eq,k2,k3,w8,xc,xd,xe,xf,xg,xh,kR,-Int.natCast_ediv];omega
   .have g3:¬(256:Int)<=(x1:Nat):=by omega
    have hY:x1<256:=by omega
    have hl:=(pW hY).2.2;have k1:IntKind.u8.wrap ((x1:Nat):Int)=((x1:Nat):Int):=xl hY;have k2:i64.wrap ((len8 (x1):Nat):Int)=len8 (x1):=aO (by omega);have k3:i64.wrap (32+(len8 (x1):Int))=32+(len8 (x1):Int):=aO (by omega);simp[h1,h2,h3,g1,g2,g3,k1,wk,len8_eq,k2,k3,w8,xc,xd,xe,xf,xg,xh,kR,-Int.natCast_ediv];omega
 .have g1:¬(4294967296:Int)<=x:=by omega
  by_cases h2:65536<=x
  .have g2:(65536:Int)<=(x:Nat):=by omega
   generalize yX:x/65536=x2 at*;by_cases h3:256<=x2
   .have g3:(256:Int)<=(x2:Nat):=by omega
    have hY:x2/256<256:=by omega
    have hl:=(pW hY).2.2;have k1:IntKind.u8.wrap ((x2/256:Nat):Int)=((x2/256:Nat):Int):=xl hY;have k2:i64.wrap ((len8 (x2/256):Nat):Int)=len8 (x2/256):=aO (by omega);have k3:i64.wrap (24+(len8 (x2/256):Int))=24+(len8 (x2/256):Int):=aO (by omega);simp[h1,h2,h3,g1,g2,g3,k1,wk,len8_eq,k2,k3,w8,xc,xd,xe,xf,xg,xh,yX,-Int.natCast_ediv];omega
   .have g3:¬(256:Int)<=(x2:Nat):=by omega
    have hY:x2<256:=by omega
    have hl:=(pW hY).2.2;have k1:IntKind.u8.wrap ((x2:Nat):Int)=((x2:Nat):Int):=xl hY;have k2:i64.wrap ((len8 (x2):Nat):Int)=len8 (x2):=aO (by omega);have k3:i64.wrap (16+(len8 (x2):Int))=16+(len8 (x2):Int):=aO (by omega);simp[h1,h2,h3,g1,g2,g3,k1,wk,len8_eq,k2,k3,w8,xc,xd,xe,xf,xg,xh,yX,-Int.natCast_ediv];omega
  .have g2:¬(65536:Int)<=(x:Nat):=by omega
   by_cases h3:256<=x
   .have g3:(256:Int)<=(x:Nat):=by omega
    have hY:x/256<256:=by omega
    have hl:=(pW hY).2.2;have k1:IntKind.u8.wrap ((x/256:Nat):Int)=((x/256:Nat):Int):=xl hY;have k2:i64.wrap ((len8 (x/256):Nat):Int)=len8 (x/256):=aO (by omega);have k3:i64.wrap (8+(len8 (x/256):Int))=8+(len8 (x/256):Int):=aO (by omega);simp[h1,h2,h3,g1,g2,g3,k1,wk,len8_eq,k2,k3,w8,xc,xd,xe,xf,xg,xh,-Int.natCast_ediv];omega
   .have g3:¬(256:Int)<=(x:Nat):=by omega
    have hY:x<256:=by omega
    have hl:=(pW hY).2.2;have k1:IntKind.u8.wrap ((x:Nat):Int)=((x:Nat):Int):=xl hY;have k2:i64.wrap ((len8 (x):Nat):Int)=len8 (x):=aO (by omega);have k3:i64.wrap (0+(len8 (x):Int))=0+(len8 (x):Int):=aO (by omega);simp[h1,h2,h3,g1,g2,g3,k1,wk,len8_eq,k2,k3,w8,xc,xd,xe,xf,xg,xh,-Int.natCast_ediv];omega
def abD {v1 v0 u32 d:Nat}(hv:0<v1)(hd:d<4294967296)(hu:u32<v1*4294967296+v0):(u32*4294967296+d)/(v1*4294967296+v0)<=u32/v1:=by
 have h1:(u32*4294967296+d)/(v1*4294967296+v0)<=(u32*4294967296+d)/(v1*4294967296):=Nat.div_le_div_left (by omega) (by omega);have h2:(u32*4294967296+d)/(v1*4294967296)=u32/v1:=by
  rw[xF v1,<-Nat.div_div_eq_div_mul]
  congr 1;omega
 omega
def abG {v1 v0 u32:Nat}(eC:v0<4294967296)(aP:2147483648<=v1)(hu:u32<v1*4294967296+v0):u32/v1<=4294967297:=by
 have h1:u32/v1*v1<=u32:=Nat.div_mul_le_self u32 v1;have h2:u32/v1*v1<4294967298*v1:=by omega
 have:=Nat.lt_of_mul_lt_mul_right h2;omega
def QR (q v1 v0:Nat):q*(v1*4294967296+v0)=q*v1*4294967296+q*v0:=by rw[Nat.mul_add,aaz]
def abF {v1 v0 u32 d q r:Nat}(hu:u32<v1*4294967296+v0)(hd:d<4294967296)(h1:q*v1+r=u32)(c:4294967296<=q\/4294967296*r+d<q*v0):(u32*4294967296+d)/(v1*4294967296+v0)<q:=by
 rw[xE (by omega)];rcases c with c|c
 .have h2:4294967296*(v1*4294967296+v0)<=q*(v1*4294967296+v0):=ka _ c;omega
 .rw[QR];omega
def abE {v1 v0 u32 d q r:Nat}(hv:0<v1)(h1:q*v1+r=u32)(c:q*v0<=4294967296*r+d):q<=(u32*4294967296+d)/(v1*4294967296+v0):=by
 rw[Pk (by omega),QR];omega
def abC {v1 v0 u32 d q r:Nat}(eC:v0<4294967296)(h1:q*v1+r=u32)(hu:u32<v1*4294967296+v0)(c:4294967296<=r):q<=(u32*4294967296+d)/(v1*4294967296+v0):=by
 have hv:0<v1*4294967296+v0:=by omega
 have hq:q<4294967296:=by
  rcases IU q 4294967296 with h|h
  .exact h
  .have:4294967296*v1<=q*v1:=ka _ h;omega
 have h2:q*v0<=4294967295*4294967295:=DS (by omega) (by omega);rw[Pk hv,QR];omega
def asG (O:Env)(q0 r0 v1 v0 u32 d:Nat)(eC:v0<4294967296)(aP:2147483648<=v1)(arX:v1<4294967296)(hd:d<4294967296)(hu:u32<v1*4294967296+v0)
 (hq:q0=u32/v1) (hr:r0=u32%v1) (h9:O.r 9=u v1) (jo:O.r 10=u v0) (yt:O.r 13=u d) (yK:O.r 15=u q0) (SL:O.r 16=u r0) (K:Env->Prop) (Q:Out->Prop)
 (hK:∀O':Env,O'.r 15=u ((u32*4294967296+d)/(v1*4294967296+v0))->(∀t,t∉[15,16,67,68,69,78]->O'.r t=O.r t)->K O'):aL T (Gw xO) O (gH K Q):=by
 have dm:=λq r=>abF (v1:=v1) (v0:=v0) (u32:=u32) (d:=d) (q:=q) (r:=r) hu hd;have dl:=λq r=>abE (v1:=v1) (v0:=v0) (u32:=u32) (d:=d) (q:=q) (r:=r) (by omega);have dd:=λq r=>abC (v1:=v1) (v0:=v0) (u32:=u32) (d:=d) (q:=q) (r:=r) eC;have di:=abD (v1:=v1) (v0:=v0) (u32:=u32) (d:=d) (by omega) hd hu;have hQ0:0<=(u32*4294967296+d)/(v1*4294967296+v0):=jI _;generalize (u32*4294967296+d)/(v1*4294967296+v0)=QQ at*;refine aL.forLoop (α:=Nat×Nat) (λs vr vo=>s.1*v1+s.2=u32/\QQ<=s.1/\s.2<4294967296/\s.1<=4294967297/\vr=[u s.1,u s.2]/\vo=[]) (λs=>s.1) (q0,r0) ⟨?_,?_,?_,?_,?_,rfl⟩ ?_
 .subst hq hr;exact DR u32 v1
 .subst hq;exact di
 .subst hr;have:=qB u32 (show v1>0 by omega);omega
 .subst hq;exact abG eC aP hu
 .simp[yK,SL]
 .rintro⟨q,r⟩ vr vo ⟨h1,h2,h3,h4,rfl,rfl⟩;dsimp only at h1 h2 h3 h4;have hm:q*v0<=4294967297*4294967295:=DS h4 (by omega);have w1:IntKind.u64.wrap ((q:Int)*(v0:Int))=(q*v0:Nat):=by rw[<-Int.natCast_mul];exact j3 (by omega)
  have w2:IntKind.u64.wrap (4294967296*(r:Int))=(4294967296*r:Nat):=by rw[kC (by omega)];omega
  have w3:IntKind.u64.wrap (((4294967296*r:Nat):Int)+(d:Int))=(4294967296*r+d:Nat):=by rw[kC (by omega)];omega
  have dm:=dm q r h1;have dl:=dl q r h1;generalize q*v0=M at*;by_cases c:4294967296<=q\/4294967296*r+d<M
  .have af:=dm c;have w4:IntKind.u64.wrap ((q:Int)-1)=(q-1:Nat):=by rw[kC (by omega)];omega
   have w5:IntKind.u64.wrap ((r:Int)+(v1:Int))=(r+v1:Nat):=by rw[kC (by omega)];omega
   have e1:(q-1)*v1+(r+v1)=u32:=by rw[Nat.sub_mul,Nat.one_mul];have:v1<=q*v1:=Nat.le_mul_of_pos_left v1 (by omega);omega
   have uh:(4294967296:Int)<=(q:Int)\/4294967296*r+d<M:=by omega
   by_cases c2:4294967296<=r+v1
   .have xS:(4294967296:Int)<=((r+v1:Nat):Int):=by omega
    have:=dd _ _ e1 hu c2;have e2:q-1=QQ:=by omega
    simp[VE,Hb,h9,jo,yt,w1,w2,w3,w4,w5,uh,xS,-Int.natCast_add,-Int.natCast_mul];refine hK _ ?_ ?_
    .simp[w4,e2]
    .intro t ht;simp at ht;simp[ht]
   .have xS:¬(4294967296:Int)<=((r+v1:Nat):Int):=by omega
    simp[VE,Hb,h9,jo,yt,w1,w2,w3,w4,w5,uh,xS,-Int.natCast_add,-Int.natCast_mul];exact⟨q-1,by omega,r+v1,e1,by omega,by omega,by omega,rfl,rfl⟩
  .have:=dl (by omega);have e2:q=QQ:=by omega
   have uh:¬((4294967296:Int)<=(q:Int)):=by omega
   have Qs:¬(4294967296*r+d<M):=by omega
   simp[VE,Hb,h9,jo,yt,w1,w2,w3,uh,Qs,-Int.natCast_add,-Int.natCast_mul];refine hK _ ?_ ?_
   .simp[e2]
   .intro t ht;simp at ht;simp[ht]
def asH (O:Env)(q0 r0 v1 v0 u32 d:Nat)(eC:v0<4294967296)(aP:2147483648<=v1)(arX:v1<4294967296)(hd:d<4294967296)(hu:u32<v1*4294967296+v0)
 (hq:q0=u32/v1) (hr:r0=u32%v1) (h9:O.r 9=u v1) (jo:O.r 10=u v0) (yt:O.r 14=u d) (yK:O.r 18=u q0) (SL:O.r 16=u r0) (K:Env->Prop) (Q:Out->Prop)
 (hK:∀O':Env,O'.r 18=u ((u32*4294967296+d)/(v1*4294967296+v0))->(∀t,t∉[16,18,102,103,104,113]->O'.r t=O.r t)->K O'):aL T (Gx xO) O (gH K Q):=by
 have dm:=λq r=>abF (v1:=v1) (v0:=v0) (u32:=u32) (d:=d) (q:=q) (r:=r) hu hd;have dl:=λq r=>abE (v1:=v1) (v0:=v0) (u32:=u32) (d:=d) (q:=q) (r:=r) (by omega);have dd:=λq r=>abC (v1:=v1) (v0:=v0) (u32:=u32) (d:=d) (q:=q) (r:=r) eC;have di:=abD (v1:=v1) (v0:=v0) (u32:=u32) (d:=d) (by omega) hd hu;have hQ0:0<=(u32*4294967296+d)/(v1*4294967296+v0):=jI _;generalize (u32*4294967296+d)/(v1*4294967296+v0)=QQ at*;refine aL.forLoop (α:=Nat×Nat) (λs vr vo=>s.1*v1+s.2=u32/\QQ<=s.1/\s.2<4294967296/\s.1<=4294967297/\vr=[u s.2,u s.1]/\vo=[]) (λs=>s.1) (q0,r0) ⟨?_,?_,?_,?_,?_,rfl⟩ ?_
 .subst hq hr;exact DR u32 v1
 .subst hq;exact di
 .subst hr;have:=qB u32 (show v1>0 by omega);omega
 .subst hq;exact abG eC aP hu
 .simp[yK,SL]
 .rintro⟨q,r⟩ vr vo ⟨h1,h2,h3,h4,rfl,rfl⟩;dsimp only at h1 h2 h3 h4;have hm:q*v0<=4294967297*4294967295:=DS h4 (by omega);have w1:IntKind.u64.wrap ((q:Int)*(v0:Int))=(q*v0:Nat):=by rw[<-Int.natCast_mul];exact j3 (by omega)
  have w2:IntKind.u64.wrap (4294967296*(r:Int))=(4294967296*r:Nat):=by rw[kC (by omega)];omega
  have w3:IntKind.u64.wrap (((4294967296*r:Nat):Int)+(d:Int))=(4294967296*r+d:Nat):=by rw[kC (by omega)];omega
  have dm:=dm q r h1;have dl:=dl q r h1;generalize q*v0=M at*;by_cases c:4294967296<=q\/4294967296*r+d<M
  .have af:=dm c;have w4:IntKind.u64.wrap ((q:Int)-1)=(q-1:Nat):=by rw[kC (by omega)];omega
   have w5:IntKind.u64.wrap ((r:Int)+(v1:Int))=(r+v1:Nat):=by rw[kC (by omega)];omega
   have e1:(q-1)*v1+(r+v1)=u32:=by rw[Nat.sub_mul,Nat.one_mul];have:v1<=q*v1:=Nat.le_mul_of_pos_left v1 (by omega);omega
   have uh:(4294967296:Int)<=(q:Int)\/4294967296*r+d<M:=by omega
   by_cases c2:4294967296<=r+v1
   .have xS:(4294967296:Int)<=((r+v1:Nat):Int):=by omega
    have:=dd _ _ e1 hu c2;have e2:q-1=QQ:=by omega
    simp[VF,Hc,h9,jo,yt,w1,w2,w3,w4,w5,uh,xS,-Int.natCast_add,-Int.natCast_mul];refine hK _ ?_ ?_
    .simp[w4,e2]
    .intro t ht;simp at ht;simp[ht]
   .have xS:¬(4294967296:Int)<=((r+v1:Nat):Int):=by omega
    simp[VF,Hc,h9,jo,yt,w1,w2,w3,w4,w5,uh,xS,-Int.natCast_add,-Int.natCast_mul];exact⟨q-1,by omega,r+v1,e1,by omega,by omega,by omega,rfl,rfl⟩
  .have:=dl (by omega);have e2:q=QQ:=by omega
   have uh:¬((4294967296:Int)<=(q:Int)):=by omega
   have Qs:¬(4294967296*r+d<M):=by omega
   simp[VF,Hc,h9,jo,yt,w1,w2,w3,uh,Qs,-Int.natCast_add,-Int.natCast_mul];refine hK _ ?_ ?_
   .simp[e2]
   .intro t ht;simp at ht;simp[ht]
def bO:Nat->List Cell->Tm->Cell
 |0,_,_=>eW
 |L+1,cs,t=>if t.op=0\/t.op=1 then⟨true,t.n⟩ else if t.op=2 then mB cs t.n else
   if t.op=6/\(bz (t.args.map (bO L cs)) 0).known=true then bz (t.args.map (bO L cs)) (2-(bz (t.args.map (bO L cs)) 0).n).toNat else iU t.op (t.args.map (bO L cs))
def eE:Nat->List Cell->Tm->List Int
 |0,_,_=>[]
 |L+1,cs,t=>if t.op=0\/t.op=1 then[] else if t.op=2 then(if(mB cs t.n).known=true then[] else[t.n]) else
   if t.op=6/\(bz (t.args.map (bO L cs)) 0).known=true then(t.args.map (eE L cs)).getD (2-(bz (t.args.map (bO L cs)) 0).n).toNat [] else
   if(iU t.op (t.args.map (bO L cs))).known=true then[] else(t.args.map (eE L cs)).flatten
def KO (L:Nat)(cs:List Cell)(t:Tm):bO (L+1) cs t=if t.op=0\/t.op=1 then⟨true,t.n⟩ else if t.op=2 then mB cs t.n else
 if t.op=6/\(bz (t.args.map (bO L cs)) 0).known=true then bz (t.args.map (bO L cs)) (2-(bz (t.args.map (bO L cs)) 0).n).toNat else iU t.op (t.args.map (bO L cs)):=rfl
def Mo (L:Nat)(cs:List Cell)(t:Tm):eE (L+1) cs t=if t.op=0\/t.op=1 then[] else if t.op=2 then(if(mB cs t.n).known=true then[] else[t.n]) else
 if t.op=6/\(bz (t.args.map (bO L cs)) 0).known=true then(t.args.map (eE L cs)).getD (2-(bz (t.args.map (bO L cs)) 0).n).toNat [] else
 if(iU t.op (t.args.map (bO L cs))).known=true then[] else(t.args.map (eE L cs)).flatten:=rfl
def QE {L:Nat}{t:Tm}{k:Int}(h:cG (L+1) t=(k,0)):(∀a,a∈t.args->(cG L a).2=0)/\zf t (t.args.map λa=>(cG L a).1)=(k,0):=by
 rw[QD] at h;by_cases e:fU t.args.length (λk=>(cG L (t.args.getD k default)).2)=0
 .rw[if_neg (by simpa using e)] at h;refine⟨λa ha=>?_,h⟩;obtain⟨j,hj,rfl⟩:=fm ha;have:=Rc.1 e j hj;simpa [hj] using this
 .rw[if_pos e] at h;injection h with _ h
  exact absurd h e
inductive Node (ks:List Int) (t:Tm):Int->Prop where
 |int (h:t.op=0) (ha:t.args=[]) (hn:-1099511627776<=t.n/\t.n<=1099511627776):Node ks t 0
 |bool (h:t.op=1) (ha:t.args=[]) (hn:t.n=0\/t.n=1):Node ks t 1
 |var (h:t.op=2) (ha:t.args=[]) (hn:0<=t.n/\t.n<=19):Node ks t (nw t.n).1
 |not (h:t.op=3) (hk:ks=[1]):Node ks t 1
 |log (h:t.op=4\/t.op=5) (hk:ks=[1,1]):Node ks t 1
 |ite (k:Int) (h:t.op=6) (hk:ks=[1,k,k]):Node ks t k
 |less (h:t.op=7) (hk:ks=[0,0]):Node ks t 1
 |equal (k:Int) (h:t.op=8) (hk:ks=[k,k]):Node ks t 1
 |num (h:9<=t.op/\t.op<=13) (hk:ks=[0,0]):Node ks t 0
def aAr (v:Int):(nw v).1=0\/(nw v).1=1:=by
 unfold nw;repeat' split
 all_goals simp
def auq {t:Tm}{ks:List Int}{k:Int}(hl:ks.length=t.args.length)(jM:∀x,x∈ks->x=0\/x=1)(h:zf t ks=(k,0)):Node ks t k:=by
 unfold zf at h;split at h
 .injection h with _ h;cases h
 rename_i eA;split at h
 .rename_i h3;unfold Gs at h;split at h
  .injection h with _ h;cases h
  rename_i ha0;have ha:t.args=[]:=O6 (by omega);split at h
  .rename_i h0;split at h
   .injection h with _ h;cases h
   .rename_i hc;injection h with h _
    subst h;refine .int h0 ha ?_;unfold qP at hc;omega
  split at h
  .rename_i h0;split at h
   .injection h with _ h;cases h
   .rename_i hc;injection h with h _
    subst h;exact .bool h0 ha (by omega)
  split at h
  .injection h with _ h;cases h
  .rename_i g0 g1 hc;injection h with h _
   subst h;refine .var (by omega) ha ?_;unfold nw at hc;split at hc
   .simp at hc
   .omega
 rename_i h3;split at h
 .injection h with _ h;cases h
 rename_i hlen;have pE:ks.length=(fi t.op).1.length:=by
  refine DG λhh=>hlen (.inl hh)
 split at h
 .injection h with _ h;cases h
 rename_i ar;have kq:∀j,j<(fi t.op).1.length->pV (fi t.op).1 ks j=true:=xJ.1 (by simpa using ar)
 have two:∀{n:Nat},ks.length=2->∃a b,ks=[a,b]:=λh=>by
  match ks,h with
  |[a,b],_=>exact⟨a,b,rfl⟩
 by_cases o3:t.op=3
 .have e:fi t.op=([1],1):=by simp[fi,o3]
  rw[e] at pE kq h
  match ks,pE with
  |[a],_=>
   have:=kq 0 (by simp);simp[pV] at this;simp at h;subst h this;exact .not o3 rfl
 by_cases Mu:t.op=4\/t.op=5
 .have e:fi t.op=([1,1],1):=by simp[fi,o3,Mu]
  rw[e] at pE kq h
  match ks,pE with
  |[a,b],_=>
   have t1:=kq 0 (by simp);have t2:=kq 1 (by simp);simp[pV] at t1 t2;simp at h;subst h t1 t2;exact .log Mu rfl
 by_cases o6:t.op=6
 .have e:fi t.op=([1,-1,-1],-1):=by simp[fi,o6]
  rw[e] at pE kq h
  match ks,pE,jM with
  |[a,b,c],_,jM=>
   have t1:=kq 0 (by simp);have t3:=kq 2 (by simp);have hb:=jM b (by simp);have sO:¬b=-1:=by omega
   simp[pV] at t1;simp[pV,oI,sO] at t3;simp[oI,sO] at h;subst h t1 t3;exact .ite _ o6 rfl
 by_cases o7:t.op=7
 .have e:fi t.op=([0,0],1):=by simp[fi,o7]
  rw[e] at pE kq h
  match ks,pE with
  |[a,b],_=>
   have t1:=kq 0 (by simp);have t2:=kq 1 (by simp);simp[pV] at t1 t2;simp at h;subst h t1 t2;exact .less o7 rfl
 by_cases o8:t.op=8
 .have e:fi t.op=([-1,-1],1):=by simp[fi,o8]
  rw[e] at pE kq h
  match ks,pE,jM with
  |[a,b],_,jM=>
   have t2:=kq 1 (by simp);have ha:=jM a (by simp);have han:¬a=-1:=by omega
   simp[pV,oI,han] at t2;simp at h;subst h t2;exact .equal _ o8 rfl
 have e:fi t.op=([0,0],0):=by simp[fi,o3,Mu,o6,o7,o8]
 rw[e] at pE kq h
 match ks,pE with
 |[a,b],_=>
  have t1:=kq 0 (by simp);have t2:=kq 1 (by simp);simp[pV] at t1 t2;simp at h;subst h t1 t2;exact .num (by omega) rfl
def QF:∀{L:Nat} {t:Tm} {k:Int},cG (L+1) t=(k,0)->Node (t.args.map λa=>(cG L a).1) t k/\(k=0\/k=1)
 |L,t,k,h=>by
  obtain⟨h1,h2⟩:=QE h
  have jM:∀x,x∈(t.args.map λa=>(cG L a).1)->x=0\/x=1:=by
   intro x hx;obtain⟨a,ha,rfl⟩:=cr.1 hx;cases L with
   |zero=>exact .inl rfl
   |succ L=>exact(QF (L:=L) (t:=a) (k:=(cG (L+1) a).1) (by rw[<-h1 a ha])).2
  have hn:=auq (by simp) jM h2;refine⟨hn,?_⟩;cases hn with
  |int=>simp
  |bool=>simp
  |var=>exact aAr _
  |not=>simp
  |log=>simp
  |ite k _ hk=>exact jM k (by rw[hk];simp)
  |less=>simp
  |equal=>simp
  |num=>simp
def xH (k:Int)(c:Cell):Prop:=(c.known=false->c=eW)/\(c.known=true->(k=1->c.n=0\/c.n=1)/\(k=0->-1099511627776<=c.n/\c.n<=1099511627776))
def wP (k:Int):xH k eW:=⟨λ_=>rfl,λh=>by cases h⟩
def Dh (b:Bool):xH 1 (iL b):=⟨λh=>(by cases b<;>cases h),λ_=>⟨λ_=>(by cases b<;>simp[iL]),λh=>by cases h⟩⟩
def QM (n:Int):-1099511627776<=qP n/\qP n<=1099511627776:=by unfold qP;omega
def awM (cs:List Cell)(v:Int)(hv:0<=v/\v<=19):xH (nw v).1 (mB cs v):=by
 unfold mB;split
 .exact wP _
 .split
  .rename_i h;rw[h];exact Dh _
  .rename_i h;refine⟨λh=>(by cases h),λ_=>⟨λh'=>absurd h' h,λ_=>QM _⟩⟩
def avF (a b:Int):-1099511627776<=CK a b/\CK a b<=1099511627776:=by
 unfold CK;have:=ahD (a.natAbs*b.natAbs);split<;>omega
def akL (op a b:Int)(ha:-1099511627776<=a/\a<=1099511627776)(hb:-1099511627776<=b/\b<=1099511627776):-1099511627776<=Aq op a b/\Aq op a b<=1099511627776:=by
 unfold Aq;split
 .exact QM _
 split
 .exact QM _
 split
 .exact avF _ _
 split<;>omega
def aua {α β:Type}{f:α->β}{l:List α}{x:β}(h:l.map f=[x]):∃a,l=[a]/\f a=x:=by
 match l,h with
 |[a],h=>exact⟨a,rfl,by simpa using h⟩
def Cq {α β:Type}{f:α->β}{l:List α}{x y:β}(h:l.map f=[x,y]):∃a b,l=[a,b]/\f a=x/\f b=y:=by
 match l,h with
 |[a,b],h=>exact⟨a,b,rfl,by simpa using h⟩
def TE {α β:Type}{f:α->β}{l:List α}{x y z:β}(h:l.map f=[x,y,z]):∃a b c,l=[a,b,c]/\f a=x/\f b=y/\f c=z:=by
 match l,h with
 |[a,b,c],h=>exact⟨a,b,c,rfl,by simpa using h⟩
def abZ:∀{L:Nat} {t:Tm} {k:Int} (cs:List Cell),cG L t=(k,0)->xH k (bO L cs t)
 |0,t,k,cs,h=>wP _
 |L+1,t,k,cs,h=>by
  obtain⟨hn,hk⟩:=QF h;obtain⟨ha,_⟩:=QE h;have ih:∀a,a∈t.args->xH (cG L a).1 (bO L cs a):=λa hm=>abZ cs (show cG L a=((cG L a).1,0) by rw[<-ha a hm]);rw[KO];cases hn with
  |int h0 ha hn=>rw[if_pos (.inl h0)];exact⟨λh=>(by cases h),λ_=>⟨λh=>(by cases h),λ_=>hn⟩⟩
  |bool h0 ha hn=>rw[if_pos (.inr h0)];exact⟨λh=>(by cases h),λ_=>⟨λ_=>hn,λh=>by cases h⟩⟩
  |var h0 ha hn=>rw[if_neg (by omega),if_pos h0];exact awM cs _ hn
  |not h0 hk=>
   rw[if_neg (by omega),if_neg (by omega),if_neg (by omega)];unfold iU;rw[if_pos h0];split
   .exact Dh _
   .exact wP _
  |log h0 hk=>
   rw[if_neg (by omega),if_neg (by omega),if_neg (by omega)];unfold iU;rw[if_neg (by omega)];split
   .exact Dh _
   rw[if_neg (by omega)];split
   .exact wP _
   exact Dh _
  |ite k h0 cE=>
   obtain⟨a,b,c,hl,e1,e2,e3⟩:=TE cE;rw[hl] at ih ⊢;have r1:=ih a (by simp);have r2:=ih b (by simp);have r3:=ih c (by simp);rw[e1] at r1;rw[e2] at r2;rw[e3] at r3;rw[if_neg (by omega),if_neg (by omega)];simp only[iO,List.map_nil,bz,su];split
   .rename_i hh;rcases(r1.2 hh.2).1 rfl with h1|h1<;>rw[h1]
    .exact r3
    .exact r2
   .unfold iU;rw[if_neg (by omega),if_neg (by omega),if_pos h0];simp only[bz,su,DL];split
    .exact r2
    .exact wP _
  |less h0 hk=>
   rw[if_neg (by omega),if_neg (by omega),if_neg (by omega)];unfold iU;rw[if_neg (by omega),if_neg (by omega),if_neg (by omega)];split
   .exact wP _
   repeat' split
   all_goals exact Dh _
  |equal k h0 hk=>
   rw[if_neg (by omega),if_neg (by omega),if_neg (by omega)];unfold iU;rw[if_neg (by omega),if_neg (by omega),if_neg (by omega)];split
   .exact wP _
   repeat' split
   all_goals exact Dh _
  |num h0 cE=>
   obtain⟨a,b,hl,e1,e2⟩:=Cq cE;rw[hl] at ih ⊢;have r1:=ih a (by simp);have r2:=ih b (by simp);rw[e1] at r1;rw[e2] at r2;rw[if_neg (by omega),if_neg (by omega),if_neg (by omega)];unfold iU;rw[if_neg (by omega),if_neg (by omega),if_neg (by omega)];simp only[iO,List.map_nil,bz,su,DL];split
   .exact wP _
   rename_i FG;rw[if_neg (by omega),if_neg (by omega),if_neg (by omega)];have k1:(bO L cs a).known=true:=by
    cases e:(bO L cs a).known with
    |true=>rfl
    |false=>exact absurd (.inl e) FG
   have k2:(bO L cs b).known=true:=by
    cases e:(bO L cs b).known with
    |true=>rfl
    |false=>exact absurd (.inr e) FG
   exact⟨λh=>(by cases h),λ_=>⟨λh=>(by cases h),λ_=>akL _ _ _ ((r1.2 k1).2 rfl) ((r2.2 k2).2 rfl)⟩⟩
def afv:∀(L:Nat) (cs:List Cell) (t:Tm),cU L t<=60->((eE L cs t).length:Int)<=cU L t
 |0,cs,t,h=>by simp[cU] at h
 |L+1,cs,t,h=>by
  have h1:=zd (L+1) t;obtain⟨hl,hp⟩:=TG h;have hs:∀(l:List Tm) (n:Int),(∀a,a∈l->cU L a<=60)->fZ (cU L) l n<=60->((l.map (eE L cs)).flatten.length:Int)+n<=fZ (cU L) l n/\∀j,(((l.map (eE L cs)).getD j []).length:Int)+n<=fZ (cU L) l n:=by
   intro l
   induction l with
   |nil=>intro n _ _;simp[fZ]
   |cons a l ih=>
    intro n hp hm;have ha:=afv L cs a (hp a (by simp));unfold fZ at hm ⊢;split at hm
    .omega
    .rename_i h60;rw[if_neg h60];obtain⟨i1,i2⟩:=ih (n+cU L a) (λb hb=>hp b (by simp[hb])) hm;refine⟨by rw[iO,aan,mE];omega,λj=>?_⟩;cases j with
     |zero=>simp;omega
     |succ j=>have:=i2 j;simp at this ⊢;omega
  obtain⟨LO,dT⟩:=hs t.args 1 hp h;rw[Mo];split
  .simp;omega
  split
  .split<;>simp<;>omega
  split
  .have:=dT (2-(bz (t.args.map (bO L cs)) 0).n).toNat;show _<=fZ _ _ _;omega
  split
  .simp;omega
  .show _<=fZ _ _ _;omega
@[simp] def aH4 (x y:List Int):wW (ints x) 0 (ints y)=ints y:=zyz
@[simp] def axm (x y:Cell):wW (cX x) 0 (cX y)=cX y:=zyz
@[simp] def aGw (a b:List Int):D.list (a.map D.int++b.map D.int)=ints (a++b):=by simp[ints]
def lists (l:List (List Int)):D:=.list (l.map ints)
@[simp] def aGI (l:List (List Int)):(lists l).l=l.map ints:=zyz
def aj1 (l:List (List Int))(hl:l.length<=1000)(hs:l.flatten.length<=1000000):ah T 203 [lists l] (ints l.flatten):=by
 refine zyw 59 azD ?_;simp[YO];have hb:∀k,(l.take k).flatten.length<=l.flatten.length:=by
  intro k
  conv=>rhs;rw[<-IT k l]
  rw[List.flatten_append,mE];omega
 have bC:∀k (hk:k<l.length),(l.take (k+1)).flatten=(l.take k).flatten++l[k]:=λk hk=>by
  rw[iP hk,List.flatten_append];simp
 refine aL.forRounds l.length (λk=>[.int ((l.take k).flatten.length:Nat),.int k]) (λk=>[]) ?_ (λk hk=>?_) ?_
 .simp
 .have hw:=br hk (by omega);have h1:=bC k hk;have h2:=hb (k+1);rw[h1] at h2 ⊢;rw[mE] at h2 ⊢;generalize (l.take k).flatten.length=m at*;have uN:i64.wrap ((m:Int)+(l[k].length:Int))=(m:Int)+l[k].length:=aO (by omega);have FN:¬((m:Int)+l[k].length<0):=by omega
  simp[aiG,NW,hk,hw,uN,FN]
 .simp[aiG,NW];have fA:ah T 214 [.list [],.int (l.flatten.length:Nat)] (.list []):=by
   refine .of_ext (g:=λ_ ds=>KX ds) rfl ⟨0,λ_ _=>?_⟩;show(if(0:Int)<=(l.flatten.length:Nat)/\((l.flatten.length:Nat):Int)<=4294967296 then some (D.list []) else none)=some (D.list []);rw[if_pos (by omega)]
  rw[List.length_flatten] at fA;refine⟨_,fA,?_⟩;refine aL.forRounds l.length (λk=>[.none,.int k]) (λk=>[ints (l.take k).flatten]) ?_ (λk hk=>?_) ?_
  .simp[ints]
  .have hw:=br hk (by omega);have h1:=bC k hk;have h2:=hb (k+1);rw[h1] at h2 ⊢;rw[mE] at h2;generalize (l.take k).flatten=m at*;simp[aiH,NX,hk,hw];omega
  .simp[aiH,NX]
def alU {op:Int}{l:List Cell}(h:(iU op l).known=false):iU op l=eW:=by
 have hy:∀b,(iL b).known=true:=λb=>by cases b<;>simp[iL]
 unfold iU at h ⊢;split<;>rename_i c1
 .rw[if_pos c1] at h;split<;>rename_i c2
  .rw[if_pos c2,hy] at h;cases h
  .rfl
 rw[if_neg c1] at h;split<;>rename_i c2
 .rw[if_pos c2,hy] at h;cases h
 rw[if_neg c2] at h;split<;>rename_i c3
 .rw[if_pos c3] at h;split<;>rename_i c4
  .rw[if_pos c4,c4.1] at h;cases h
  .rfl
 rw[if_neg c3] at h;split<;>rename_i c4
 .rfl
 rw[if_neg c4] at h
 repeat' split at h
 all_goals first|(rw[hy] at h;cases h)|cases h
def ajr:∀(L:Nat) (cs:List Cell) (t:Tm) (k:Int),t.OK->cU L t<=60->cG L t=(k,0)->ah T 182 [Q0 cs,dN t] (.tup [cX (bO L cs t),ints (eE L cs t)])
 |0,cs,t,k,ht,hm,hc=>by simp[cU] at hm
 |L+1,cs,t,k,ht,hm,hc=>by
  refine zyw 52 az3 ?_;obtain⟨hl,hp⟩:=TG hm;obtain⟨ha,_⟩:=QE hc;obtain⟨hn,aFU⟩:=QF hc;have jw:∀a,a∈t.args->ah T 182 [Q0 cs,dN a] (.tup [cX (bO L cs a),ints (eE L cs a)]):=λa fB=>ajr L cs a (cG L a).1 (ht.arg fB) (hp a fB) (by rw[<-ha a fB]);have yM:∀a,a∈t.args->xH (cG L a).1 (bO L cs a):=λa fB=>abZ cs (show cG L a=((cG L a).1,0) by rw[<-ha a fB]);have hnl:∀a,a∈t.args->(eE L cs a).length<=60:=λa fB=>by have:=afv L cs a (hp a fB);have:=hp a fB;omega
  by_cases jM:t.op=0\/t.op=1
  ·
   have e1:bO (L+1) cs t=⟨true,t.n⟩:=by rw[KO,if_pos jM]
   have e2:eE (L+1) cs t=[]:=by rw[Mo,if_pos jM]
   rw[e1,e2];rcases jM with h|h<;>simp[Iu,h]<;>exact⟨rfl,rfl⟩
  have o0:t.op≠0:=λh=>jM (.inl h);have o1:t.op≠1:=λh=>jM (.inr h);by_cases o2:t.op=2
  .have hv:0<=t.n:=by
    cases hn with
    |var h0 ha hn=>exact hn.1
    |_=>omega
   have e1:bO (L+1) cs t=mB cs t.n:=by rw[KO,if_neg jM,if_pos o2]
   have e2:eE (L+1) cs t=if(mB cs t.n).known=true then[] else[t.n]:=by rw[Mo,if_neg jM,if_pos o2]
   rw[e1,e2];simp[Iu,o2];refine⟨_,axF cs t.n hv,?_⟩;cases e:(mB cs t.n).known
   .have:mB cs t.n=eW:=by
     unfold mB at e ⊢;split
     .rfl
     .rename_i h;rw[if_neg h] at e;split at e
      .cases hb:decide ((cellAt cs t.n).n≠0)<;>rw[hb] at e<;>cases e
      .cases e
    rw[this];simp[ints]
   .have h:mB cs t.n=⟨true,(mB cs t.n).n⟩:=by rw[<-e]
    rw[h];simp[ints]
    try rfl
  have hlen:1<=t.args.length/\(t.op≠3->2<=t.args.length)/\(t.op=6->3<=t.args.length):=by
   cases hn with
   |int h0 ha hn=>omega
   |bool h0 ha hn=>omega
   |var h0 ha hn=>omega
   |not h0 hk=>obtain⟨a,hl,_⟩:=aua hk;rw[hl];simp;omega
   |log h0 hk=>obtain⟨a,b,hl,_⟩:=Cq hk;rw[hl];simp;omega
   |ite k h0 hk=>obtain⟨a,b,c,hl,_⟩:=TE hk;rw[hl];simp
   |less h0 hk=>obtain⟨a,b,hl,_⟩:=Cq hk;rw[hl];simp;omega
   |equal k h0 hk=>obtain⟨a,b,hl,_⟩:=Cq hk;rw[hl];simp;omega
   |num h0 hk=>obtain⟨a,b,hl,_⟩:=Cq hk;rw[hl];simp;omega
  have hb9:9<=t.op->(-1099511627776<=(bz (t.args.map (bO L cs)) 0).n/\(bz (t.args.map (bO L cs)) 0).n<=1099511627776)/\(-1099511627776<=(bz (t.args.map (bO L cs)) 1).n/\(bz (t.args.map (bO L cs)) 1).n<=1099511627776):=by
   intro h9;have rb:∀c:Cell,xH 0 c->-1099511627776<=c.n/\c.n<=1099511627776:=by
    intro c hr;cases e:c.known with
    |false=>rw[hr.1 e];simp
    |true=>exact(hr.2 e).2 rfl
   cases hn with
   |num h0 hk=>
    obtain⟨a,b,hl,ea,eb⟩:=Cq hk;rw[hl] at yM ⊢;have r1:=yM a (by simp);have r2:=yM b (by simp);rw[ea] at r1;rw[eb] at r2;exact⟨rb _ r1,rb _ r2⟩
   |log h0 hk=>omega
   |_=>omega
  have h6:t.op=6->(bz (t.args.map (bO L cs)) 0).known=true->(bz (t.args.map (bO L cs)) 0).n=0\/(bz (t.args.map (bO L cs)) 0).n=1:=by
   intro o6 FG;cases hn with
   |ite k h0 hk=>
    obtain⟨a,b,c,hl,ea,_⟩:=TE hk;rw[hl] at yM FG ⊢;have r1:=yM a (by simp);rw[ea] at r1;exact(r1.2 FG).1 rfl
   |log h0 hk=>omega
   |num h0 hk=>omega
   |_=>omega
  have eA:t.op<3\/8<t.op->9<=t.op:=by
   cases hn with
   |log h0 hk=>omega
   |num h0 hk=>omega
   |_=>omega
  have e1:bO (L+1) cs t=if t.op=6/\(bz (t.args.map (bO L cs)) 0).known=true then bz (t.args.map (bO L cs)) (2-(bz (t.args.map (bO L cs)) 0).n).toNat else iU t.op (t.args.map (bO L cs)):=by
   rw[KO,if_neg jM,if_neg o2]
  have e2:eE (L+1) cs t=if t.op=6/\(bz (t.args.map (bO L cs)) 0).known=true then(t.args.map (eE L cs)).getD (2-(bz (t.args.map (bO L cs)) 0).n).toNat [] else if(iU t.op (t.args.map (bO L cs))).known=true then[] else(t.args.map (eE L cs)).flatten:=by
   rw[Mo,if_neg jM,if_neg o2]
  rw[e1,e2];simp[Iu,o0,o1,o2];refine⟨by omega,?_⟩;refine aL.forRounds t.args.length (λk=>[.int k]) (λk=>[cells ((t.args.map (bO L cs)).take k++List.replicate (t.args.length-k) eW),lists ((t.args.map (eE L cs)).take k++List.replicate (t.args.length-k) [])]) ?_ (λk hk=>?_) ?_
  .simp[cells,lists,ints]
  .have hw:=br hk (by omega);have cQ:=bS hk;have hr:=jw _ cQ;have s1:=WL (t.args.map (bO L cs)) eW (n:=t.args.length) (by simp) hk;have s2:=WL (t.args.map (eE L cs)) [] (n:=t.args.length) (by simp) hk;rw[<-s1,<-s2];have l1:((t.args.map (bO L cs)).take k++List.replicate (t.args.length-k) eW).length=t.args.length:=by simp;omega
   have l2:((t.args.map (eE L cs)).take k++List.replicate (t.args.length-k) []).length=t.args.length:=by simp;omega
   have g1:(t.args.map (bO L cs))[k]'(by simpa using hk)=bO L cs t.args[k]:=by simp
   have g2:(t.args.map (eE L cs))[k]'(by simpa using hk)=eE L cs t.args[k]:=by simp
   rw[g1,g2];generalize (t.args.map (bO L cs)).take k++List.replicate (t.args.length-k) eW=A at*;generalize (t.args.map (eE L cs)).take k++List.replicate (t.args.length-k) []=B at*;generalize bO L cs t.args[k]=c at*;generalize eE L cs t.args[k]=d at*;simp[Ws,H3,hk];refine⟨_,hr,?_⟩;simp[hw,hk,l1,l2,cells,lists]
  .have hA:(t.args.map (bO L cs)).take t.args.length++List.replicate (t.args.length-t.args.length) eW=t.args.map (bO L cs):=by rw[Pn,List.replicate_zero,tU,xD (by simp)]
   have hB:(t.args.map (eE L cs)).take t.args.length++List.replicate (t.args.length-t.args.length) []=t.args.map (eE L cs):=by rw[Pn,List.replicate_zero,tU,xD (by simp)]
   have lA:(t.args.map (bO L cs)).length=t.args.length:=by simp
   have lB:(t.args.map (eE L cs)).length=t.args.length:=by simp
   have vJ:∀l:List Tm,(∀a,a∈l->a∈t.args)->((l.map (eE L cs)).flatten.length<=l.length*60):=by
    intro l
    induction l with
    |nil=>intro _;simp
    |cons a l ih=>
     intro h;have h1:=hnl a (h a (by simp));have h2:=ih (λb hb=>h b (by simp[hb]));rw[iO,aan,mE,qA];omega
   have vJ:=vJ t.args (λa h=>h);have hBg:∀m:Nat,(Option.map (eE L cs) t.args[m]?).getD []=(t.args.map (eE L cs)).getD m []:=λm=>by simp[aE]
   rw[hA,hB];generalize t.args.map (bO L cs)=A at*;generalize t.args.map (eE L cs)=B at*;have g0:0<A.length:=by omega
   have yh:A[0]=bz A 0:=by simp[bz,g0]
   by_cases K8:t.op=6/\(bz A 0).known=true
   .obtain⟨o6,kn⟩:=K8;have hv:=h6 o6 kn;have hw:i64.wrap (2-(bz A 0).n)=2-(bz A 0).n:=aO (by omega);have h3:3<=t.args.length:=hlen.2.2 o6;rw[if_pos ⟨o6,kn⟩,if_pos ⟨o6,kn⟩];obtain⟨m,fB⟩:∃m:Nat,m=(2-(bz A 0).n).toNat:=⟨_,rfl⟩
    have FK:m<A.length:=by omega
    have Sa:m<B.length:=by omega
    simp[Ws,H3,o6,kn,g0,yh,hw,<-fB,FK,Sa,cells,lists];refine⟨by omega,by omega,by simp[bz,FK],?_⟩;rw[hBg,aE,aW Sa];rfl
   .rw[if_neg K8,if_neg K8];have apS:=axB t.op A (by omega) (by omega) (by omega) hb9 eA;have apT:=aj1 B (by omega) (by omega);simp[Ws,H3,g0,yh];rw[if_neg K8];refine⟨_,apS,?_⟩;cases e:(iU t.op A).known
    .have fC:iU t.op A=eW:=alU e;rw[fC];simp;exact apT
    .have h:iU t.op A=⟨true,(iU t.op A).n⟩:=by rw[<-e]
     rw[h];simp[ints]
     try rfl
def mY (n:Nat)(g:Nat->Bool):Int:=if(List.range n).findIdx g<n then((List.range n).findIdx g:Nat) else-1
def Gq (n:Nat)(g:Nat->Bool):(mY n g=-1/\∀k,k<n->g k=false)\/∃k:Nat,k<n/\mY n g=k/\g k=true/\∀i,i<k->g i=false:=by
 unfold mY;split
 .rename_i h;refine .inr ⟨_,h,rfl,?_,λi hi=>?_⟩
  .have:=List.findIdx_getElem (p:=g) (xs:=List.range n) (w:=by simpa using h);simpa using this
  .have:=List.not_of_lt_findIdx (p:=g) (xs:=List.range n) hi;simpa using this
 .rename_i h;refine .inl ⟨rfl,λk hk=>?_⟩;have:=List.not_of_lt_findIdx (p:=g) (xs:=List.range n) (i:=k) (by omega);simpa using this
def L4 {n:Nat}{g:Nat->Bool}(h:∀k,k<n->g k=false):mY n g=-1:=by
 rcases Gq n g with⟨h1,_⟩|⟨k,hk,_,h2,_⟩
 .exact h1
 .rw[h k hk] at h2;cases h2
def L5 {n k:Nat}{g:Nat->Bool}(hk:k<n)(h:g k=true)(hj:∀i,i<k->g i=false):mY n g=k:=by
 rcases Gq n g with⟨_,h1⟩|⟨m,hm,h1,h2,h3⟩
 .rw[h1 k hk] at h;cases h
 .rcases Nat.lt_trichotomy m k with h4|h4|h4
  .rw[hj m h4] at h2;cases h2
  .rw[h1,h4]
  .rw[h3 k h4] at h;cases h
def Tn (n:Nat)(g:Nat->Bool):decide (0<=mY n g)=(List.range n).any g:=by
 rcases Gq n g with⟨h1,h2⟩|⟨m,hm,h1,h2,h3⟩
 .rw[h1]
  symm
  simp;exact h2
 .rw[h1];simp;exact⟨m,hm,h2⟩
def aka (l:List Rule)(f:Nat)(caps:List D)(g:Nat->Bool)(hg:∀k (hk:k<l.length),ah T f (uo l[k]::caps) (.bool (g k)))(hl:l.length<=4294967296):
 ah T 179 [rules l,.clo f caps] (.int (mY l.length g)):=by
 refine zyw 43 azL ?_;simp[YW];refine .scan l.length (λk=>g k=false) (λk=>[.int 0,.int k]) (λ_=>[]) ?_ (λk hk hj ho=>?_) (λk hk hj ho=>?_) (λhj=>?_)
 .simp
 .have hw:=br hk hl;simp[Wm,HX,hk,hw];refine⟨_,_,⟨rfl,rfl⟩,_,hg k hk,?_⟩;simp[ho,hw]
 .have he:=L5 hk (by simpa using ho) hj;simp[Wm,HX,hk,he];refine⟨_,_,⟨rfl,rfl⟩,_,hg k hk,?_⟩;simp[ho]
 .have he:=L4 hj;simp[Wm,HX,he]
def akb (l:List Int)(f:Nat)(caps:List D)(g:Nat->Bool)(hg:∀k (hk:k<l.length),ah T f (.int l[k]::caps) (.bool (g k)))(hl:l.length<=4294967296):
 ah T 207 [ints l,.clo f caps] (.int (mY l.length g)):=by
 refine zyw 38 azM ?_;simp[YX];refine .scan l.length (λk=>g k=false) (λk=>[.int 0,.int k]) (λ_=>[]) ?_ (λk hk hj ho=>?_) (λk hk hj ho=>?_) (λhj=>?_)
 .simp
 .have hw:=br hk hl;simp[Wn,HY,hk,hw,ints];refine⟨_,_,⟨rfl,rfl⟩,_,hg k hk,?_⟩;simp[ho,hw]
 .have he:=L5 hk (by simpa using ho) hj;simp[Wn,HY,hk,he,ints];refine⟨_,_,⟨rfl,rfl⟩,_,hg k hk,?_⟩;simp[ho]
 .have he:=L4 hj;simp[Wn,HY,he,ints]
def aj8 (l:List Alter)(f:Nat)(caps:List D)(g:Nat->Bool)(hg:∀k (hk:k<l.length),ah T f (q6 l[k]::caps) (.bool (g k)))(hl:l.length<=4294967296):
 ah T 206 [alters l,.clo f caps] (.int (mY l.length g)):=by
 refine zyw 26 azJ ?_;simp[YU];refine .scan l.length (λk=>g k=false) (λk=>[.int 0,.int k]) (λ_=>[]) ?_ (λk hk hj ho=>?_) (λk hk hj ho=>?_) (λhj=>?_)
 .simp
 .have hw:=br hk hl;simp[Wk,HV,hk,hw];refine⟨_,_,⟨rfl,rfl⟩,_,hg k hk,?_⟩;simp[ho,hw]
 .have he:=L5 hk (by simpa using ho) hj;simp[Wk,HV,hk,he];refine⟨_,_,⟨rfl,rfl⟩,_,hg k hk,?_⟩;simp[ho]
 .have he:=L4 hj;simp[Wk,HV,he]
def aj4 (l:List Int)(f:Nat)(caps:List D)(g:Nat->Bool)(hg:∀k (hk:k<l.length),ah T f (.int l[k]::caps) (.bool (g k)))(hl:l.length<=4294967296):
 ah T 197 [ints l,.clo f caps] (.bool ((List.range l.length).any g)):=by
 refine zyw 37 azG ?_;simp[YR];refine⟨_,akb l f caps g hg hl,?_⟩;have:=Tn l.length g;simp[<-this]
def aj2 (l:List Alter)(f:Nat)(caps:List D)(g:Nat->Bool)(hg:∀k (hk:k<l.length),ah T f (q6 l[k]::caps) (.bool (g k)))(hl:l.length<=4294967296):
 ah T 193 [alters l,.clo f caps] (.bool ((List.range l.length).any g)):=by
 refine zyw 25 azE ?_;simp[YP];refine⟨_,aj8 l f caps g hg hl,?_⟩;have:=Tn l.length g;simp[<-this]
def BD (cs:List Cell)(t:Tm):Cell:=if(pv t).2=0 then bO 8 cs t else eW
def alF {t:Tm}(h:(pv t).2=0):cU 8 t<=60/\cG 8 t=((pv t).1,0):=by
 unfold pv at h ⊢;split at h
 .cases h
 .rename_i hm;rw[if_neg hm];exact⟨by omega,by rw[<-h]⟩
def axz (t:Tm)(cs:List Cell)(ht:t.OK):ah T 161 [dN t,cells cs] (cX (BD cs t)):=by
 refine zyw 51 azW ?_;simp[Zi,BD];refine⟨_,ajp t ht,?_⟩;by_cases h:(pv t).2=0
 .obtain⟨h1,h2⟩:=alF h;simp[h];refine⟨_,ajr 8 cs t _ ht h1 h2,?_⟩;simp
  try rfl
 .simp[h]
  try rfl
def TP:List Int:=[6,7,10,12,13,14,15,16,20,21]
def sk (ask:Int):Int×Bool:=if ask<0\/22<=ask then(0,false) else if hasB TP ask then(0,true) else(1,true)
def UT (ask:Int):ah T 157 [.int ask] (.tup [.int (sk ask).1,.bool (sk ask).2]):=by
 refine zyw 31 ayv ?_;simp[XL,sk];by_cases h0:ask<0
 .simp[h0]
 by_cases h1:22<=ask
 .simp[h0,h1]
 simp[h0,h1];refine⟨_,xo TP ask (by decide),?_⟩;cases h:hasB TP ask<;>simp[h]
def Mp:Tm:=⟨0,0,[]⟩
def wT (o:Order)(ask:Int)(k:Nat):Bool:=decide ((o.rules.getD k default).ask=ask)
def Ie (o:Order)(i:Int):Tm:=(o.rules.getD i.toNat default).term
def findF (o:Order)(ask:Int):Tm×Int:=
 if(sk ask).2=false then(Mp,1) else if mY o.rules.length (wT o ask)<0 then(Mp,4) else
    if(pv (Ie o (mY o.rules.length (wT o ask)))).2≠0\/(pv (Ie o (mY o.rules.length (wT o ask)))).1≠(sk ask).1 then(Mp,11) else(Ie o (mY o.rules.length (wT o ask)),0)
def ai2 {o:Order}(ho:o.OK){m:Nat}(hm:m<o.rules.length):o.rules[m].term.OK:=(ho.2.2 _ (bS hm)).2
def TO:Mp.OK:=by
 exact .mk 0 0 [] (by unfold aZ;omega) (by unfold aZ;omega) (by decide) (λ_ h=>by cases h)
def anI {o:Order}(ho:o.OK)(ask:Int):(findF o ask).1.OK:=by
 unfold findF;split
 .exact TO
 split
 .exact TO
 split
 .exact TO
 .rename_i h _;rcases Gq o.rules.length (wT o ask) with⟨h1,h2⟩|⟨m,hm,h1,h2,h3⟩
  .exact absurd (by rw[h1];decide) h
  .rw[h1];simp[Ie,hm];exact ai2 ho hm
def anG (r:Rule)(ask:Int):ah T 180 [uo r,.ref (.int ask)] (.bool (decide (r.ask=ask))):=by
 refine zyw 42 ayw ?_;simp[XN]
def au3 (o:Order)(ask:Int)(ho:o.OK)(hl:o.rules.length<=4294967296):ah T 160 [kh o,.int ask] (.tup [dN (findF o ask).1,.int (findF o ask).2]):=by
 refine zyw 41 ayx ?_;simp[XM,findF];refine⟨_,UT ask,?_⟩;cases h0:(sk ask).2
 .simp[h0]
  try rfl
 simp[h0];refine⟨_,aka o.rules 180 [.ref (.int ask)] (wT o ask) (λk hk=>by simpa [wT,hk] using anG o.rules[k] ask) hl,?_⟩;rcases Gq o.rules.length (wT o ask) with⟨h1,h2⟩|⟨m,hm,h1,h2,h3⟩
 .rw[h1];simp
  try rfl
 .rw[h1];have FN:¬((m:Int)<0):=by omega
  have htm:o.rules[m].term.OK:=ai2 ho hm;simp[hm,Ie,FN];refine⟨_,ajp _ htm,?_⟩;by_cases h4:(pv o.rules[m].term).2=0<;>by_cases h5:(pv o.rules[m].term).1=(sk ask).1<;>simp[h4,h5]<;>try rfl
def Ap (o:Order)(ask:Int)(cs:List Cell):Cell×Int:=
 if(findF o ask).2≠0 then(eW,(findF o ask).2) else
    (if(sk ask).1=0/\(BD cs (findF o ask).1).known=true then⟨true,min (max (BD cs (findF o ask).1).n 0) 20000⟩ else BD cs (findF o ask).1,0)
def au1 (o:Order)(ask:Int)(cs:List Cell)(ho:o.OK)(hl:o.rules.length<=4294967296):ah T 110 [kh o,.int ask,cells cs] (.tup [cX (Ap o ask cs).1,.int (Ap o ask cs).2]):=by
 refine zyw 40 ayu ?_;simp[XK];refine⟨_,au3 o ask ho hl,?_⟩;have hf:(findF o ask).1.OK:=anI ho ask;by_cases h:(findF o ask).2=0
 .simp[h,Ap];refine⟨_,axz _ cs hf,_,UT ask,?_⟩;generalize BD cs (findF o ask).1=c;obtain⟨kn,n⟩:=c;by_cases h1:(sk ask).1=0
  .cases kn
   .simp[h1,cX]
   .by_cases h2:n<0
    .have:min (max n 0) 20000=0:=by omega
     simp[h1,cX,h2,this];rfl
    .by_cases h3:20000<n
     .have:min (max n 0) 20000=20000:=by omega
      simp[h1,cX,h2,h3,this];rfl
     .have:min (max n 0) 20000=n:=by omega
      simp[h1,cX,h2,h3,this];rfl
  .simp[h1,cX]
 .simp[h,Ap]
  try rfl
def aiN (b:Bool):ah T 195 [.bool b] (cX (iL b)):=by
 refine zyw 29 azB ?_;cases b<;>simp[YM,iL]<;>rfl
def KQ (kind sign:Int)(x:Fact):Bool:=decide (x.kind=kind)&&decide (x.at_=sign)
def lY (f:File)(kind sign:Int):Cell:=match f.facts.find? (KQ kind sign) with|none=>eW|some x=>iL (decide (x.n≠0))
def BF {α:Type}{p:α->Bool}:∀{l:List α} {k:Nat} (hk:k<l.length),p l[k]=true->(∀j (hj:j<k),p (l[j]'(by omega))=false)->l.find? p=some l[k]
 |a::l,0,hk,h,hj=>by simp at h;simp[h]
 |a::l,k+1,hk,h,hj=>by
  have h0:=hj 0 (by omega);simp at h0;simp only[List.find?_cons,h0,List.getElem_cons_succ];exact BF (by simpa using hk) (by simpa using h) (λj bB=>by simpa using hj (j+1) (by omega))
def E2 {α:Type}{p:α->Bool}{l:List α}(h:∀j (hj:j<l.length),p l[j]=false):l.find? p=none:=by
 rw[Af];intro x hx;obtain⟨j,hj,rfl⟩:=fm hx;rw[h j hj];decide
def H8 (f:File)(kind sign:Int)(hl:f.facts.length<=4294967296):ah T 196 [cu f,.int kind,.int sign] (cX (lY f kind sign)):=by
 refine zyw 30 azx ?_;simp[YJ];refine .scan f.facts.length (λk=>KQ kind sign (f.facts.getD k default)=false) (λk=>[.int k]) (λ_=>[cX eW]) ?_ (λk hk hj ho=>?_) (λk hk hj ho=>?_) (λhj=>?_)
 .simp
 .have hw:=br hk hl;simp[hk,KQ] at ho;by_cases h1:f.facts[k].kind=kind<;>by_cases h2:f.facts[k].at_=sign
  .exact absurd h2 (ho h1)
  all_goals simp[Wg,HR,hk,hw,h1,h2]
 .have hw:=br hk hl;have hf:lY f kind sign=iL (decide (f.facts[k].n≠0)):=by
   unfold lY;rw[BF hk (by simpa [hk] using ho) (λj bB=>by have:=hj j bB;simpa [show j<f.facts.length by omega] using this)]
  simp[hk,KQ] at ho;simp[Wg,HR,hk,hw,ho,hf];refine⟨_,aiN _,?_⟩;simp
  try rfl
 .have hf:lY f kind sign=eW:=by
   unfold lY;rw[E2 (λj bB=>by have:=hj j bB;simpa [bB] using this)]
  simp[Wg,HR,hf]
  try rfl
def gC (r:Realm)(c:Int):Int:=if aD c r.cities.length=true then(r.cities.getD c.toNat default).order else-1
def rW (r:Realm)(c:Int):ah T 123 [aQ r,.int c] (.int (gC r c)):=by
 refine zyw 27 azl ?_;simp[Yw,gC];refine⟨_,gd c r.cities.length,?_⟩;cases h:aD c r.cities.length
 .simp[h]
 .simp[aD] at h;have h1:c.toNat<r.cities.length:=by omega
  simp[h,h1]
def OS (day:Int)(l:List Sign):List Sign:=l.takeWhile λs=>decide (s.day<=day)
def upA (day:Int)(l:List Act):List Act:=l.takeWhile λs=>decide (s.day<=day)
def sB (n:Nat)(a:Alter):Bool:=decide (a.at_<=(n:Int))
def ur (n:Nat)(x:Fact):Bool:=aD x.at_ n
def ct (f:File)(day:Int):File:=
 ⟨f.bill,OS day f.signs,f.alters.filter (sB (OS day f.signs).length),upA day f.acts,f.facts.filter (ur (OS day f.signs).length)⟩
def OQ {α:Type}(p:α->Bool):∀(l:List α),∃m,m<=l.length/\l.takeWhile p=l.take m/\(∀k (hk:k<l.length),k<m->p l[k]=true)/\(∀hk:m<l.length,p l[m]=false)
 |[]=>⟨0,by simp,by simp,λk hk=>by simp at hk,λhk=>by simp at hk⟩
 |a::l=>by
  by_cases h:p a=true
  .obtain⟨m,h1,h2,h3,h4⟩:=OQ p l;refine⟨m+1,by simp;omega,by simp[h,h2],λk hk hm=>?_,λhk=>?_⟩
   .cases k with
    |zero=>simpa using h
    |succ k=>simpa using h3 k (by simpa using hk) (by omega)
   .simpa using h4 (by simpa using hk)
  .refine⟨0,by simp,by simp[h],λk hk hm=>by omega,λhk=>by simpa using h⟩
def Oy {α:Type}(p:α->Bool)(l:List α){k:Nat}(hk:k<l.length):(l.take (k+1)).filter p=(l.take k).filter p++if p l[k] then[l[k]] else[]:=by
 rw[iP hk,IN]
 congr 1
 cases h:p l[k]<;>simp[h]
def DY (b:Bill)(w x y z:D):D:=.agg [.int b.drawer,.int b.drawee,.int b.payee,.int b.sum,.int b.currency,.int b.tenor.kind,.int b.tenor.n,.int b.tenor.unit,.int b.day,.int b.city,.int b.pay,.int b.need,.int b.rate,.int b.flags,.int b.parts,w,x,y,z]
def pI {α:Type}(l:List α):D:=match l with|[]=>.list []|_=>.none
@[simp] def aGb {α:Type}:pI ([]:List α)=.list []:=rfl
@[simp] def aGa {α:Type}(l:List α)(x:α):pI (l++[x])=.none:=by cases l<;>rfl
def Ww (f:File)(day:Int)(h1:f.signs.length<=4294967295)(h2:f.acts.length<=4294967295)(h3:f.alters.length<=4294967295)(h4:f.facts.length<=4294967295):ah T 34 [cu f,.int day] (cu (ct f day)):=by
 refine zyw 17 azw ?_;simp[YI];obtain⟨m,hm,hS,hS1,BO⟩:=OQ (λs:Sign=>decide (s.day<=day)) f.signs;obtain⟨n,hn,hA,hA1,hA2⟩:=OQ (λs:Act=>decide (s.day<=day)) f.acts;refine aL.forRounds m (λk=>[.int k]) (λk=>[signs (f.signs.take k),DY f.bill (pI (f.signs.take k)) (.list []) (.list []) (.list [])]) ?_ (λk hk=>?_) ?_
 .simp[DY,signs]
  try rfl
 .have bf:k<f.signs.length:=by omega
  have hw:=br bf (by omega);have hd:=hS1 k bf hk;simp at hd;have gu:¬day<f.signs[k].day:=by omega
  have hle:(k:Int)+1<=4294967296:=by omega
  have ht:=iP bf;rw[ht];have hlen:(f.signs.take k).length=k:=by simp;omega
  generalize f.signs.take k=A at*;simp[Wc,HM,bf,hw,gu,hlen];exact⟨hle,by simp[signs],rfl⟩
 have hSl:(f.signs.take m).length<=4294967295:=by rw[dL];omega
 have hAt:ct f day=⟨f.bill,f.signs.take m,f.alters.filter (sB (f.signs.take m).length),f.acts.take n,f.facts.filter (ur (f.signs.take m).length)⟩:=by
  unfold ct OS upA;rw[hS,hA]
 rw[hAt];generalize f.signs.take m=S at*;have hAl:(f.acts.take n).length<=4294967295:=by rw[dL];omega
 by_cases fB:m<f.signs.length
 case' pos=>
  have hd:=BO fB;simp at hd;simp[Wc,HM,fB,hd];generalize D.bool true=bb
 case' neg=>
  have FJ:m=f.signs.length:=by omega
  simp[Wc,HM,fB,FJ];generalize D.bool false=bb
 all_goals
  refine aL.forRounds n (λk=>[.int k]) (λk=>[acts (f.acts.take k),DY f.bill (pI S) (.list []) (pI (f.acts.take k)) (.list [])]) ?_ (λk hk=>?_) ?_
  .simp[acts]
  .have bf:k<f.acts.length:=by omega
   have hw:=br bf (by omega);have hd:=hA1 k bf hk;simp at hd;have gu:¬day<f.acts[k].day:=by omega
   have hle:(k:Int)+1<=4294967296:=by omega
   have ht:=iP bf;rw[ht];have hlen:(f.acts.take k).length=k:=by simp;omega
   generalize f.acts.take k=A at*;simp[Wd,HO,bf,hw,gu,hlen];exact⟨hle,by simp[acts],rfl⟩
  generalize f.acts.take n=A at*;by_cases lD:n<f.acts.length
  case' pos=>
   have hd:=hA2 lD;simp at hd;simp[Wd,HO,lD,hd];generalize D.bool true=bc
  case' neg=>
   have ru:n=f.acts.length:=by omega
   simp[Wd,HO,lD,ru];generalize D.bool false=bc
  all_goals
   refine aL.forRounds f.alters.length (λk=>[.int k]) (λk=>[DY f.bill (pI S) (pI ((f.alters.take k).filter (sB S.length))) (pI A) (.list []),alters ((f.alters.take k).filter (sB S.length))]) ?_ (λk hk=>?_) ?_
   .simp[alters]
   .have hw:=br hk (by omega);have ht:=Oy (sB S.length) f.alters hk;rw[ht];have hlen:((f.alters.take k).filter (sB S.length)).length<=k:=gl (oZ _ _) (by simp;omega);generalize (f.alters.take k).filter (sB S.length)=B at*;by_cases hd:f.alters[k].at_<=(S.length:Int)
    .simp[We,HP,sB,hk,hw,hd];exact⟨by omega,rfl,by simp[alters]⟩
    .simp[We,HP,sB,hk,hw,hd]
   simp[We,HP];generalize f.alters.filter (sB S.length)=B at*;refine aL.forRounds f.facts.length (λk=>[.int k]) (λk=>[DY f.bill (pI S) (pI B) (pI A) (pI ((f.facts.take k).filter (ur S.length))),facts ((f.facts.take k).filter (ur S.length))]) ?_ (λk hk=>?_) ?_
   .simp[facts]
   .have hw:=br hk (by omega);have ht:=Oy (ur S.length) f.facts hk;rw[ht];have hlen:((f.facts.take k).filter (ur S.length)).length<=k:=gl (oZ _ _) (by simp;omega);generalize (f.facts.take k).filter (ur S.length)=C at*;cases hd:aD f.facts[k].at_ S.length
    .simp[Wf,HQ,ur,hk,hw,hd];refine⟨_,rX _ _,?_⟩;simp[hd,hw]
    .simp[Wf,HQ,ur,hk,hw,hd];refine⟨_,rX _ _,?_⟩;simp[hd,hw];exact⟨by omega,rfl,by simp[facts]⟩
   simp[Wf,HQ];rfl
def Cv:List Int->Int
 |[]=>-1
 |x::l=>l.foldl min x
def akl (x:Int)(l:List Int)(hl:l.length<4294967296):ah T 78 [ints (x::l)] (.int (Cv (x::l))):=by
 refine zyw 64 azP ?_;have h0:¬((l.length:Int)+1<1):=by omega
 simp[Za,h0,Cv,ints];refine aL.forRounds l.length (λk=>[.int ((l.take k).foldl min x),.int ((k:Int)+1)]) (λk=>[]) ?_ (λk hk=>?_) ?_
 .simp
 .have hw:i64.wrap ((k:Int)+1+1)=(k:Int)+1+1:=aO (by omega);rw[iP hk,tV];generalize (l.take k).foldl min x=y;have ht:((k:Int)+1).toNat=k+1:=by omega
  have af:(k:Int)+1<(l.length:Int)+1:=by omega
  simp[aiI,NY,hk,hw,ht,af];refine⟨by omega,?_⟩;by_cases h:l[k]<y
  .simp[h];omega
  .simp[h];omega
 .simp[aiI,NY]
def oR (f:File)(n:Nat):List Int:=if f.bill.tenor.kind=1 then((f.signs.take n).filter (λs=>decide (s.kind=1))).map (·.day) else[]
def mz (f:File)(n:Nat):List Int:=if f.bill.tenor.kind=1 then((f.acts.take n).filter (λs=>decide (s.kind=1))).map (·.day) else[]
def Ik (f:File)(a:Act):Bool:=decide (f.bill.tenor.kind=0)&&decide (a.kind=2)
def sd (f:File):Int:=match f.acts.find? (Ik f) with|some a=>a.day|none=>Cv (oR f f.signs.length++mz f f.acts.length)
def awz (f:File)(h1:f.signs.length<=100000)(h2:f.acts.length<=100000):ah T 38 [cu f] (.int (sd f)):=by
 refine zyw 63 azy ?_;simp[YK];refine aL.forRounds f.signs.length (λk=>[.none,.int k]) (λk=>[ints (oR f k)]) ?_ (λk hk=>?_) ?_
 .simp[oR,ints]
 .have hw:=br hk (by omega);have hs:oR f (k+1)=oR f k++if f.bill.tenor.kind=1/\f.signs[k].kind=1 then[f.signs[k].day] else[]:=by
   unfold oR;by_cases h:f.bill.tenor.kind=1
   .simp only[if_pos h,Oy _ _ hk,pf,h,true_and]
    congr 1
    by_cases h':f.signs[k].kind=1<;>simp[h']
   .simp[h]
  have hlen:(oR f k).length<=k:=by
   unfold oR;split
   .rw[dY];exact gl (oZ _ _) (by simp;omega)
   .simp
  rw[hs];generalize oR f k=A at*;by_cases hc:f.bill.tenor.kind=1/\f.signs[k].kind=1
  .simp[Wh,HT,hk,hw,hc];exact⟨by omega,by simp[ints]⟩
  .simp[Wh,HT,hk,hw,hc]
 .have hlS:(oR f f.signs.length).length<=100000:=by
   unfold oR;split
   .rw[dY];exact gl (oZ _ _) (by simp;omega)
   .simp
  have hE:sd f=match f.acts.find? (Ik f) with|some a=>a.day|none=>Cv (oR f f.signs.length++mz f f.acts.length):=rfl
  generalize oR f f.signs.length=A at*;simp[Wh,HT];refine aL.scan f.acts.length (λk=>Ik f (f.acts.getD k default)=false) (λk=>[.int 0,.none,.int k]) (λk=>[ints (A++mz f k)]) ?_ (λk hk hj ho=>?_) (λk hk hj ho=>?_) (λhj=>?_)
  .simp[mz,ints]
  .have hw:=br hk (by omega);have hs:mz f (k+1)=mz f k++if f.bill.tenor.kind=1/\f.acts[k].kind=1 then[f.acts[k].day] else[]:=by
        unfold mz;by_cases h:f.bill.tenor.kind=1
        .simp only[if_pos h,Oy _ _ hk,pf,h,true_and]
         congr 1
         by_cases h':f.acts[k].kind=1<;>simp[h']
        .simp[h]
   have hlen:(mz f k).length<=k:=by
        unfold mz;split
        .rw[dY];exact gl (oZ _ _) (by simp;omega)
        .simp
   rw[hs];generalize mz f k=B at*;simp[Ik,hk] at ho;by_cases hc:f.bill.tenor.kind=1/\f.acts[k].kind=1
   .simp[HU,zJ,hk,hw,hc];exact⟨by omega,by simp[ints]⟩
   .have hn:¬(f.bill.tenor.kind=0/\f.acts[k].kind=2):=λh=>ho h.1 h.2;simp[HU,zJ,hk,hw,hc,hn]
  .have hf:sd f=f.acts[k].day:=by
        rw[hE,BF hk (by simpa [hk] using ho) (λj bB=>by have:=hj j bB;simpa [show j<f.acts.length by omega] using this)]
   simp[Ik,hk] at ho;simp[HU,zJ,hk,ho,hf]
  .have hf:sd f=Cv (A++mz f f.acts.length):=by
        rw[hE,E2 (λj bB=>by have:=hj j bB;simpa [bB] using this)]
   have hlA:(mz f f.acts.length).length<=100000:=by
        unfold mz;split
        .rw[dY];exact gl (oZ _ _) (by simp;omega)
        .simp
   rw[hf];have hL:(A++mz f f.acts.length).length<=200000:=by rw[mE];omega
   generalize A++mz f f.acts.length=L at*;cases L with
   |nil=>simp[HU,zJ,Cv,ints]
   |cons x l=>
    have au:¬((l.length:Int)+1=0):=by omega
    simp[HU,zJ,au];exact akl x l (by simp at hL;omega)
def iT (g:Nat->Cell):D:=.list ((List.range 20).map λi=>cX (g i))
def abg {g g':Nat->Cell}(h:∀i,i<20->g i=g' i):iT g=iT g':=by
 unfold iT
 congr 1
 exact tW λi hi=>by rw[h i (by simpa using hi)]
def abh (g:Nat->Cell)(k:Nat)(c:Cell):D.list ((iT g).l.set k (cX c))=iT (λi=>if i=k then c else g i):=by
 unfold iT
 congr 1
 show((List.range 20).map λi=>cX (g i)).set k (cX c)=_;apply O7
 .simp
 .intro i h1 h2;simp at h2;rw[List.getElem_set];by_cases h:k=i
  .simp[h]
  .have h':¬i=k:=λe=>h e.symm;simp[h,h']
@[simp] def aD2 (g:Nat->Cell):(iT g).l.length=20:=by
  show((List.range 20).map λi=>cX (g i)).length=20;simp
def Jf (g:Nat->Cell){k:Nat}(hk:k<20):(iT g).l[k]?.getD D.none=cX (g k):=by
 show((List.range 20).map λi=>cX (g i))[k]?.getD D.none=cX (g k);simp[hk]
def alv (g:Nat->Cell){k:Nat}(hk:k<(iT g).l.length):(iT g).l[k]=cX (g k):=by
 have h:=Jf g (k:=k) (by simpa using hk);rw[aW hk] at h;exact h
def alx (g:Nat->Cell)(k:Nat)(c:Cell):(iT g).l.set k (cX c)=(iT (λi=>if i=k then c else g i)).l:=congrArg D.l (abh g k c)
def alw (g:Nat->Cell):D.list (iT g).l=iT g:=rfl
@[simp] def aH2 (x:Cell)(b:Bool)(n:Int):wW (cX x) 0 (D.agg [D.bool b,D.int n])=cX ⟨b,n⟩:=zyz
def BE {α:Type}(l:List (Int×α))(val:α->Cell)(g0:Nat->Cell)(i:Nat):Cell:=match l.find? (λp=>decide (p.1=(i:Int))) with|some p=>val p.2|none=>g0 i
def tp {α:Type}(enc:α->D)(p:Int×α):D:=.tup [.int p.1,enc p.2]
def ae8 {α:Type}{J o:Nat}{ps da:List Nat}{a:PC}{O:Env}{Q:Out->Prop}(l:List (Int×α))(enc:α->D)(val:α->Cell)(g0:Nat->Cell)
 (nd:∀p q,p∈l->q∈l->p.1=q.1->p=q) (WC:∀p,p∈l->0<=p.1) (he:O.o J=.tup [.list [],.map (l.map λp=>(.int p.1,enc p.2))]) (h0:O.o o=iT g0)
 (step:∀p,p∈l->∀g done,aH T (sc [o] a) ((O.put ps (da.map (tp enc p).tget) [o] [iT g]).setO J (.tup [.list (done++[tp enc p]),.map (l.map λp=>(.int p.1,enc p.2))])) (λy=>∃O',y=.next O'/\O'.o o=.list ((iT g).l.set p.1.toNat (cX (val p.2)))))
 (last:Q (.next (O.put [] [] [o] [iT (BE l val g0)]))):aL T (.meach J ps da [o] a) O Q:=by
 have oC:je (.map (l.map λp=>((D.int p.1,enc p.2):D×D)))=l.map (tp enc):=by
  simp[je,tp]
 refine .meachR _ he (λdone vo=>∃g:Nat->Cell,vo=[iT g]/\(∀p,p∈l->tp enc p∈done->g p.1.toNat=val p.2)/\∀i:Nat,(∀p,p∈l->tp enc p∈done->p.1≠i)->g i=g0 i) ⟨g0,by simp[h0],(λp _ h=>by cases h),λi _=>rfl⟩ (λdone x rest vo hp ⟨g,hv,jv,iv⟩=>?_) ⟨_,λdone hp vo ⟨g,hv,jv,iv⟩=>?_,last⟩
 .subst hv;rw[oC] at hp;have hx:x∈l.map (tp enc):=hp.subset (by simp);obtain⟨p,fF,rfl⟩:=cr.mp hx;refine An _ (λy ⟨O',e,ho⟩=>⟨O',e,λi=>if i=p.1.toNat then val p.2 else g i,by simp[ho,abh],λq hq SG=>?_,λi hi=>?_⟩) (step p fF g done)
  .have yK:=WC q hq;have mT:=WC p fF;by_cases h:q.1=p.1
   .rw[nd q p hq fF h];simp
   .show(if q.1.toNat=p.1.toNat then val p.2 else g q.1.toNat)=val q.2;rw[if_neg (by omega)];rcases dM.mp SG with h1|h1
    .exact jv q hq h1
    .simp[tp] at h1;exact absurd h1.1 h
  .have mT:=WC p fF;have dc:=hi p fF (by simp);show(if i=p.1.toNat then val p.2 else g i)=g0 i;rw[if_neg (by omega)];exact iv i λq hq SG=>hi q hq (by simp[SG])
 .rw[hv,oC] at*
  congr 1
  refine abg λi hi=>?_;unfold BE;cases hf:l.find? (λp=>decide (p.1=(i:Int))) with
  |some p=>
   have fF:=DO hf;have LL:p.1=(i:Int):=by simpa using O8 hf
   have:=jv p fF (hp.symm.subset (xA fF));simp only;rw[<-this,LL];rfl
  |none=>
   refine iv i λp fF _=>?_;have:=Af.mp hf p fF;simpa using this
@[simp] def aGG (a b:Int):eL (D.int a) (D.int b)=decide (a=b):=by
  show((a==b)&&true)=decide (a=b);rw[Bool.and_true];by_cases h:a=b<;>simp[h]
def E6 (n k:Int):Bool:=decide (bW .and .i64 n k≠0)
def Co (s:Sign)(due:Int):Int:=if due=-1 then 0 else s.day-due
def aaP (f:File)(sign:Int):Bool:=(List.range f.alters.length).any λk=>decide ((f.alters.getD k default).at_<=sign)
def rv (c:Case):Int:=if c.holder<0 then 0 else c.holder
def wR (c:Case)(s:Sign):List (Int×Int):=[(0,c.file.bill.sum),(1,c.file.bill.parts),(2,c.file.bill.tenor.kind),(3,c.file.bill.rate),(4,s.kind),(5,c.defence),(6,Co s c.due)]
def wS (r:Realm)(c:Case)(s:Sign):List (Int×Bool):=[(7,E6 c.file.bill.flags 1),(8,decide (c.file.bill.payee=-1)),(9,E6 c.file.bill.flags 4),(10,E6 c.file.bill.flags 2),(11,decide (gC r c.file.bill.city≠gC r c.file.bill.pay)),(12,aaP c.file c.sign),(13,E6 s.flags 1),(14,decide (0<Co s c.due))]
def Rm (r:Realm)(c:Case)(s:Sign):List Cell:=
 (wR c s).map (λp=>⟨true,p.2⟩)++(wS r c s).map (λp=>iL p.2)++
    [lY c.file 0 c.sign,lY c.file 1 c.sign,lY c.file 2 c.sign,lY c.file 3 (rv c),lY c.file 4 (rv c)]
@[simp] def aDB (x:Case):kc 19 (fS x)=cu x.file:=zyz
@[simp] def aDz (x:Case):kc 15 (fS x)=dE x.file.bill:=zyz
@[simp] def aDA (x:File):kc 15 (cu x)=dE x.bill:=zyz
def vw (c:Case):Bool:=aD c.sign c.file.signs.length&&decide (-1<=c.holder)&&decide (rv c<c.file.signs.length)&&(decide (c.due=-1)||aD c.due 100001)
def lf (r:Realm)(c:Case):List Cell:=if vw c=true/\aD (c.file.signs.getD c.sign.toNat default).day 100001=true then Rm r c (c.file.signs.getD c.sign.toNat default) else[]
def awA (r:Realm)(c:Case)(h2:c.file.facts.length<=100000)(h3:c.file.alters.length<=100000):ah T 176 [aQ r,fS c] (cells (lf r c)):=by
 refine zyw 23 azA ?_;cases hs:aD c.sign c.file.signs.length
 .have hv:lf r c=[]:=by unfold lf vw;rw[hs];simp
  rw[hv];simp[w6];refine⟨_,rX _ _,?_⟩;simp[hs];rfl
 by_cases hh:c.holder< -1
 .have hv:lf r c=[]:=by unfold lf vw;rw[hs];simp;intros;omega
  rw[hv];simp[w6,hh];exact⟨⟨_,rX _ _⟩,rfl⟩
 by_cases hm:(c.file.signs.length:Int)<=rv c
 .have hv:lf r c=[]:=by unfold lf vw;rw[hs];simp;intros;omega
  rw[hv];unfold rv at hm;simp[w6,hm];exact⟨⟨_,rX _ _⟩,rfl⟩
 by_cases hd:c.due≠-1/\aD c.due 100001=false
 .have hv:lf r c=[]:=by unfold lf vw;rw[hs];simp[hd]
  rw[hv];unfold rv at hm;obtain⟨bt,dQ⟩:=hd;simp[w6,hh,hm,bt];refine⟨_,rX _ _,?_⟩;simp[hs,hh,hm,bt];refine⟨_,rX _ _,?_⟩;simp[hs,hh,hm,bt,dQ];rfl
 have hcb:vw c=true:=by
  unfold vw;rw[hs];simp;refine⟨⟨by omega,by omega⟩,?_⟩;by_cases h:c.due=-1
  .exact .inl h
  .right;cases hb:aD c.due 100001
   .exact absurd ⟨h,hb⟩ hd
   .rfl
 have hlen:c.sign.toNat<c.file.signs.length:=by simp[aD] at hs;omega
 have dT:0<=c.sign/\c.sign<(c.file.signs.length:Int):=by simpa [aD] using hs
 obtain⟨s,F8⟩:∃s:Sign,s=c.file.signs[c.sign.toNat]:=⟨_,rfl⟩
 have tc:c.file.signs.getD c.sign.toNat default=s:=by rw[F8];simp[hlen]
 have hv:lf r c=if aD s.day 100001=true then Rm r c s else[]:=by
  unfold lf;rw[tc,hcb];simp
 rw[hv];unfold rv at hm;by_cases Fu:c.due=-1
 case' pos=>
  have ac0:(c.due=-1)=True:=eq_true Fu;simp[w6,hh,hm,ac0];refine⟨_,rX _ _,?_⟩;simp[hs,hh,hm,ac0,hlen,<-F8,dT]
 case' neg=>
  have Fq:aD c.due 100001=true:=by
   cases hb:aD c.due 100001
   .exact absurd ⟨Fu,hb⟩ hd
   .rfl
  simp[w6,hh,hm,Fu];refine⟨_,rX _ _,?_⟩;simp[hs,hh,hm,Fu];refine⟨_,rX _ _,?_⟩;simp[hs,hh,hm,Fu,Fq,hlen,<-F8,dT]
 all_goals
  refine⟨_,rX _ _,?_⟩;cases uC:aD s.day 100001
  .simp[uC];rfl
  simp[uC,fc];refine ae8 (wR c s) D.int (λn=>⟨true,n⟩) (λ_=>eW) ?_ ?_ ?_ ?_ (λp hp g done=>?_) ?_
  .intro p q hp hq h;simp[wR] at hp hq;rcases hp with rfl|rfl|rfl|rfl|rfl|rfl|rfl<;>rcases hq with rfl|rfl|rfl|rfl|rfl|rfl|rfl<;>first|rfl|(simp at h)
  .intro p hp;simp[wR] at hp;rcases hp with rfl|rfl|rfl|rfl|rfl|rfl|rfl<;>simp
  .have RY:(if c.due=-1 then(0:Int) else i64.wrap (s.day-c.due))=Co s c.due:=by
        unfold Co;by_cases h:c.due=-1
        .simp[h]
        .have Fq:aD c.due 100001=true:=by
          cases hb:aD c.due 100001
          .exact absurd ⟨h,hb⟩ hd
          .rfl
         simp[aD] at Fq uC;rw[if_neg h,if_neg h];exact aO (by omega)
   simp[wR,fc,hlen,<-F8];rw[<-RY];by_cases h:c.due=-1<;>simp[h]
  .simp[iT];rfl
  .have hr:0<=p.1/\p.1<20:=by
        simp[wR] at hp;rcases hp with rfl|rfl|rfl|rfl|rfl|rfl|rfl<;>simp
   have hk:p.1.toNat<20:=by omega
   simp[awo,Wi,tp,Jf g hk];exact hr
  have aqJ:∀k (hk:k<c.file.alters.length),ah T 194 (q6 c.file.alters[k]::[.ref (fS c)]) (.bool (decide ((c.file.alters.getD k default).at_<=c.sign))):=λk hk=>by
   refine zyw 24 azz ?_;simp[YL,hk]
  simp;refine⟨_,aj2 c.file.alters _ _ _ aqJ (by omega),_,rW r _,_,rW r _,?_⟩;have RY:(if c.due=-1 then(0:Int) else i64.wrap (s.day-c.due))=Co s c.due:=by
   unfold Co;by_cases h:c.due=-1
   .simp[h]
   .have Fq:aD c.due 100001=true:=by
     cases hb:aD c.due 100001
     .exact absurd ⟨h,hb⟩ hd
     .rfl
    simp[aD] at Fq uC;rw[if_neg h,if_neg h];exact aO (by omega)
  have RX:cells (Rm r c s)=iT (λi=>if i=15 then lY c.file 0 c.sign else if i=16 then lY c.file 1 c.sign else if i=17 then lY c.file 2 c.sign else if i=18 then lY c.file 3 (rv c) else if i=19 then lY c.file 4 (rv c) else BE (wS r c s) iL (BE (wR c s) (λn=>⟨true,n⟩) (λ_=>eW)) i):=by
   rfl
  generalize BE (wR c s) (λn=>(⟨true,n⟩:Cell)) (λ_=>eW)=g1 at*;refine ae8 (wS r c s) D.bool iL g1 ?_ ?_ ?_ ?_ (λp hp g done=>?_) ?_
  .intro p q hp hq h;simp[wS] at hp hq;rcases hp with rfl|rfl|rfl|rfl|rfl|rfl|rfl|rfl<;>rcases hq with rfl|rfl|rfl|rfl|rfl|rfl|rfl|rfl<;>first|rfl|(simp at h)
  .intro p hp;simp[wS] at hp;rcases hp with rfl|rfl|rfl|rfl|rfl|rfl|rfl|rfl<;>simp
  .simp[wS,fc,hlen,<-F8,E6];rw[<-RY];by_cases h:c.due=-1<;>simp[h,aaP]
  .simp
  .have hr:0<=p.1/\p.1<20:=by
        simp[wS] at hp;rcases hp with rfl|rfl|rfl|rfl|rfl|rfl|rfl|rfl<;>simp
   have hk:p.1.toNat<20:=by omega
   simp[awp,Wj,tp,Jf g hk];refine⟨_,aiN _,?_⟩;simp[Jf g hk];exact hr
  simp;generalize BE (wS r c s) iL g1=g2 at*;have hho:(if c.holder<0 then D.int 0 else D.int c.holder)=D.int (rv c):=by
   unfold rv;split<;>rfl
  rw[hho];refine⟨_,H8 _ _ _ (by omega),_,H8 _ _ _ (by omega),_,H8 _ _ _ (by omega),_,H8 _ _ _ (by omega),_,H8 _ _ _ (by omega),?_⟩;rw[RX];simp only[alv,axm,alx,alw];refine abg λi hi=>?_;by_cases K0:i=15
  .subst K0;simp
  by_cases K1:i=16
  .subst K1;simp
  by_cases K4:i=17
  .subst K4;simp
  by_cases K5:i=18
  .subst K5;simp
  by_cases h19:i=19
  .subst h19;simp
  simp[K0,K1,K4,K5,h19]
def MQ (n:Nat)(x:Int):Bool:=decide (x<0)||decide ((n:Int)<=x)
def mM (r:Realm)(a q:Int)(l:List Int):Bool:=
 !(decide (a<0)||decide ((r.orders.length:Int)<=a)||decide (q<0)||decide (22<=q)||decide (l.length≠5))&& !((List.range l.length).any λk=>MQ r.orders.length (l.getD k 0))
def anJ (x n:Int):ah T 198 [.int x,.ref (.int n)] (.bool (decide (x<0)||decide (n<=x))):=by
 refine zyw 36 ayj ?_;by_cases h:x<0<;>simp[XA,h]
def ab7 (r:Realm)(a q:Int)(l:List Int)(hl:l.length<=100000):ah T 177 [aQ r,.int a,.int q,ints l] (.bool (mM r a q l)):=by
 refine zyw 35 ayk ?_;by_cases h1:a<0
 .simp[wZ,mM,h1]
 by_cases h2:(r.orders.length:Int)<=a
 .simp[wZ,mM,h1,h2]
 by_cases h3:q<0
 .simp[wZ,mM,h1,h2,h3]
 by_cases h4:22<=q
 .simp[wZ,mM,h1,h2,h3,h4]
 by_cases h5:(l.length:Int)=5
 .have K7:l.length=5:=by omega
  simp[wZ,h1,h2,h3,h4,K7];refine⟨_,aj4 l 198 [.ref (.int r.orders.length)] (λk=>MQ r.orders.length (l.getD k 0)) (λk hk=>by simpa [MQ,hk] using anJ l[k] r.orders.length) (by omega),?_⟩;simp only[mM,K7];simp[h1,h2,h3,h4]
 .have K7:¬l.length=5:=by omega
  simp[wZ,mM,h1,h2,h3,h4,K7];intro h;omega
def Q9 {r:Realm}{a q:Int}{l:List Int}(h:mM r a q l=true):(0<=a/\a<r.orders.length)/\l.length=5/\(∀x,x∈l->0<=x/\x<r.orders.length)/\∀b:Int,0<=b->b<r.orders.length->mM r b q l=true:=by
 unfold mM at h ⊢;rw[ao] at h;obtain⟨h1,h2⟩:=h;simp at h1;refine⟨by omega,h1.2,λx hx=>?_,λb gq db=>?_⟩
 .obtain⟨k,hk,rfl⟩:=fm hx;simp[MQ] at h2;have:=h2 k hk;simp[hk] at this;omega
 .rw[h2];simp;omega
def DF (r:Realm):Prop:=∀o,o∈r.orders->o.choices.length<=100000/\∀ch,ch∈o.choices->0<=ch.by_/\ch.by_<5
def y6 (q:Int)(ch:Choice):Bool:=decide (ch.ask=q)&&decide (ch.by_≠0)
def p6 (r:Realm)(a:Int):Order:=r.orders.getD a.toNat default
def gB (r:Realm)(a q:Int)(l:List Int):Int×Bool:=
 (match(p6 r a).choices.find? (y6 q) with|some ch=>l.getD ch.by_.toNat 0|none=>a,match(p6 r a).choices.find? (y6 q) with|some ch=>ch.whole|none=>false)
def aak (r:Realm)(ri:DF r)(a q:Int)(l:List Int)(hl:l.length<=100000)(hf:mM r a q l=true):
 ah T 178 [aQ r,.int a,.int q,ints l] (.tup [.int (gB r a q l).1,.bool (gB r a q l).2])/\0<=(gB r a q l).1/\(gB r a q l).1<r.orders.length:=by
 obtain⟨ha,hl5,hx,_⟩:=Q9 hf;have BR:a.toNat<r.orders.length:=by omega
 obtain⟨aY,kN⟩:=ri _ (bS BR);obtain⟨o,ho⟩:∃o,o=r.orders[a.toNat]:=⟨_,rfl⟩
 rw[<-ho] at aY kN;have Sr:p6 r a=o:=by rw[ho];simp[p6,BR]
 unfold gB;rw[Sr];refine⟨?_,?_⟩
 .refine zyw 39 ayi ?_;simp[Xz];refine⟨_,ab7 r a q l hl,?_⟩;simp[hf,BR,<-ho,ha];refine aL.scan o.choices.length (λk=>y6 q (o.choices.getD k default)=false) (λk=>[.int 0,.bool false,.int k]) (λ_=>[]) ?_ (λk hk hj ar=>?_) (λk hk hj ar=>?_) (λhj=>?_)
  .simp
  .have hw:=br hk (by omega);have hn:¬(o.choices[k].ask=q/\¬o.choices[k].by_=0):=by simpa [y6,hk] using ar
   simp[VJ,He,BR,<-ho,hk,hw,hn]
  .have lu:=BF hk (by simpa [hk] using ar) (λj bB=>by have:=hj j bB;simpa [show j<o.choices.length by omega] using this);rw[lu];have hc:o.choices[k].ask=q/\¬o.choices[k].by_=0:=by simpa [y6,hk] using ar
   have hb:=kN _ (bS hk);have Fm:o.choices[k].by_.toNat<l.length:=by omega
   simp[VJ,He,BR,<-ho,hk,hc,ints,Fm];omega
  .have lu:=E2 (l:=o.choices) (p:=y6 q) (λj bB=>by have:=hj j bB;simpa [bB] using this);rw[lu];simp[VJ,He,BR,<-ho]
 .cases lu:o.choices.find? (y6 q) with
  |none=>exact ha
  |some ch=>
   have hb:=kN _ (DO lu);have Fm:ch.by_.toNat<l.length:=by omega
   simp[Fm];exact hx _ (bS Fm)
def U1:∀(N:Nat) (l:List Int),l.Nodup->(∀x,x∈l->0<=x/\x<(N:Int))->l.length<=N
 |0,l,hn,h=>by
  cases l with
  |nil=>simp
  |cons a l=>have:=h a (by simp);omega
 |N+1,l,hn,h=>by
  by_cases hm:(N:Int)∈l
  .have h1:=U1 N (l.erase (N:Int)) (hn.erase _) (λx hx=>by
    have cZ:=(hn.mem_erase_iff).mp hx;have:=h x cZ.2;have au:=cZ.1;omega)
   rw[List.length_erase_of_mem hm] at h1;omega
  .have h1:=U1 N l hn (λx hx=>by
    have:=h x hx;have au:x≠(N:Int):=λe=>hm (e▸hx);omega)
   omega
def du (l:List Int):Int:=l.getD (l.length-1) 0
def lK (r:Realm)(q:Int)(l:List Int):Nat->List Int->List Int×Int
 |0,p=>(p,0)
 |n+1,p=>
  if(gB r (du p) q l).1=du p then(p,0)
  else if(gB r (du p) q l).2=false\/(hasB p (gB r (du p) q l).1=true/\(p6 r (gB r (du p) q l).1).accepts=true) then(p++[(gB r (du p) q l).1],0)
  else if hasB p (gB r (du p) q l).1=true then(p++[(gB r (du p) q l).1],12)
  else lK r q l n (p++[(gB r (du p) q l).1])
def Ts (r:Realm)(q:Int)(l:List Int)(n:Nat)(p:List Int):lK r q l (n+1) p=
 if(gB r (du p) q l).1=du p then(p,0)
 else if(gB r (du p) q l).2=false\/(hasB p (gB r (du p) q l).1=true/\(p6 r (gB r (du p) q l).1).accepts=true) then(p++[(gB r (du p) q l).1],0)
 else if hasB p (gB r (du p) q l).1=true then(p++[(gB r (du p) q l).1],12)
 else lK r q l n (p++[(gB r (du p) q l).1]):=rfl
def jQ (r:Realm)(a q:Int)(l:List Int):List Int×Int:=if mM r a q l=true/\l.getD 0 0=a then lK r q l r.orders.length [a] else([],1)
def akh (r:Realm)(ri:DF r)(hn:r.orders.length<=100000)(a q:Int)(l:List Int)(hl:l.length<=100000):ah T 159 [aQ r,.int a,.int q,ints l] (.tup [ints (jQ r a q l).1,.int (jQ r a q l).2]):=by
 refine zyw 34 ayh ?_;simp[Xy];refine⟨_,ab7 r a q l hl,?_⟩;cases hf:mM r a q l
 .simp[jQ,hf];rfl
 obtain⟨ha,hl5,hx,yp⟩:=Q9 hf;have h0:0<l.length:=by omega
 by_cases yB:l[0]=a
 .have hE:jQ r a q l=lK r q l r.orders.length [a]:=by unfold jQ;rw[if_pos ⟨hf,by simp[h0,yB]⟩]
  rw[hE];simp[h0,yB,ints];refine aL.forLoop (α:=Nat×List Int) (λs vr vo=>vr=[.list [],.int 0,.none]/\vo=[ints s.2]/\s.2.Nodup/\(∀x,x∈s.2->0<=x/\x<(r.orders.length:Int))/\s.2≠[]/\s.1+s.2.length=r.orders.length+1/\lK r q l s.1 s.2=lK r q l r.orders.length [a]) (λs=>s.1) (r.orders.length,[a]) ?_ ?_
  .simp[ints];exact ha
  .rintro⟨n,p⟩ vr vo ⟨rfl,rfl,bo,bP,au,hlen,FH⟩;simp only at*;have fF:p.length<=r.orders.length:=U1 _ p bo bP;have F0:0<p.length:=Ai.mpr au;obtain⟨m,rfl⟩:∃m,n=m+1:=⟨n-1,by omega⟩
   have af:p.length-1<p.length:=by omega
   have lz:du p=p[p.length-1]:=by simp[du,af]
   have yC:=bP _ (bS af);rw[<-lz] at yC;obtain⟨Ry,gz,gA⟩:=aak r ri (du p) q l hl (yp _ yC.1 yC.2);have R8:((p.length:Int)-1).toNat=p.length-1:=by omega
   have Ta:i64.wrap ((p.length:Int)-1)=(p.length:Int)-1:=aO (by omega);rw[<-FH,Ts];obtain⟨L,hL⟩:∃L,L=gB r (du p) q l:=⟨_,rfl⟩
   rw[<-hL] at Ry gz gA ⊢;obtain⟨to,whole⟩:=L;simp only at Ry gz gA;have yT:to.toNat<r.orders.length:=by omega
   have Sr:p6 r to=r.orders[to.toNat]:=by simp[p6,yT]
   simp only[Sr];simp[awm,VI,Ta,R8,af,<-lz,ints];refine⟨by omega,_,Ry,?_⟩;by_cases h1:to=du p
   .simp[h1]
   simp[h1];refine⟨_,xo p to (by omega),by omega,?_⟩;cases whole
   .simp
   cases h2:hasB p to
   .have cR:to∉p:=λhm=>by
     have:hasB p to=true:=by simp[hasB,hm]
     rw[h2] at this;cases this
    simp[h2];refine⟨m,by omega,p++[to],by simp,?_,?_,by simp,by simp;omega,rfl⟩
    .exact IQ.mpr ⟨bo,by simp,λx hx y hy=>by simp at hy;subst hy;exact λe=>cR (e▸hx)⟩
    .intro x hx;rcases dM.mp hx with h|h
     .exact bP x h
     .simp at h;subst h;exact⟨gz,gA⟩
   .cases h3:r.orders[to.toNat].accepts<;>simp[h2,h3,yT]<;>omega
 .have hE:jQ r a q l=([],1):=by unfold jQ;rw[if_neg (by simp[h0,yB])]
  rw[hE];simp[h0,yB];rfl
def eY (f:File)(i:Int):Sign:=f.signs.getD i.toNat default
def ni (r:Realm)(forum:Int)(c:Case):List Int:=[forum,gC r (eY c.file c.sign).city,gC r c.file.bill.pay,gC r c.file.bill.city,gC r (r.firms.getD (eY c.file c.sign).who.toNat default).city]
def sC (r:Realm)(forum:Int)(c:Case):Prop:=(eY c.file c.sign).who<0\/(r.firms.length:Int)<=(eY c.file c.sign).who\/forum<0\/(r.orders.length:Int)<=forum
instance (r:Realm) (forum:Int) (c:Case):Decidable (sC r forum c):=by unfold sC;infer_instance
def kW (r:Realm)(forum:Int)(c:Case):List Int:=if sC r forum c then[] else if hasB (ni r forum c) (-1)=true then[] else ni r forum c
@[simp] def aDV (r:Realm)(x:Int):As (aQ r) x=gC r x:=by
  unfold As gC aD;by_cases h:0<=x/\x<(r.cities.length:Int)
  .have hx:x.toNat<r.cities.length:=by omega
   rw[if_pos (by simpa using h),if_pos (by simpa using h)];simp[hx]
  .rw[if_neg (by simpa using h),if_neg (by simpa using h)]
def ahz (r:Realm)(forum:Int)(c:Case)(h1:c.sign.toNat<c.file.signs.length):U2 [aQ r,.int forum,fS c]=ints (kW r forum c):=by
 have hs:eY c.file c.sign=c.file.signs[c.sign.toNat]:=by simp[eY,h1]
 unfold U2 kW;simp[h1];by_cases hb:sC r forum c
 .rw[if_pos (by simpa [sC,hs] using hb),if_pos hb];rfl
 .rw[if_neg (by simpa [sC,hs] using hb),if_neg hb];have LU:(eY c.file c.sign).who.toNat<r.firms.length:=by unfold sC at hb;omega
  have ad9:c.file.signs[c.sign.toNat].who.toNat<r.firms.length:=by rw[<-hs];exact LU
  have kP:ni r forum c=[forum,gC r c.file.signs[c.sign.toNat].city,gC r c.file.bill.pay,gC r c.file.bill.city,gC r r.firms[c.file.signs[c.sign.toNat].who.toNat].city]:=by
   simp[ni,hs,ad9]
  have cQ:∀l:List Int,hasB l (-1)=true↔-1∈l:=λl=>by simp[hasB]
  rw[kP];simp[ad9];split
  .rename_i h;rw[if_pos ((cQ _).mpr (by simpa using h))];rfl
  .rename_i h;rw[if_neg (λh'=>h (by simpa using(cQ _).mp h'))]
def avr (r:Realm)(forum:Int)(c:Case)(h1:0<=c.sign/\c.sign<c.file.signs.length):ah T 158 [aQ r,.int forum,fS c] (ints (kW r forum c)):=by
 have cB:c.sign.toNat<c.file.signs.length:=by omega
 rw[<-ahz r forum c cB];have hs:eY c.file c.sign=c.file.signs[c.sign.toNat]:=by simp[eY,cB]
 refine ah.of_nsl rfl axV axW ?_;rw[ahz r forum c cB];by_cases hb:sC r forum c
 .refine .inr ⟨by simp[kW,hb];rfl,?_⟩;have fy:=hb;simp[sC,hs] at fy;simp[OD,h1,cB]
  intros;omega
 have sO:kW r forum c=if hasB (ni r forum c) (-1)=true then[] else ni r forum c:=by unfold kW;rw[if_neg hb]
 have fy:=hb;simp[sC,hs] at fy;have hw:c.file.signs[c.sign.toNat].who.toNat<r.firms.length:=by omega
 have hC:=xo (ni r forum c) (-1) (by simp[ni]);cases hh:hasB (ni r forum c) (-1)<;>rw[hh] at hC<;>simp[ni,ints,hs,hw] at hC
 .refine .inl ⟨(ni r forum c).map .int,by simp[ni],by rw[sO,hh];rfl,?_⟩;simp[Xf,h1,cB,hw];rw[if_neg (by omega)];refine⟨_,rW r _,_,rW r _,_,rW r _,by omega,_,rW r _,_,by simpa using hC,?_⟩;simp[ni,hs,hw]
 .refine .inr ⟨by rw[sO,hh];rfl,?_⟩;simp[OD,h1,cB,hw]
  intros
  refine⟨_,rW r _,_,rW r _,_,rW r _,by omega,_,rW r _,_,by simpa using hC,?_⟩;simp
structure Right (r:Realm):Prop where
 by_:DF r
 len:r.orders.length<=100000
 ok:∀o,o∈r.orders->o.OK/\o.rules.length<=100000
structure FewS (f:File):Prop where
 signs:f.signs.length<=1000
 alters:f.alters.length<=1000
 acts:f.acts.length<=1000
 facts:f.facts.length<=1000
def ajD {α:Type}(p:α->Bool)(l:List α):(l.takeWhile p).length<=l.length:=by
 obtain⟨m,h1,h2,_⟩:=OQ p l;rw[h2,dL];omega
def FewS.at_ {f:File}(h:FewS f)(day:Int):FewS (ct f day):=
 ⟨gl (ajD _ _) h.1,gl (oZ _ _) h.2,gl (ajD _ _) h.3,gl (oZ _ _) h.4⟩
def jA (c:Case):Case:={c with file:=ct c.file c.day}
@[simp] def aDM (x:File)(a0 a1 a2 a3 a4 a5 a6 a7 a8 a9 qC qD a12 qE qF ua ub a17 uc:D)(s h d u y:Int):kc 24 (D.agg (dJ [a0,a1,a2,a3,a4,a5,a6,a7,a8,a9,qC,qD,a12,qE,qF,ua,ub,a17,uc,.int s,.int h,.int d,.int u,.int y] 0 [.int x.bill.drawer,.int x.bill.drawee,.int x.bill.payee,.int x.bill.sum,.int x.bill.currency,.int x.bill.tenor.kind,.int x.bill.tenor.n,.int x.bill.tenor.unit,.int x.bill.day,.int x.bill.city,.int x.bill.pay,.int x.bill.need,.int x.bill.rate,.int x.bill.flags,.int x.bill.parts,signs x.signs,alters x.alters,acts x.acts,facts x.facts]))=fS ⟨x,s,h,d,u,y⟩:=zyz
def akP (r:Realm)(c:Case)(hf:FewS c.file):ah T 156 [aQ r,fS c] (.tup [fS (jA c),cells (lf r (jA c))]):=by
 refine zyw 22 axU ?_;simp[Xe];have h1:=hf.1;have h2:=hf.2;have h3:=hf.3;have h4:=hf.4;refine⟨_,Ww c.file c.day (by omega) (by omega) (by omega) (by omega),?_⟩;have Lq:=hf.at_ c.day;have h5:=Lq.4;have h6:=Lq.2;simp;exact⟨awA r (jA c) (by show(ct c.file c.day).facts.length<=_;omega) (by show(ct c.file c.day).alters.length<=_;omega),(congrArg (kc 24) (au6 (jA c) _ _ _ _ _ _ _ _ _ _ _ _ _ _ _ _ _ _ _ _ _ _ _ _)).trans (akH (jA c))⟩
def aAs {r:Realm}{c:Case}(h:lf r c≠[]):0<=c.sign/\c.sign<c.file.signs.length:=by
 unfold lf at h;split at h
 .rename_i hh;have h1:=hh.1;unfold vw at h1;simp[aD] at h1;omega
 .exact absurd rfl h
def aeM (r:Realm)(ri:DF r)(q:Int)(l:List Int)(hl:l.length<=100000)(yp:∀b:Int,0<=b->b<r.orders.length->mM r b q l=true):∀(n:Nat) (p:List Int),p≠[]->(∀x,x∈p->0<=x/\x<(r.orders.length:Int))->
 (lK r q l n p).1≠[]/\∀x,x∈(lK r q l n p).1->0<=x/\x<(r.orders.length:Int)
 |0,p,au,hp=>⟨au,hp⟩
 |n+1,p,au,hp=>by
  have af:p.length-1<p.length:=by have:=Ai.mpr au;omega
  have lz:du p=p[p.length-1]:=by simp[du,af]
  have yC:=hp _ (bS af);rw[<-lz] at yC;obtain⟨_,ht⟩:=aak r ri (du p) q l hl (yp _ yC.1 yC.2)
  have aV:∀x,x∈p++[(gB r (du p) q l).1]->0<=x/\x<(r.orders.length:Int):=λx hx=>by
   rcases dM.mp hx with h|h
   .exact hp x h
   .simp at h;subst h;exact ht
  rw[Ts];split
  .exact⟨au,hp⟩
  split
  .exact⟨by simp,aV⟩
  split
  .exact⟨by simp,aV⟩
  .exact aeM r ri q l hl yp n _ (by simp) aV
def aeL {r:Realm}(hr:Right r){a q:Int}{l:List Int}(hl:l.length<=100000)(h:(jQ r a q l).2=0):(jQ r a q l).1≠[]/\0<=du (jQ r a q l).1/\du (jQ r a q l).1<r.orders.length:=by
 unfold jQ at h ⊢;split at h
 .rename_i hh;rw[if_pos hh];obtain⟨ha,hl5,hx,yp⟩:=Q9 hh.1;obtain⟨h1,h2⟩:=aeM r hr.by_ q l hl yp r.orders.length [a] (by simp) (λx hx=>by simp at hx;subst hx;exact ha);refine⟨h1,?_⟩;have af:(lK r q l r.orders.length [a]).1.length-1<(lK r q l r.orders.length [a]).1.length:=by have:=Ai.mpr h1;omega
  have lz:du (lK r q l r.orders.length [a]).1=(lK r q l r.orders.length [a]).1[(lK r q l r.orders.length [a]).1.length-1]:=by simp[du,af]
  rw[lz];exact h2 _ (bS af)
 .cases h
def aeN (r:Realm)(q:Int)(l:List Int):∀(n:Nat) (p:List Int),(lK r q l n p).1.length<=p.length+n
 |0,p=>by simp[lK]
 |n+1,p=>by
  rw[Ts];split
  .simp
  split
  .simp
  split
  .simp
  .have:=aeN r q l n (p++[(gB r (du p) q l).1]);simp at this;omega
def asy (r:Realm)(a q:Int)(l:List Int):(jQ r a q l).1.length<=1+r.orders.length:=by
 unfold jQ;split
 .exact aeN r q l _ [a]
 .simp
@[simp] def aHZ (a b c d e x:D):dJ [a,b,c,d,e] 2 [x]=[a,b,x,d,e]:=zyz
@[simp] def aH0 (a b c d e x:D):dJ [a,b,c,d,e] 3 [x]=[a,b,c,x,e]:=zyz
@[simp] def aH1 (a b c d e x:D):dJ [a,b,c,d,e] 4 [x]=[a,b,c,d,x]:=zyz
def TM:Said:=⟨eW,-1,[],1⟩
def kI (r:Realm)(forum q:Int)(c:Case):Said×List Cell:=
 if lf r (jA c)=[] then(TM,[]) else if(sk q).2=false then(TM,[]) else if kW r forum (jA c)=[] then(TM,[]) else
    (⟨eW,if(jQ r forum q (kW r forum (jA c))).2=0 then du (jQ r forum q (kW r forum (jA c))).1 else-1,(jQ r forum q (kW r forum (jA c))).1,(jQ r forum q (kW r forum (jA c))).2⟩,lf r (jA c))
def ahA (r:Realm)(forum:Int)(c:Case):(kW r forum c).length<=5:=by
 unfold kW;split
 .simp
 split<;>simp[ni]
def akO (r:Realm)(hr:Right r)(forum q:Int)(c:Case)(hf:FewS c.file):ah T 109 [aQ r,.int forum,.int q,fS c] (.tup [q8 (kI r forum q c).1,cells (kI r forum q c).2]):=by
 refine zyw 21 axT ?_;simp[Xd];refine⟨_,akP r c hf,?_⟩;by_cases hv:lf r (jA c)=[]
 .simp[hv,kI];exact⟨rfl,rfl⟩
 simp[hv,kI];refine⟨_,UT q,?_⟩;cases hq:(sk q).2
 .simp[hq];exact⟨rfl,rfl⟩
 simp[hq];refine⟨_,avr r forum (jA c) (aAs hv),?_⟩;by_cases hp:kW r forum (jA c)=[]
 .simp[hp];exact⟨rfl,rfl⟩
 have fF:=ahA r forum (jA c);have au:ints (kW r forum (jA c))≠.list []:=λe=>hp (by simpa [ints] using e);simp[hp];generalize kW r forum (jA c)=l at*;refine⟨_,akh r hr.by_ hr.len forum q l (by omega),?_⟩;have hlen:=asy r forum q l;have FH:=aeL hr (a:=forum) (q:=q) (l:=l) (by omega);have Sw:=hr.len;generalize jQ r forum q l=L at*;obtain⟨path,err⟩:=L;simp only at*;by_cases he:err=0
 .obtain⟨h1,h2⟩:=FH he;have F0:=Ai.mpr h1;have Ta:i64.wrap ((path.length:Int)-1)=(path.length:Int)-1:=aO (by omega);have R8:((path.length:Int)-1).toNat=path.length-1:=by omega
  have af:path.length-1<path.length:=by omega
  have lz:du path=path[path.length-1]:=by simp[du,af]
  simp[he,Ta,R8,af,<-lz];exact⟨by omega,rfl⟩
 .simp[he];rfl
def D2 (r:Realm)(forum q:Int)(c:Case):Said:=
 if(kI r forum q c).1.order=-1 then(kI r forum q c).1
 else⟨(Ap (p6 r (kI r forum q c).1.order) q (kI r forum q c).2).1,(kI r forum q c).1.order,(kI r forum q c).1.path,(Ap (p6 r (kI r forum q c).1.order) q (kI r forum q c).2).2⟩
def akM {r:Realm}(hr:Right r)(forum q:Int)(c:Case):(kI r forum q c).1.order=-1\/(0<=(kI r forum q c).1.order/\(kI r forum q c).1.order<r.orders.length):=by
 unfold kI;split
 .exact .inl rfl
 split
 .exact .inl rfl
 split
 .exact .inl rfl
 .have fF:=ahA r forum (jA c);have FH:=aeL hr (a:=forum) (q:=q) (l:=kW r forum (jA c)) (by omega);show(if _ then _ else _)=_\/_;split
  .rename_i h;exact .inr (FH h).2
  .exact .inl rfl
def aaR (r:Realm)(hr:Right r)(forum q:Int)(c:Case)(hf:FewS c.file):ah T 71 [aQ r,.int forum,.int q,fS c] (q8 (D2 r forum q c)):=by
 refine zyw 20 axO ?_;simp[W8];refine⟨_,akO r hr forum q c hf,?_⟩;have ho:=akM hr forum q c;unfold D2;generalize kI r forum q c=S at*;obtain⟨s,cs⟩:=S;simp only at*;by_cases h:s.order=-1
 .obtain⟨⟨kn,n⟩,o,pth,e⟩:=s;simp only at h;subst h;simp;rfl
 .have h1:0<=s.order/\s.order<r.orders.length:=by omega
  have h2:s.order.toNat<r.orders.length:=by omega
  have h3:p6 r s.order=r.orders[s.order.toNat]:=by simp[p6,h2]
  obtain⟨ar,hlen⟩:=hr.ok _ (bS h2);simp[h,h1,h2,h3];refine⟨_,au1 _ q cs ar (by omega),?_⟩;simp;rfl
def mI (r:Realm)(forum q:Int)(f:File)(day:Int):Said:=D2 r forum q ⟨{f with facts:=[]},0,-1,-1,-1,day⟩
def aaS (r:Realm)(hr:Right r)(forum q:Int)(f:File)(day:Int)(hf:FewS f):ah T 36 [aQ r,.int forum,.int q,cu f,.int day] (q8 (mI r forum q f day)):=by
 refine zyw 19 axP ?_;simp[W9];refine⟨q8 (mI r forum q f day),aaR r hr forum q ⟨{f with facts:=[]},0,-1,-1,-1,day⟩ ⟨hf.1,hf.2,hf.3,by simp⟩,?_⟩;simp
 try rfl
def Iv (s:Said):Int:=if s.err≠0 then 0 else if s.cell.known=false then 2 else if s.cell.n≠0 then 1 else 0
def aaT (s:Said):ah T 65 [q8 s] (.int (Iv s)):=by
 refine zyw 60 axS ?_;unfold Iv;by_cases h1:s.err=0<;>cases h2:s.cell.known<;>by_cases h3:s.cell.n=0<;>simp[Xc,h1,h2,h3]
def pZ (s:Said):Int:=if s.err≠0\/s.cell.known=false then-1 else s.cell.n
def akN (s:Said):ah T 35 [q8 s] (.int (pZ s)):=by
 refine zyw 62 axR ?_;unfold pZ;by_cases h1:s.err=0<;>cases h2:s.cell.known<;>simp[Xb,h1,h2]
def lT (day:Int)(l:List Act)(es:List (D×D)):List (D×D):=l.foldl (λes a=>if a.kind=7/\a.day<=day then fc (.int a.at_) (.bool true) es else es) es
def axp (day:Int)(l:List Act){k:Nat}(hk:k<l.length):lT day (l.take (k+1)) []=if l[k].kind=7/\l[k].day<=day then fc (.int l[k].at_) (.bool true) (lT day (l.take k) []) else lT day (l.take k) []:=by
 unfold lT;rw[iP hk,tV];rfl
def ahF (k v:D):∀es:List (D×D),(fc k v es).length<=es.length+1
 |[]=>by simp[fc]
 |e::es=>by
  unfold fc;split
  .simp
  .have:=ahF k v es;simp;omega
def ajn (day:Int):∀(l:List Act) (es:List (D×D)),(lT day l es).length<=es.length+l.length
 |[],es=>by simp[lT]
 |a::l,es=>by
  have h:=ajn day l (if a.kind=7/\a.day<=day then fc (.int a.at_) (.bool true) es else es);have hp:=ahF (.int a.at_) (.bool true) es;show(lT day l (if a.kind=7/\a.day<=day then fc (.int a.at_) (.bool true) es else es)).length<=_;split at h
  .rename_i hc;rw[if_pos hc];simp;omega
  .rename_i hc;rw[if_neg hc];simp;omega
def axL (f:File)(day:Int)(hl:f.acts.length<=100000):ah T 107 [cu f,.int day] (.map (lT day f.acts [])):=by
 refine zyw 101 az9 ?_;simp[Zu];refine aL.forRounds f.acts.length (λk=>[.int k]) (λk=>[.map (lT day (f.acts.take k) [])]) ?_ (λk hk=>?_) ?_
 .simp[lT]
 .have hw:=br hk (by omega);have hs:=axp day f.acts hk;have hlen:=ajn day (f.acts.take k) [];rw[hs];simp at hlen;generalize lT day (f.acts.take k) []=es at*;by_cases hc:f.acts[k].kind=7/\f.acts[k].day<=day
  .simp[Wu,H5,hk,hw,hc];omega
  .simp[Wu,H5,hk,hw,hc]
 .simp[Wu,H5]
def ahG {k v:D}:∀{es:List (D×D)} {e:D×D},e∈fc k v es->e.2=v\/e∈es
 |[],e,h=>by simp[fc] at h;exact .inl (by rw[h])
 |x::es,e,h=>by
  unfold fc at h;split at h
  .rcases cA.mp h with rfl|h
   .exact .inl rfl
   .exact .inr (by simp[h])
  .rcases cA.mp h with rfl|h
   .exact .inr (by simp)
   .rcases ahG h with h|h
    .exact .inl h
    .exact .inr (by simp[h])
def ajo (day:Int):∀(l:List Act) (es:List (D×D)),(∀e,e∈es->e.2=.bool true)->∀e,e∈lT day l es->e.2=.bool true
 |[],es,h,e,he=>h e he
 |a::l,es,h,e,he=>by
  refine ajo day l (if a.kind=7/\a.day<=day then fc (.int a.at_) (.bool true) es else es) (λx hx=>?_) e he;split at hx
  .rcases ahG hx with h'|h'
   .exact h'
   .exact h x h'
  .exact h x hx
def aeV {k d:D}:∀{es:List (D×D)},jc k es=some d->∃e,e∈es/\e.2=d
 |x::es,h=>by
  unfold jc at h;split at h
  .exact⟨x,by simp,by simpa using h⟩
  .obtain⟨e,h1,h2⟩:=aeV h;exact⟨e,by simp[h1],h2⟩
def axo (day:Int)(l:List Act)(k:D):(jc k (lT day l [])).getD (.bool false)=.bool ((jc k (lT day l [])).getD (.bool false)).b:=by
 cases h:jc k (lT day l []) with
 |none=>rfl
 |some d=>
  obtain⟨e,h1,h2⟩:=aeV h;have:=ajo day l [] (λe h=>by cases h) e h1;rw[h2] at this;rw[this];rfl
def Oo (f:File)(sign day:Int):Bool:=aD sign f.signs.length&&((jc (.int sign) (lT day f.acts [])).getD (.bool false)).b
def axK (f:File)(sign day:Int)(hl:f.acts.length<=100000):ah T 66 [cu f,.int sign,.int day] (.bool (Oo f sign day)):=by
 refine zyw 100 az8 ?_;by_cases h1:0<=sign<;>by_cases h2:sign<f.signs.length<;>simp[Zt,h1,h2,Oo,aD];refine⟨_,axL f day hl,?_⟩;exact axo day f.acts (.int sign)
def oT (f:File)(sign:Int)(n:Nat):Int:=(f.alters.take n).foldl (λs a=>if a.at_<=sign then a.sum else s) f.bill.sum
def ave (f:File)(sign:Int)(hl:f.alters.length<=100000):ah T 108 [cu f,.int sign] (.int (oT f sign f.alters.length)):=by
 refine zyw 105 ayz ?_;simp[XP];refine aL.forRounds f.alters.length (λk=>[.int (oT f sign k),.int k]) (λk=>[]) ?_ (λk hk=>?_) ?_
 .simp[oT]
 .have hw:=br hk (by omega);have hs:oT f sign (k+1)=if f.alters[k].at_<=sign then f.alters[k].sum else oT f sign k:=by
   unfold oT;rw[iP hk,tV];rfl
  rw[hs];generalize oT f sign k=s at*;by_cases hc:f.alters[k].at_<=sign<;>simp[aiu,NH,hk,hw,hc]
 .simp[aiu,NH]
def Cl (r:Realm)(c:Int):ah T 73 [aQ r,.int c] (.bool (aD c r.cities.length)):=by
 refine zyw 82 azR ?_;by_cases h1:0<=c<;>by_cases h2:c<r.cities.length<;>simp[Zd,h1,h2,aD]
def eu (n:Int):Bool:=decide (0<=n)&&decide (n<=100000)
def we (n:Int):ah T 74 [.int n] (.bool (eu n)):=by
 refine zyw 83 azS ?_;by_cases h1:0<=n<;>by_cases h2:n<=100000<;>simp[Ze,h1,h2,eu]
def Iz (n:Int):ah T 165 [.int n] (.bool (eu n)):=by
 refine zyw 88 ayd ?_;by_cases h1:0<=n<;>by_cases h2:n<=100000<;>simp[Xu,h1,h2,eu]
def Dl (t:Tenor):Bool:=decide (t.kind=0)||decide (t.kind=1)
def DT (t:Tenor):ah T 75 [py t] (.bool (Dl t)):=by
 refine zyw 84 azQ ?_;by_cases h1:t.kind=0<;>simp[Zc,h1,Dl]
def afD (y m d:Int):∃n:Int,ah T 205 [.int y,.int m,.int d] (.int n):=by
 by_cases h:m<3
 .refine⟨?w,?h⟩
  case h=>
   refine ah.of_tree (d:=.int ?w) rfl aaW ajx ?_;simp[OI,h];exact rfl
 .refine⟨?v,?g⟩
  case g=>
   refine ah.of_tree (d:=.int ?v) rfl aaW ajx ?_;simp[OI,h];exact rfl
def GB (y m d:Int):Int:=(afD y m d).choose
def Ms (y m d:Int):ah T 205 [.int y,.int m,.int d] (.int (GB y m d)):=(afD y m d).choose_spec
def Cp (y m:Int):Int:=if m=12 then 31 else i64.wrap (GB y (i64.wrap (m+1)) 1-GB y m 1)
def Mb (y m:Int):ah T 187 [.int y,.int m] (.int (Cp y m)):=by
 refine zyw 90 ayb ?_;unfold Cp;by_cases h:m=12
 .simp[OH,h]
 .simp[OH,h];refine⟨_,Ms _ _ _,_,Ms _ _ _,?_⟩;simp
def aj6 (y m d:Int):∃n e:Int,ah T 186 [.int y,.int m,.int d] (.tup [.int n,.int e])/\(e=0->0<=n/\n<=100000):=by
 by_cases h0:(((2000<=y/\y<=2300)/\1<=m)/\m<=12)/\1<=d
 .by_cases h2:d<=Cp y m
  .cases h1:eu (GB y m d)
   .refine⟨0,3,.of_tree rfl I8 OG ?_,by simp⟩;simp[Du];rw[if_pos h0];refine⟨_,Mb y m,?_⟩;simp[h0,h2];refine⟨_,Ms _ _ _,_,Iz _,?_⟩;simp[h1]
   .refine⟨GB y m d,0,.of_tree rfl I8 OG ?_,λ_=>by simpa [eu] using h1⟩;simp[Du];rw[if_pos h0];exact⟨_,Mb y m,⟨h0,h2⟩,_,Ms _ _ _,_,Iz _,h1,rfl⟩
  .refine⟨0,3,.of_tree rfl I8 OG ?_,by simp⟩;simp[Du];rw[if_pos h0];refine⟨_,Mb y m,?_⟩;simp[h0,h2]
 .refine⟨0,3,.of_tree rfl I8 OG ?_,by simp⟩;simp[Du];rw[if_neg h0];intro a1 a2 a3 a4 a5;exact absurd ⟨⟨⟨⟨a1,a2⟩,a3⟩,a4⟩,a5⟩ h0
def aaH (r:Realm)(fr to:Int)(hl:r.usances.length<=100000):∃n e:Int,ah T 89 [aQ r,.int fr,.int to] (.tup [.int n,.int e])/\(e=0->∃u,u∈r.usances/\n=u.days)/\(e=0↔∃u,u∈r.usances/\u.fr=fr/\u.to=to):=by
 let p:Usance->Bool:=λu=>decide (u.fr=fr)&&decide (u.to=to)
 refine⟨match r.usances.find? p with|some u=>u.days|none=>0,match r.usances.find? p with|some u=>0|none=>4,?_,?_⟩
 .refine .of_tree rfl aaY ajz ?_;simp[OM];refine aL.scan r.usances.length (λk=>p (r.usances.getD k default)=false) (λk=>[.int 0,.int 0,.int k]) (λ_=>[]) ?_ (λk hk hj ar=>?_) (λk hk hj ar=>?_) (λhj=>?_)
  .simp
  .have hw:=br hk (by omega);have hn:¬(r.usances[k].fr=fr/\r.usances[k].to=to):=by simpa [p,hk] using ar
   simp[C8,wM,hk,hw,hn]
  .have lu:=BF hk (by simpa [hk] using ar) (λj bB=>by have:=hj j bB;simpa [show j<r.usances.length by omega] using this);have hc:r.usances[k].fr=fr/\r.usances[k].to=to:=by simpa [p,hk] using ar
   rw[lu];simp[C8,wM,hk,hc]
  .have lu:=E2 (l:=r.usances) (p:=p) (λj bB=>by have:=hj j bB;simpa [bB] using this);rw[lu];simp[C8,wM]
 .cases h:r.usances.find? p with
  |none=>
   refine⟨λh=>(by cases h),λh=>(by cases h),λ⟨u,hu,h1,h2⟩=>?_⟩;have:=Af.1 h u hu;simp[p,h1,h2] at this
  |some u=>
   have h2:u.fr=fr/\u.to=to:=by simpa [p] using O8 h
   exact⟨λ_=>⟨u,DO h,rfl⟩,λ_=>⟨u,DO h,h2⟩,λ_=>rfl⟩
def aku (r:Realm)(fr to:Int)(hl:r.usances.length<=100000):∃n e:Int,ah T 89 [aQ r,.int fr,.int to] (.tup [.int n,.int e])/\(e=0->∃u,u∈r.usances/\n=u.days):=by
 obtain⟨n,e,h1,h2,_⟩:=aaH r fr to hl;exact⟨n,e,h1,h2⟩
end Rm
