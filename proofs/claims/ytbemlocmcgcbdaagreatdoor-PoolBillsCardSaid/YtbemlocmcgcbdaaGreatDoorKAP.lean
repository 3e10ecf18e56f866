/-
  Shared texts of this claim.
-/
import Derived.Test.YtbemlocmcgcbdaaGreatDoorKAO
import Derived.Lib.Mul64
set_option linter.defProp false
set_option linter.unusedSimpArgs false
set_option linter.unusedVariables false
noncomputable section
open Go.IntKind (i64)
namespace Rm
open Go Go.Proofs Cx
abbrev u (n:Nat):D:=.v (.int .u64 n)
def I3 (n:Int):IntKind.u64.wrap n=n%18446744073709551616:=rfl
def kI {n:Int}(h:0<=n/\n<18446744073709551616):IntKind.u64.wrap n=n:=by
 rw[I3];omega
def j3 {n:Nat}(h:n<18446744073709551616):IntKind.u64.wrap (n:Int)=n:=kI (by omega)
def IM (a s:Nat)(h:s<=64):bS .shr .u64 a s=((a/2^s:Nat):Int):=by
 show Int.fdiv (a:Int) (2^(min (s:Int).toNat 64))=_;have:min (s:Int).toNat 64=s:=by simp;omega
 rw[this,ak6 _ (Int.le_of_lt (Int.pow_pos (by decide)))];rw[Int.natCast_ediv,Int.natCast_pow];rfl
def XH (a s:Nat)(h:s<=64):bS .shl .u64 a s=((a*2^s%18446744073709551616:Nat):Int):=by
 show IntKind.u64.wrap ((a:Int)*(2^(min (s:Int).toNat 64)))=_;have:min (s:Int).toNat 64=s:=by simp;omega
 rw[this,I3,Int.natCast_emod,Int.natCast_mul,Int.natCast_pow];rfl
def EA (a:Nat)(h:a<18446744073709551616):bS .and .u64 a 4294967295=((a%4294967296:Nat):Int):=by
 show IntKind.u64.wrap ((BitVec.ofInt 64 (a:Int)&&& BitVec.ofInt 64 4294967295).toNat:Nat)=_;have e:(BitVec.ofInt 64 (a:Int)&&& BitVec.ofInt 64 4294967295).toNat=a%4294967296:=by
  rw[BitVec.toNat_and];have e1:(BitVec.ofInt 64 (a:Int)).toNat=a:=by simp[BitVec.ofInt,BitVec.toNat_ofNat];omega
  have e2:(BitVec.ofInt 64 4294967295).toNat=2^32-1:=by decide
  rw[e1,e2,Nat.and_two_pow_sub_one_eq_mod]
 rw[e,j3 (by omega)]
@[simp] def dy (a:Nat):bS .shr .u64 a 32=((a/4294967296:Nat):Int):=IM a 32 (by decide)
@[simp] def aLe (a:Nat):bS .shr .u64 a 16=((a/65536:Nat):Int):=IM a 16 (by decide)
@[simp] def aLf (a:Nat):bS .shr .u64 a 8=((a/256:Nat):Int):=IM a 8 (by decide)
set_option maxHeartbeats 2000000 in
def agw (a b:Nat)(ha:a<18446744073709551616)(hb:b<18446744073709551616):aj T 116 [u a,u b] (.tup [u (a*b/18446744073709551616),u (a*b%18446744073709551616)]):=by
 refine zyw 128 aBv ?_;obtain⟨h1,h2,h3,h4⟩:=Go.Lib.mul64_hi a b ha hb;have elo:IntKind.u64.wrap ((a:Int)*(b:Int))=((a*b%18446744073709551616:Nat):Int):=by rw[I3,Int.natCast_emod,Int.natCast_mul];rfl
 have ea1:bS .shr .u64 (a:Int) 32=((a/4294967296:Nat):Int):=dy a;have ea0:bS .and .u64 (a:Int) 4294967295=((a%4294967296:Nat):Int):=EA a ha;have eb1:bS .shr .u64 (b:Int) 32=((b/4294967296:Nat):Int):=dy b;have eb0:bS .and .u64 (b:Int) 4294967295=((b%4294967296:Nat):Int):=EA b hb;have aJB:=Go.Lib.half_mul_le (a:=a/4294967296) (b:=b/4294967296) (by omega) (by omega);have aJA:=Go.Lib.half_mul_le (a:=a/4294967296) (b:=b%4294967296) (by omega) (by omega);have aJz:=Go.Lib.half_mul_le (a:=a%4294967296) (b:=b/4294967296) (by omega) (by omega);have aJy:=Go.Lib.half_mul_le (a:=a%4294967296) (b:=b%4294967296) (by omega) (by omega);have CL:a*b/18446744073709551616<18446744073709551616:=by
  have:a*b<18446744073709551616*18446744073709551616:=Nat.mul_lt_mul'' ha hb;exact Nat.div_lt_of_lt_mul this
 simp only[Yh];generalize a/4294967296=a1 at*;generalize a%4294967296=a0 at*;generalize b/4294967296=b1 at*;generalize b%4294967296=b0 at*;have p11:IntKind.u64.wrap ((a1:Int)*(b1:Int))=((a1*b1:Nat):Int):=by rw[<-Int.natCast_mul];exact j3 (by omega)
 have p10:IntKind.u64.wrap ((a1:Int)*(b0:Int))=((a1*b0:Nat):Int):=by rw[<-Int.natCast_mul];exact j3 (by omega)
 have p01:IntKind.u64.wrap ((a0:Int)*(b1:Int))=((a0*b1:Nat):Int):=by rw[<-Int.natCast_mul];exact j3 (by omega)
 have p00:IntKind.u64.wrap ((a0:Int)*(b0:Int))=((a0*b0:Nat):Int):=by rw[<-Int.natCast_mul];exact j3 (by omega)
 rw[<-h4] at CL ⊢;generalize a1*b1=P at*;generalize a1*b0=Q at*;generalize a0*b1=R at*;generalize a0*b0=S at*;have s1:bS .shr .u64 (S:Int) 32=((S/4294967296:Nat):Int):=dy S;have s2:IntKind.u64.wrap ((Q:Int)+((S/4294967296:Nat):Int))=((Q+S/4294967296:Nat):Int):=by rw[kI (by omega)];omega
 generalize S/4294967296=S1 at*;generalize hT:Q+S1=TT at*;have s3:bS .shr .u64 (TT:Int) 32=((TT/4294967296:Nat):Int):=dy TT;have s4:bS .and .u64 (TT:Int) 4294967295=((TT%4294967296:Nat):Int):=EA TT (by omega);have s5:IntKind.u64.wrap (((TT%4294967296:Nat):Int)+(R:Int))=((TT%4294967296+R:Nat):Int):=by rw[kI (by omega)];omega
 generalize hU:TT%4294967296+R=U at*;have s6:bS .shr .u64 (U:Int) 32=((U/4294967296:Nat):Int):=dy U;have s7:IntKind.u64.wrap ((P:Int)+((TT/4294967296:Nat):Int))=((P+TT/4294967296:Nat):Int):=by rw[kI (by omega)];omega
 have s8:IntKind.u64.wrap (((P+TT/4294967296:Nat):Int)+((U/4294967296:Nat):Int))=((P+TT/4294967296+U/4294967296:Nat):Int):=by rw[kI (by omega)];omega
 simp[-dy,-Int.natCast_add,-Int.natCast_mul,-Int.natCast_ediv,-Int.natCast_emod,elo,ea1,ea0,eb1,eb0,p11,p10,p01,p00,s1,s2,s3,s4,s5,s6,s7,s8]
def ve (m:Nat):Int:=if m<1099511627776 then m else 1099511627776
def Dr (a b:Int):Int:=if(decide (a<0)!=decide (b<0))=true then-ve (a.natAbs*b.natAbs) else ve (a.natAbs*b.natAbs)
def aiQ (m:Nat):0<=ve m/\ve m<=1099511627776:=by unfold ve;split<;>omega
set_option maxHeartbeats 1000000 in
def aA2 (a b:Int)(ha:-1099511627776<=a/\a<=1099511627776)(hb:-1099511627776<=b/\b<=1099511627776):aj T 229 [.int a,.int b] (.int (Dr a b)):=by
 refine zyw 127 aDK ?_;have wa:IntKind.u64.wrap (a.natAbs:Int)=a.natAbs:=j3 (by omega);have wb:IntKind.u64.wrap (b.natAbs:Int)=b.natAbs:=j3 (by omega);have w0a:i64.wrap (0-a)=-a:=by rw[aQ (by omega)];omega
 have w0b:i64.wrap (0-b)=-b:=by rw[aQ (by omega)];omega
 have aEd:i64.wrap (-a)=-a:=aQ (by omega);have aEe:i64.wrap (-b)=-b:=aQ (by omega);have ea:(if a< -a then D.int (-a) else D.int a)=D.int a.natAbs:=by split<;>congr 1<;>omega
 have eb:(if b< -b then D.int (-b) else D.int b)=D.int b.natAbs:=by split<;>congr 1<;>omega
 have ea':(if a< -a then-a else a)=(a.natAbs:Int):=by split<;>omega
 have eb':(if b< -b then-b else b)=(b.natAbs:Int):=by split<;>omega
 simp[aal,aEd,aEe,ea,eb,ea',eb'];rw[wa,wb];refine⟨_,agw a.natAbs b.natAbs (by omega) (by omega),?_⟩;unfold Dr;generalize a.natAbs*b.natAbs=m;have hs:(decide (a<0)!=decide (b<0))=false↔(a<0↔b<0):=by
  by_cases h1:a<0<;>by_cases h2:b<0<;>simp[h1,h2]
 have key:((if((m/18446744073709551616:Nat):Int)=0/\((m%18446744073709551616:Nat):Int)<1099511627776 then i64.wrap ((m%18446744073709551616:Nat):Int) else 1099511627776):Int)=ve m:=by
  unfold ve;by_cases hm:m<1099511627776
  .have h1:m/18446744073709551616=0:=by omega
   have h2:m%18446744073709551616=m:=by omega
   rw[h1,h2,if_pos ⟨rfl,by omega⟩,if_pos hm,aQ (by omega)]
  .rw[if_neg hm,if_neg];rintro⟨h1,h2⟩;omega
 have fE:=aiQ m;have auq:(if((m/18446744073709551616:Nat):Int)=0/\((m%18446744073709551616:Nat):Int)<1099511627776 then D.int (i64.wrap ((m%18446744073709551616:Nat):Int)) else D.int 1099511627776)=D.int (ve m):=by
  rw[<-key];split<;>rfl
 show(if a<0↔b<0 then(if((m/18446744073709551616:Nat):Int)=0/\((m%18446744073709551616:Nat):Int)<1099511627776 then D.int (i64.wrap ((m%18446744073709551616:Nat):Int)) else D.int 1099511627776)=_ else
  i64.wrap (-(if((m/18446744073709551616:Nat):Int)=0/\((m%18446744073709551616:Nat):Int)<1099511627776 then i64.wrap ((m%18446744073709551616:Nat):Int) else 1099511627776))=_)
 rw[auq,key];generalize ve m=n at*;split
 .rename_i h;rw[hs.2 h];simp
 .rename_i h;have:(decide (a<0)!=decide (b<0))=true:=by
   cases e:(decide (a<0)!=decide (b<0)) with
   |true=>rfl
   |false=>exact absurd (hs.1 e) h
  rw[this,aQ (by omega)];simp
def Ba (op a b:Int):Int:=if op=9 then qQ (a+b) else if op=10 then qQ (a-b) else if op=11 then Dr a b else if op=12 then min a b else max a b
def aAZ (op a b:Int)(ha:-1099511627776<=a/\a<=1099511627776)(hb:-1099511627776<=b/\b<=1099511627776):aj T 227 [.int op,.int a,.int b] (.int (Ba op a b)):=by
 refine zyw 126 aDD ?_;have w1:i64.wrap (a+b)=a+b:=aQ (by omega);have w2:i64.wrap (a-b)=a-b:=aQ (by omega);simp[aaf,Ba,w1,w2];by_cases h1:op=9
 .simp[h1];exact O3 _
 by_cases h2:op=10
 .simp[h1,h2];exact O3 _
 by_cases h3:op=11
 .simp[h1,h2,h3];exact aA2 a b ha hb
 by_cases h4:op=12
 .simp[h1,h2,h3,h4];by_cases h5:b<a<;>simp[h5]<;>omega
 simp[h1,h2,h3,h4];by_cases h5:b>a<;>simp[h5]<;>omega
def ew (b:Bool):Cell:=if b then⟨true,1⟩ else⟨true,0⟩
def xy (b:Bool):aj T 225 [.bool b] (cR (ew b)):=by
 refine zyw 124 aDM ?_;cases b<;>simp[aan,ew]<;>rfl
def dT:Cell:=⟨false,0⟩
@[simp] def aKE:D.agg [.bool false,.int 0]=cR dT:=zyz
@[simp] def aKF:dT.known=false:=rfl
@[simp] def aKG:dT.n=0:=rfl
def cellAt (cs:List Cell)(v:Int):Cell:=cs.getD v.toNat default
def kH (cs:List Cell)(v:Int):Cell:=if cs.length<=v.toNat\/(cellAt cs v).known=false then dT else if(nC v).1=1 then ew (decide ((cellAt cs v).n≠0)) else⟨true,qQ (cellAt cs v).n⟩
abbrev Rm (cs:List Cell):D:=.agg [cells cs]
def aA4 (cs:List Cell)(v:Int)(hv:0<=v):aj T 215 [Rm cs,.int v] (cR (kH cs v)):=by
 refine zyw 123 aDJ ?_;obtain⟨k,rfl⟩:=qB hv;simp[aak,kH,cellAt];by_cases h1:cs.length<=k
 .simp[h1]
 have cC:k<cs.length:=by omega
 simp[h1,cC];cases h2:cs[k].known
 .simp[h2]
 simp[h2];refine⟨_,ako _,?_⟩;by_cases h3:(nC k).1=1
 .simp[h3,cC];refine⟨_,xy _,?_⟩;simp;rfl
 .simp[h3,cC];refine⟨_,O3 _,?_⟩;simp;rfl
@[simp] def aJZ (a b:Int):(a==b)=decide (a=b):=zyz
@[simp] def aJ0 (a b:Int):(a !=b)= !decide (a=b):=zyz
def aN (l:List Cell)(k:Nat):Cell:=l.getD k default
def fT (op:Int)(l:List Cell):Cell:=
 if op=3 then(if(aN l 0).known=true then ew (decide ((aN l 0).n=0)) else dT)
 else if(op=4\/op=5)/\(aN l 0=ew (decide (op=5))\/aN l 1=ew (decide (op=5))) then ew (decide (op=5))
 else if op=6 then(if(aN l 1).known=true/\aN l 1=aN l 2 then aN l 1 else dT)
 else if(aN l 0).known=false\/(aN l 1).known=false then dT
 else if op=4\/op=5 then ew (decide (op=4))
 else if op=7 then ew (decide ((aN l 0).n<(aN l 1).n)) else if op=8 then ew (decide ((aN l 0).n=(aN l 1).n)) else⟨true,Ba op (aN l 0).n (aN l 1).n⟩
def amW (a b:Cell):a=b↔a.known=b.known/\a.n=b.n:=by cases a;cases b;simp
def aA0 (op:Int)(l:List Cell)(h1:1<=l.length)(h2:op≠3->2<=l.length)(h3:op=6->3<=l.length)
 (hb:9<=op->(-1099511627776<=(aN l 0).n/\(aN l 0).n<=1099511627776)/\(-1099511627776<=(aN l 1).n/\(aN l 1).n<=1099511627776)) (h9:op<3\/8<op->9<=op):
 aj T 216 [.int op,cells l] (cR (fT op l)):=by
 refine zyw 125 aDF ?_;have g0:0<l.length:=by omega
 have yV:l[0]=aN l 0:=by simp[aN,g0]
 simp[aah];unfold fT;by_cases o3:op=3
 .simp[o3,g0,yV];cases e:(aN l 0).known
  .simp
  .simp[g0];refine⟨_,xy _,?_⟩;simp
 have g1:1<l.length:=by have:=h2 o3;omega
 have FC:l[1]=aN l 1:=by simp[aN,g1]
 have fB:(1:Int)<l.length:=by omega
 simp[o3];have fin:∀a b:Cell,(a=b)=(a.known=b.known/\a.n=b.n):=λa b=>propext (amW a b);rcases I7 (op=4) with o4|o4
 .subst o4;simp;refine⟨_,xy _,?_⟩;simp[g0,g1,fB,yV,FC,fin];split
  .rfl
  .split
   .rfl
   .refine⟨_,xy _,?_⟩;simp
 rcases I7 (op=5) with o5|o5
 .subst o5;simp;refine⟨_,xy _,?_⟩;simp[g0,g1,fB,yV,FC,fin];split
  .rfl
  .split
   .rfl
   .refine⟨_,xy _,?_⟩;simp
 rcases I7 (op=6) with o6|o6
 .subst o6;have g2:2<l.length:=by have:=h3 rfl;omega
  have gg2:l[2]=aN l 2:=by simp[aN,g2]
  have pJ:(2:Int)<l.length:=by omega
  simp[g1,g2,fB,pJ,FC,gg2,fin];cases e1:(aN l 1).known
  .simp
  by_cases e2:(aN l 1).known=(aN l 2).known/\(aN l 1).n=(aN l 2).n
  .rw[e1] at e2;simp[e1,e2]
  .rw[e1] at e2;have sK:¬((aN l 2).known=true/\(aN l 1).n=(aN l 2).n):=λh=>e2 ⟨h.1.symm,h.2⟩;simp only[e1,true_and,if_true]
   first|(rw[if_neg sK,if_neg sK])|(simp[sK])
 simp[o4,o5,o6,g0,g1,fB,yV,FC];cases e1:(aN l 0).known
 .simp
 cases e2:(aN l 1).known
 .simp
 simp[g1,fB,FC];rcases I7 (op=7) with o7|o7
 .subst o7;simp;refine⟨_,xy _,?_⟩;simp
 rcases I7 (op=8) with o8|o8
 .subst o8;simp;refine⟨_,xy _,?_⟩;simp
 simp[o7,o8];obtain⟨b1,b2⟩:=hb (h9 (by omega));refine⟨_,aAZ op _ _ b1 b2,?_⟩;simp;rfl
def ax1 (a b s:Nat)(h:a<18446744073709551616)(hb:b<2^s)(ha:a%2^s=0)(hs:s<=64):bS .or .u64 a b=((a+b:Nat):Int):=by
 show IntKind.u64.wrap ((BitVec.ofInt 64 (a:Int)|||BitVec.ofInt 64 (b:Int)).toNat:Nat)=_;have fE:b<18446744073709551616:=ly hb (by have:=Nat.pow_le_pow_right (n:=2) (by decide) hs;simpa using this);have e1:∀n:Nat,n<18446744073709551616->(BitVec.ofInt 64 (n:Int)).toNat=n:=λn hn=>by simp[BitVec.ofInt,BitVec.toNat_ofNat];omega
 have e:(BitVec.ofInt 64 (a:Int)|||BitVec.ofInt 64 (b:Int)).toNat=a+b:=by
  rw[BitVec.toNat_or,e1 a h,e1 b fE];have e3:a=2^s*(a/2^s):=by have:=A6 a (2^s);omega
  rw[e3];exact(Nat.two_pow_add_eq_or_of_lt hb (a/2^s)).symm
 have af:a+b<18446744073709551616:=by rw[<-e];exact BitVec.isLt _
 rw[e,j3 af]
def bl (x L:Nat):Prop:=(L=0->x=0)/\(0<L->2^(L-1)<=x)/\x<2^L/\L<=64
def MC:ByteArray:=⟨#[0,1,2,2,3,3,3,3,4,4,4,4,4,4,4,4,5,5,5,5,5,5,5,5,5,5,5,5,5,5,5,5,6,6,6,6,6,6,6,6,6,6,6,6,6,6,6,6,6,6,6,6,6,6,6,6,6,6,6,6,6,6,6,6,7,7,7,7,7,7,7,7,7,7,7,7,7,7,7,7,7,7,7,7,7,7,7,7,7,7,7,7,7,7,7,7,7,7,7,7,7,7,7,7,7,7,7,7,7,7,7,7,7,7,7,7,7,7,7,7,7,7,7,7,7,7,7,7,8,8,8,8,8,8,8,8,8,8,8,8,8,8,8,8,8,8,8,8,8,8,8,8,8,8,8,8,8,8,8,8,8,8,8,8,8,8,8,8,8,8,8,8,8,8,8,8,8,8,8,8,8,8,8,8,8,8,8,8,8,8,8,8,8,8,8,8,8,8,8,8,8,8,8,8,8,8,8,8,8,8,8,8,8,8,8,8,8,8,8,8,8,8,8,8,8,8,8,8,8,8,8,8,8,8,8,8,8,8,8,8,8,8,8,8,8,8,8,8,8,8,8,8,8,8,8,8]⟩
def len8 (y:Nat):Nat:=(MC.data.getD y 0).toNat
def auy:(List.range 256).all (λy=>(len8 y==0&&y==0||Nat.ble (2^(len8 y-1)) y&&Nat.blt 0 (len8 y))&&Nat.blt y (2^len8 y)&&Nat.ble (len8 y) 8)=true:=by kernel_rfl
def p8 {y:Nat}(h:y<256):((len8 y=0/\y=0)\/(2^(len8 y-1)<=y/\0<len8 y))/\y<2^len8 y/\len8 y<=8:=by
 have:=cM.1 auy y (fR.2 h);simp only[au,j5,beq_iff_eq,Nat.ble_eq,qF] at this;exact⟨this.1.1,this.1.2,this.2⟩
def ab5 {y:Nat}(h:y<256):bl y (len8 y):=by
 obtain⟨h1,h2,h3⟩:=p8 h;refine⟨λh0=>?_,λh0=>?_,h2,by omega⟩
 .rcases h1 with h1|h1
  .exact h1.2
  .omega
 .rcases h1 with h1|h1
  .omega
  .exact h1.1
def QN {x s L:Nat}(hx:2^s<=x)(h:bl (x/2^s) L)(hs:L+s<=64):bl x (L+s):=by
 have hp:0<2^s:=ya s;have hL:0<L:=by
  rcases Eu L with h0|h0
  .have:=h.1 h0;have:=Nat.div_pos hx hp;omega
  .exact h0
 refine⟨λh0=>by omega,λ_=>?_,?_,hs⟩
 .have h1:=h.2.1 hL;have e:L+s-1=(L-1)+s:=by omega
  rw[e,PQ];exact(PN hp).1 h1
 .rw[PQ];exact(xZ hp).1 h.2.2.1
@[simp] def xM {n:Nat}(h:n<256):IntKind.u8.wrap (n:Int)=n:=by
  show(n:Int)%256=n;omega
def auw:(⟨#[0,1,2,2,3,3,3,3,4,4,4,4,4,4,4,4,5,5,5,5,5,5,5,5,5,5,5,5,5,5,5,5,6,6,6,6,6,6,6,6,6,6,6,6,6,6,6,6,6,6,6,6,6,6,6,6,6,6,6,6,6,6,6,6,7,7,7,7,7,7,7,7,7,7,7,7,7,7,7,7,7,7,7,7,7,7,7,7,7,7,7,7,7,7,7,7,7,7,7,7,7,7,7,7,7,7,7,7,7,7,7,7,7,7,7,7,7,7,7,7,7,7,7,7,7,7,7,7,8,8,8,8,8,8,8,8,8,8,8,8,8,8,8,8,8,8,8,8,8,8,8,8,8,8,8,8,8,8,8,8,8,8,8,8,8,8,8,8,8,8,8,8,8,8,8,8,8,8,8,8,8,8,8,8,8,8,8,8,8,8,8,8,8,8,8,8,8,8,8,8,8,8,8,8,8,8,8,8,8,8,8,8,8,8,8,8,8,8,8,8,8,8,8,8,8,8,8,8,8,8,8,8,8,8,8,8,8,8,8,8,8,8,8,8,8,8,8,8,8,8,8,8,8,8,8,8]⟩:ByteArray)=MC:=rfl
def wR:MC.size=256:=by kernel_rfl
def len8_eq (y:Nat):(MC.data[y]?.getD 0).toNat=len8 y:=by simp[len8]
def l8 (x:Nat):Nat:=if 256<=x then len8 (x/256)+8 else len8 x
def C7 (x:Nat):Nat:=if 65536<=x then l8 (x/65536)+16 else l8 x
def wP (x:Nat):Nat:=if 4294967296<=x then C7 (x/4294967296)+32 else C7 x
def afH {x:Nat}(h:x<65536):bl x (l8 x):=by
 unfold l8;split
 .rename_i h1;exact QN (s:=8) h1 (ab5 (by omega)) (by have:=(p8 (y:=x/256) (by omega)).2.2;omega)
 .exact ab5 (by omega)
def afI {x:Nat}(h:x<65536):l8 x<=16:=by
 unfold l8;split
 .have:=(p8 (y:=x/256) (by omega)).2.2;omega
 .have:=(p8 (y:=x) (by omega)).2.2;omega
def afF {x:Nat}(h:x<4294967296):bl x (C7 x)/\C7 x<=32:=by
 unfold C7;split
 .rename_i h1;have:=afI (x:=x/65536) (by omega);exact⟨QN (s:=16) h1 (afH (by omega)) (by omega),by omega⟩
 .have:=afI (x:=x) (by omega);exact⟨afH (by omega),by omega⟩
def afG {x:Nat}(h:x<18446744073709551616):bl x (wP x):=by
 unfold wP;split
 .rename_i h1;have:=afF (x:=x/4294967296) (by omega);exact QN (s:=32) h1 this.1 (by omega)
 .exact(afF (by omega)).1
set_option maxRecDepth 10000 in
set_option maxHeartbeats 1000000 in
def auv (x:Nat)(h:x<18446744073709551616):aj T 139 [u x] (.int (wP x:Nat)):=by
 refine zyw 169 aBu ?_;unfold wP C7 l8;simp only[Yg, lb, auw];have w8:i64.wrap 8=8:=aQ (by omega);have xE:i64.wrap 16=16:=aQ (by omega);have xF:i64.wrap 24=24:=aQ (by omega);have xG:i64.wrap 32=32:=aQ (by omega);have xH:i64.wrap 40=40:=aQ (by omega);have xI:i64.wrap 48=48:=aQ (by omega);have xJ:i64.wrap 56=56:=aQ (by omega);by_cases h1:4294967296<=x
 .have g1:(4294967296:Int)<=x:=by omega
  generalize kU:x/4294967296=x1 at*;by_cases h2:65536<=x1
  .have g2:(65536:Int)<=(x1:Nat):=by omega
   generalize zA:x1/65536=x2 at*;by_cases h3:256<=x2
   .have g3:(256:Int)<=(x2:Nat):=by omega
    have hY:x2/256<256:=by omega
    have hl:=(p8 hY).2.2;have k1:IntKind.u8.wrap ((x2/256:Nat):Int)=((x2/256:Nat):Int):=xM hY;have k2:i64.wrap ((len8 (x2/256):Nat):Int)=len8 (x2/256):=aQ (by omega);have k3:i64.wrap (56+(len8 (x2/256):Int))=56+(len8 (x2/256):Int):=aQ (by omega);simp[h1,h2,h3,g1,g2,g3,k1,wR,len8_eq,k2,k3,w8,xE,xF,xG,xH,xI,xJ,kU,zA,-Int.natCast_ediv];omega
   .have g3:¬(256:Int)<=(x2:Nat):=by omega
    have hY:x2<256:=by omega
    have hl:=(p8 hY).2.2;have k1:IntKind.u8.wrap ((x2:Nat):Int)=((x2:Nat):Int):=xM hY;have k2:i64.wrap ((len8 (x2):Nat):Int)=len8 (x2):=aQ (by omega);have k3:i64.wrap (48+(len8 (x2):Int))=48+(len8 (x2):Int):=aQ (by omega);simp[h1,h2,h3,g1,g2,g3,k1,wR,len8_eq,k2,k3,w8,xE,xF,xG,xH,xI,xJ,kU,zA,-Int.natCast_ediv];omega
  .have g2:¬(65536:Int)<=(x1:Nat):=by omega
   by_cases h3:256<=x1
   .have g3:(256:Int)<=(x1:Nat):=by omega
    have hY:x1/256<256:=by omega
    have hl:=(p8 hY).2.2;have k1:IntKind.u8.wrap ((x1/256:Nat):Int)=((x1/256:Nat):Int):=xM hY;have k2:i64.wrap ((len8 (x1/256):Nat):Int)=len8 (x1/256):=aQ (by omega);have k3:i64.wrap (40+(len8 (x1/256):Int))=40+(len8 (x1/256):Int):=aQ (by omega);simp[h1,h2,h3,g1,g2,g3,k1,wR,len8_eq,k2,k3,w8,xE,xF,xG,xH,xI,xJ,kU,-Int.natCast_ediv];omega
   .have g3:¬(256:Int)<=(x1:Nat):=by omega
    have hY:x1<256:=by omega
    have hl:=(p8 hY).2.2;have k1:IntKind.u8.wrap ((x1:Nat):Int)=((x1:Nat):Int):=xM hY;have k2:i64.wrap ((len8 (x1):Nat):Int)=len8 (x1):=aQ (by omega);have k3:i64.wrap (32+(len8 (x1):Int))=32+(len8 (x1):Int):=aQ (by omega);simp[h1,h2,h3,g1,g2,g3,k1,wR,len8_eq,k2,k3,w8,xE,xF,xG,xH,xI,xJ,kU,-Int.natCast_ediv];omega
 .have g1:¬(4294967296:Int)<=x:=by omega
  by_cases h2:65536<=x
  .have g2:(65536:Int)<=(x:Nat):=by omega
   generalize zA:x/65536=x2 at*;by_cases h3:256<=x2
   .have g3:(256:Int)<=(x2:Nat):=by omega
    have hY:x2/256<256:=by omega
    have hl:=(p8 hY).2.2;have k1:IntKind.u8.wrap ((x2/256:Nat):Int)=((x2/256:Nat):Int):=xM hY;have k2:i64.wrap ((len8 (x2/256):Nat):Int)=len8 (x2/256):=aQ (by omega);have k3:i64.wrap (24+(len8 (x2/256):Int))=24+(len8 (x2/256):Int):=aQ (by omega);simp[h1,h2,h3,g1,g2,g3,k1,wR,len8_eq,k2,k3,w8,xE,xF,xG,xH,xI,xJ,zA,-Int.natCast_ediv];omega
   .have g3:¬(256:Int)<=(x2:Nat):=by omega
    have hY:x2<256:=by omega
    have hl:=(p8 hY).2.2;have k1:IntKind.u8.wrap ((x2:Nat):Int)=((x2:Nat):Int):=xM hY;have k2:i64.wrap ((len8 (x2):Nat):Int)=len8 (x2):=aQ (by omega);have k3:i64.wrap (16+(len8 (x2):Int))=16+(len8 (x2):Int):=aQ (by omega);simp[h1,h2,h3,g1,g2,g3,k1,wR,len8_eq,k2,k3,w8,xE,xF,xG,xH,xI,xJ,zA,-Int.natCast_ediv];omega
  .have g2:¬(65536:Int)<=(x:Nat):=by omega
   by_cases h3:256<=x
   .have g3:(256:Int)<=(x:Nat):=by omega
    have hY:x/256<256:=by omega
    have hl:=(p8 hY).2.2;have k1:IntKind.u8.wrap ((x/256:Nat):Int)=((x/256:Nat):Int):=xM hY;have k2:i64.wrap ((len8 (x/256):Nat):Int)=len8 (x/256):=aQ (by omega);have k3:i64.wrap (8+(len8 (x/256):Int))=8+(len8 (x/256):Int):=aQ (by omega);simp[h1,h2,h3,g1,g2,g3,k1,wR,len8_eq,k2,k3,w8,xE,xF,xG,xH,xI,xJ,-Int.natCast_ediv];omega
   .have g3:¬(256:Int)<=(x:Nat):=by omega
    have hY:x<256:=by omega
    have hl:=(p8 hY).2.2;have k1:IntKind.u8.wrap ((x:Nat):Int)=((x:Nat):Int):=xM hY;have k2:i64.wrap ((len8 (x):Nat):Int)=len8 (x):=aQ (by omega);have k3:i64.wrap (0+(len8 (x):Int))=0+(len8 (x):Int):=aQ (by omega);simp[h1,h2,h3,g1,g2,g3,k1,wR,len8_eq,k2,k3,w8,xE,xF,xG,xH,xI,xJ,-Int.natCast_ediv];omega
def acI {v1 v0 u32 d:Nat}(hv:0<v1)(hd:d<4294967296)(hu:u32<v1*4294967296+v0):(u32*4294967296+d)/(v1*4294967296+v0)<=u32/v1:=by
 have h1:(u32*4294967296+d)/(v1*4294967296+v0)<=(u32*4294967296+d)/(v1*4294967296):=Nat.div_le_div_left (by omega) (by omega);have h2:(u32*4294967296+d)/(v1*4294967296)=u32/v1:=by
  rw[x9 v1,<-Nat.div_div_eq_div_mul]
  congr 1;omega
 omega
def acL {v1 v0 u32:Nat}(eT:v0<4294967296)(aL:2147483648<=v1)(hu:u32<v1*4294967296+v0):u32/v1<=4294967297:=by
 have h1:u32/v1*v1<=u32:=Nat.div_mul_le_self u32 v1;have h2:u32/v1*v1<4294967298*v1:=by omega
 have:=Nat.lt_of_mul_lt_mul_right h2;omega
def Re (q v1 v0:Nat):q*(v1*4294967296+v0)=q*v1*4294967296+q*v0:=by rw[Nat.mul_add,abn]
def acK {v1 v0 u32 d q r:Nat}(hu:u32<v1*4294967296+v0)(hd:d<4294967296)(h1:q*v1+r=u32)(c:4294967296<=q\/4294967296*r+d<q*v0):(u32*4294967296+d)/(v1*4294967296+v0)<q:=by
 rw[xZ (by omega)];rcases c with c|c
 .have h2:4294967296*(v1*4294967296+v0)<=q*(v1*4294967296+v0):=kc _ c;omega
 .rw[Re];omega
def acJ {v1 v0 u32 d q r:Nat}(hv:0<v1)(h1:q*v1+r=u32)(c:q*v0<=4294967296*r+d):q<=(u32*4294967296+d)/(v1*4294967296+v0):=by
 rw[PN (by omega),Re];omega
def acH {v1 v0 u32 d q r:Nat}(eT:v0<4294967296)(h1:q*v1+r=u32)(hu:u32<v1*4294967296+v0)(c:4294967296<=r):q<=(u32*4294967296+d)/(v1*4294967296+v0):=by
 have hv:0<v1*4294967296+v0:=by omega
 have hq:q<4294967296:=by
  rcases Jm q 4294967296 with h|h
  .exact h
  .have:4294967296*v1<=q*v1:=kc _ h;omega
 have h2:q*v0<=4294967295*4294967295:=Ev (by omega) (by omega);rw[PN hv,Re];omega
def auC (O:Env)(q0 r0 v1 v0 u32 d:Nat)(eT:v0<4294967296)(aL:2147483648<=v1)(atO:v1<4294967296)(hd:d<4294967296)(hu:u32<v1*4294967296+v0)
 (hq:q0=u32/v1) (hr:r0=u32%v1) (h9:O.r 9=u v1) (jt:O.r 10=u v0) (y8:O.r 13=u d) (zn:O.r 15=u q0) (Tc:O.r 16=u r0) (K:Env->Prop) (Q:Out->Prop)
 (hK:∀O':Env,O'.r 15=u ((u32*4294967296+d)/(v1*4294967296+v0))->(∀t,t∉[15,16,67,68,69,78]->O'.r t=O.r t)->K O'):aK T (GV yh) O (gM K Q):=by
 have dm:=λq r=>acK (v1:=v1) (v0:=v0) (u32:=u32) (d:=d) (q:=q) (r:=r) hu hd;have dl:=λq r=>acJ (v1:=v1) (v0:=v0) (u32:=u32) (d:=d) (q:=q) (r:=r) (by omega);have dd:=λq r=>acH (v1:=v1) (v0:=v0) (u32:=u32) (d:=d) (q:=q) (r:=r) eT;have di:=acI (v1:=v1) (v0:=v0) (u32:=u32) (d:=d) (by omega) hd hu;have hQ0:0<=(u32*4294967296+d)/(v1*4294967296+v0):=kf _;generalize (u32*4294967296+d)/(v1*4294967296+v0)=QQ at*;refine aK.forLoop (α:=Nat×Nat) (λs vr vo=>s.1*v1+s.2=u32/\QQ<=s.1/\s.2<4294967296/\s.1<=4294967297/\vr=[u s.1,u s.2]/\vo=[]) (λs=>s.1) (q0,r0) ⟨?_,?_,?_,?_,?_,rfl⟩ ?_
 .subst hq hr;exact Et u32 v1
 .subst hq;exact di
 .subst hr;have:=qG u32 (show v1>0 by omega);omega
 .subst hq;exact acL eT aL hu
 .simp[zn,Tc]
 .rintro⟨q,r⟩ vr vo ⟨h1,h2,h3,h4,rfl,rfl⟩;dsimp only at h1 h2 h3 h4;have hm:q*v0<=4294967297*4294967295:=Ev h4 (by omega);have w1:IntKind.u64.wrap ((q:Int)*(v0:Int))=(q*v0:Nat):=by rw[<-Int.natCast_mul];exact j3 (by omega)
  have w2:IntKind.u64.wrap (4294967296*(r:Int))=(4294967296*r:Nat):=by rw[kI (by omega)];omega
  have w3:IntKind.u64.wrap (((4294967296*r:Nat):Int)+(d:Int))=(4294967296*r+d:Nat):=by rw[kI (by omega)];omega
  have dm:=dm q r h1;have dl:=dl q r h1;generalize q*v0=M at*;by_cases c:4294967296<=q\/4294967296*r+d<M
  .have af:=dm c;have w4:IntKind.u64.wrap ((q:Int)-1)=(q-1:Nat):=by rw[kI (by omega)];omega
   have w5:IntKind.u64.wrap ((r:Int)+(v1:Int))=(r+v1:Nat):=by rw[kI (by omega)];omega
   have e1:(q-1)*v1+(r+v1)=u32:=by rw[Nat.sub_mul,Nat.one_mul];have:v1<=q*v1:=Nat.le_mul_of_pos_left v1 (by omega);omega
   have ux:(4294967296:Int)<=(q:Int)\/4294967296*r+d<M:=by omega
   by_cases c2:4294967296<=r+v1
   .have ym:(4294967296:Int)<=((r+v1:Nat):Int):=by omega
    have:=dd _ _ e1 hu c2;have e2:q-1=QQ:=by omega
    simp[Wt,HE,h9,jt,y8,w1,w2,w3,w4,w5,ux,ym,-Int.natCast_add,-Int.natCast_mul];refine hK _ ?_ ?_
    .simp[w4,e2]
    .intro t ht;simp at ht;simp[ht]
   .have ym:¬(4294967296:Int)<=((r+v1:Nat):Int):=by omega
    simp[Wt,HE,h9,jt,y8,w1,w2,w3,w4,w5,ux,ym,-Int.natCast_add,-Int.natCast_mul];exact⟨q-1,by omega,r+v1,e1,by omega,by omega,by omega,rfl,rfl⟩
  .have:=dl (by omega);have e2:q=QQ:=by omega
   have ux:¬((4294967296:Int)<=(q:Int)):=by omega
   have QR:¬(4294967296*r+d<M):=by omega
   simp[Wt,HE,h9,jt,y8,w1,w2,w3,ux,QR,-Int.natCast_add,-Int.natCast_mul];refine hK _ ?_ ?_
   .simp[e2]
   .intro t ht;simp at ht;simp[ht]
def auD (O:Env)(q0 r0 v1 v0 u32 d:Nat)(eT:v0<4294967296)(aL:2147483648<=v1)(atO:v1<4294967296)(hd:d<4294967296)(hu:u32<v1*4294967296+v0)
 (hq:q0=u32/v1) (hr:r0=u32%v1) (h9:O.r 9=u v1) (jt:O.r 10=u v0) (y8:O.r 14=u d) (zn:O.r 18=u q0) (Tc:O.r 16=u r0) (K:Env->Prop) (Q:Out->Prop)
 (hK:∀O':Env,O'.r 18=u ((u32*4294967296+d)/(v1*4294967296+v0))->(∀t,t∉[16,18,102,103,104,113]->O'.r t=O.r t)->K O'):aK T (GW yh) O (gM K Q):=by
 have dm:=λq r=>acK (v1:=v1) (v0:=v0) (u32:=u32) (d:=d) (q:=q) (r:=r) hu hd;have dl:=λq r=>acJ (v1:=v1) (v0:=v0) (u32:=u32) (d:=d) (q:=q) (r:=r) (by omega);have dd:=λq r=>acH (v1:=v1) (v0:=v0) (u32:=u32) (d:=d) (q:=q) (r:=r) eT;have di:=acI (v1:=v1) (v0:=v0) (u32:=u32) (d:=d) (by omega) hd hu;have hQ0:0<=(u32*4294967296+d)/(v1*4294967296+v0):=kf _;generalize (u32*4294967296+d)/(v1*4294967296+v0)=QQ at*;refine aK.forLoop (α:=Nat×Nat) (λs vr vo=>s.1*v1+s.2=u32/\QQ<=s.1/\s.2<4294967296/\s.1<=4294967297/\vr=[u s.2,u s.1]/\vo=[]) (λs=>s.1) (q0,r0) ⟨?_,?_,?_,?_,?_,rfl⟩ ?_
 .subst hq hr;exact Et u32 v1
 .subst hq;exact di
 .subst hr;have:=qG u32 (show v1>0 by omega);omega
 .subst hq;exact acL eT aL hu
 .simp[zn,Tc]
 .rintro⟨q,r⟩ vr vo ⟨h1,h2,h3,h4,rfl,rfl⟩;dsimp only at h1 h2 h3 h4;have hm:q*v0<=4294967297*4294967295:=Ev h4 (by omega);have w1:IntKind.u64.wrap ((q:Int)*(v0:Int))=(q*v0:Nat):=by rw[<-Int.natCast_mul];exact j3 (by omega)
  have w2:IntKind.u64.wrap (4294967296*(r:Int))=(4294967296*r:Nat):=by rw[kI (by omega)];omega
  have w3:IntKind.u64.wrap (((4294967296*r:Nat):Int)+(d:Int))=(4294967296*r+d:Nat):=by rw[kI (by omega)];omega
  have dm:=dm q r h1;have dl:=dl q r h1;generalize q*v0=M at*;by_cases c:4294967296<=q\/4294967296*r+d<M
  .have af:=dm c;have w4:IntKind.u64.wrap ((q:Int)-1)=(q-1:Nat):=by rw[kI (by omega)];omega
   have w5:IntKind.u64.wrap ((r:Int)+(v1:Int))=(r+v1:Nat):=by rw[kI (by omega)];omega
   have e1:(q-1)*v1+(r+v1)=u32:=by rw[Nat.sub_mul,Nat.one_mul];have:v1<=q*v1:=Nat.le_mul_of_pos_left v1 (by omega);omega
   have ux:(4294967296:Int)<=(q:Int)\/4294967296*r+d<M:=by omega
   by_cases c2:4294967296<=r+v1
   .have ym:(4294967296:Int)<=((r+v1:Nat):Int):=by omega
    have:=dd _ _ e1 hu c2;have e2:q-1=QQ:=by omega
    simp[Wu,HF,h9,jt,y8,w1,w2,w3,w4,w5,ux,ym,-Int.natCast_add,-Int.natCast_mul];refine hK _ ?_ ?_
    .simp[w4,e2]
    .intro t ht;simp at ht;simp[ht]
   .have ym:¬(4294967296:Int)<=((r+v1:Nat):Int):=by omega
    simp[Wu,HF,h9,jt,y8,w1,w2,w3,w4,w5,ux,ym,-Int.natCast_add,-Int.natCast_mul];exact⟨q-1,by omega,r+v1,e1,by omega,by omega,by omega,rfl,rfl⟩
  .have:=dl (by omega);have e2:q=QQ:=by omega
   have ux:¬((4294967296:Int)<=(q:Int)):=by omega
   have QR:¬(4294967296*r+d<M):=by omega
   simp[Wu,HF,h9,jt,y8,w1,w2,w3,ux,QR,-Int.natCast_add,-Int.natCast_mul];refine hK _ ?_ ?_
   .simp[e2]
   .intro t ht;simp at ht;simp[ht]
def bC:Nat->List Cell->Tm->Cell
 |0,_,_=>dT
 |L+1,cs,t=>if t.op=0\/t.op=1 then⟨true,t.n⟩ else if t.op=2 then kH cs t.n else
   if t.op=6/\(aN (t.args.map (bC L cs)) 0).known=true then aN (t.args.map (bC L cs)) (2-(aN (t.args.map (bC L cs)) 0).n).toNat else fT t.op (t.args.map (bC L cs))
def eJ:Nat->List Cell->Tm->List Int
 |0,_,_=>[]
 |L+1,cs,t=>if t.op=0\/t.op=1 then[] else if t.op=2 then(if(kH cs t.n).known=true then[] else[t.n]) else
   if t.op=6/\(aN (t.args.map (bC L cs)) 0).known=true then(t.args.map (eJ L cs)).getD (2-(aN (t.args.map (bC L cs)) 0).n).toNat [] else
   if(fT t.op (t.args.map (bC L cs))).known=true then[] else(t.args.map (eJ L cs)).flatten
def Cn (L:Nat)(cs:List Cell)(t:Tm):bC (L+1) cs t=if t.op=0\/t.op=1 then⟨true,t.n⟩ else if t.op=2 then kH cs t.n else
 if t.op=6/\(aN (t.args.map (bC L cs)) 0).known=true then aN (t.args.map (bC L cs)) (2-(aN (t.args.map (bC L cs)) 0).n).toNat else fT t.op (t.args.map (bC L cs)):=rfl
def MT (L:Nat)(cs:List Cell)(t:Tm):eJ (L+1) cs t=if t.op=0\/t.op=1 then[] else if t.op=2 then(if(kH cs t.n).known=true then[] else[t.n]) else
 if t.op=6/\(aN (t.args.map (bC L cs)) 0).known=true then(t.args.map (eJ L cs)).getD (2-(aN (t.args.map (bC L cs)) 0).n).toNat [] else
 if(fT t.op (t.args.map (bC L cs))).known=true then[] else(t.args.map (eJ L cs)).flatten:=rfl
def K7 {L:Nat}{t:Tm}{k:Int}(h:bW (L+1) t=(k,0)):(∀a,a∈t.args->(bW L a).2=0)/\zS t (t.args.map λa=>(bW L a).1)=(k,0):=by
 rw[Q3] at h;by_cases e:fW t.args.length (λk=>(bW L (t.args.getD k default)).2)=0
 .rw[if_neg (by simpa using e)] at h;refine⟨λa ha=>?_,h⟩;obtain⟨j,hj,rfl⟩:=fw ha;have:=Ry.1 e j hj;simpa [hj] using this
 .rw[if_pos e] at h;injection h with _ h
  exact absurd h e
inductive Node (ks:List Int) (t:Tm):Int->Prop where
 |int (h:t.op=0) (ha:t.args=[]) (hn:-1099511627776<=t.n/\t.n<=1099511627776):Node ks t 0
 |bool (h:t.op=1) (ha:t.args=[]) (hn:t.n=0\/t.n=1):Node ks t 1
 |var (h:t.op=2) (ha:t.args=[]) (hn:0<=t.n/\t.n<=19):Node ks t (nC t.n).1
 |not (h:t.op=3) (hk:ks=[1]):Node ks t 1
 |log (h:t.op=4\/t.op=5) (hk:ks=[1,1]):Node ks t 1
 |ite (k:Int) (h:t.op=6) (hk:ks=[1,k,k]):Node ks t k
 |less (h:t.op=7) (hk:ks=[0,0]):Node ks t 1
 |equal (k:Int) (h:t.op=8) (hk:ks=[k,k]):Node ks t 1
 |num (h:9<=t.op/\t.op<=13) (hk:ks=[0,0]):Node ks t 0
def aD9 (v:Int):(nC v).1=0\/(nC v).1=1:=by
 unfold nC;repeat' split
 all_goals simp
def axr {t:Tm}{ks:List Int}{k:Int}(hl:ks.length=t.args.length)(jM:∀x,x∈ks->x=0\/x=1)(h:zS t ks=(k,0)):Node ks t k:=by
 unfold zS at h;split at h
 .injection h with _ h;cases h
 rename_i eG;split at h
 .rename_i h3;unfold GP at h;split at h
  .injection h with _ h;cases h
  rename_i ha0;have ha:t.args=[]:=Pz (by omega);split at h
  .rename_i h0;split at h
   .injection h with _ h;cases h
   .rename_i hc;injection h with h _
    subst h;refine .int h0 ha ?_;unfold qQ at hc;omega
  split at h
  .rename_i h0;split at h
   .injection h with _ h;cases h
   .rename_i hc;injection h with h _
    subst h;exact .bool h0 ha (by omega)
  split at h
  .injection h with _ h;cases h
  .rename_i g0 g1 hc;injection h with h _
   subst h;refine .var (by omega) ha ?_;unfold nC at hc;split at hc
   .simp at hc
   .omega
 rename_i h3;split at h
 .injection h with _ h;cases h
 rename_i hlen;have pP:ks.length=(fp t.op).1.length:=by
  refine vB λhh=>hlen (.inl hh)
 split at h
 .injection h with _ h;cases h
 rename_i ax;have kr:∀j,j<(fp t.op).1.length->p7 (fp t.op).1 ks j=true:=yd.1 (by simpa using ax)
 have two:∀{n:Nat},ks.length=2->∃a b,ks=[a,b]:=λh=>by
  match ks,h with
  |[a,b],_=>exact⟨a,b,rfl⟩
 by_cases o3:t.op=3
 .have e:fp t.op=([1],1):=by simp[fp,o3]
  rw[e] at pP kr h
  match ks,pP with
  |[a],_=>
   have:=kr 0 (by simp);simp[p7] at this;simp at h;subst h this;exact .not o3 rfl
 by_cases MZ:t.op=4\/t.op=5
 .have e:fp t.op=([1,1],1):=by simp[fp,o3,MZ]
  rw[e] at pP kr h
  match ks,pP with
  |[a,b],_=>
   have t1:=kr 0 (by simp);have t2:=kr 1 (by simp);simp[p7] at t1 t2;simp at h;subst h t1 t2;exact .log MZ rfl
 by_cases o6:t.op=6
 .have e:fp t.op=([1,-1,-1],-1):=by simp[fp,o6]
  rw[e] at pP kr h
  match ks,pP,jM with
  |[a,b,c],_,jM=>
   have t1:=kr 0 (by simp);have t3:=kr 2 (by simp);have hb:=jM b (by simp);have sY:¬b=-1:=by omega
   simp[p7] at t1;simp[p7,oP,sY] at t3;simp[oP,sY] at h;subst h t1 t3;exact .ite _ o6 rfl
 by_cases o7:t.op=7
 .have e:fp t.op=([0,0],1):=by simp[fp,o7]
  rw[e] at pP kr h
  match ks,pP with
  |[a,b],_=>
   have t1:=kr 0 (by simp);have t2:=kr 1 (by simp);simp[p7] at t1 t2;simp at h;subst h t1 t2;exact .less o7 rfl
 by_cases o8:t.op=8
 .have e:fp t.op=([-1,-1],1):=by simp[fp,o8]
  rw[e] at pP kr h
  match ks,pP,jM with
  |[a,b],_,jM=>
   have t2:=kr 1 (by simp);have ha:=jM a (by simp);have han:¬a=-1:=by omega
   simp[p7,oP,han] at t2;simp at h;subst h t2;exact .equal _ o8 rfl
 have e:fp t.op=([0,0],0):=by simp[fp,o3,MZ,o6,o7,o8]
 rw[e] at pP kr h
 match ks,pP with
 |[a,b],_=>
  have t1:=kr 0 (by simp);have t2:=kr 1 (by simp);simp[p7] at t1 t2;simp at h;subst h t1 t2;exact .num (by omega) rfl
def K8:∀{L:Nat} {t:Tm} {k:Int},bW (L+1) t=(k,0)->Node (t.args.map λa=>(bW L a).1) t k/\(k=0\/k=1)
 |L,t,k,h=>by
  obtain⟨h1,h2⟩:=K7 h
  have jM:∀x,x∈(t.args.map λa=>(bW L a).1)->x=0\/x=1:=by
   intro x hx;obtain⟨a,ha,rfl⟩:=cd.1 hx;cases L with
   |zero=>exact .inl rfl
   |succ L=>exact(K8 (L:=L) (t:=a) (k:=(bW (L+1) a).1) (by rw[<-h1 a ha])).2
  have hn:=axr (by simp) jM h2;refine⟨hn,?_⟩;cases hn with
  |int=>simp
  |bool=>simp
  |var=>exact aD9 _
  |not=>simp
  |log=>simp
  |ite k _ hk=>exact jM k (by rw[hk];simp)
  |less=>simp
  |equal=>simp
  |num=>simp
def vJ (k:Int)(c:Cell):Prop:=(c.known=false->c=dT)/\(c.known=true->(k=1->c.n=0\/c.n=1)/\(k=0->-1099511627776<=c.n/\c.n<=1099511627776))
def xm (k:Int):vJ k dT:=⟨λ_=>rfl,λh=>by cases h⟩
def DZ (b:Bool):vJ 1 (ew b):=⟨λh=>(by cases b<;>cases h),λ_=>⟨λ_=>(by cases b<;>simp[ew]),λh=>by cases h⟩⟩
def Q9 (n:Int):-1099511627776<=qQ n/\qQ n<=1099511627776:=by unfold qQ;omega
def az5 (cs:List Cell)(v:Int)(hv:0<=v/\v<=19):vJ (nC v).1 (kH cs v):=by
 unfold kH;split
 .exact xm _
 .split
  .rename_i h;rw[h];exact DZ _
  .rename_i h;refine⟨λh=>(by cases h),λ_=>⟨λh'=>absurd h' h,λ_=>Q9 _⟩⟩
def ayL (a b:Int):-1099511627776<=Dr a b/\Dr a b<=1099511627776:=by
 unfold Dr;have:=aiQ (a.natAbs*b.natAbs);split<;>omega
def alM (op a b:Int)(ha:-1099511627776<=a/\a<=1099511627776)(hb:-1099511627776<=b/\b<=1099511627776):-1099511627776<=Ba op a b/\Ba op a b<=1099511627776:=by
 unfold Ba;split
 .exact Q9 _
 split
 .exact Q9 _
 split
 .exact ayL _ _
 split<;>omega
def axc {α β:Type}{f:α->β}{l:List α}{x:β}(h:l.map f=[x]):∃a,l=[a]/\f a=x:=by
 match l,h with
 |[a],h=>exact⟨a,rfl,by simpa using h⟩
def C9 {α β:Type}{f:α->β}{l:List α}{x y:β}(h:l.map f=[x,y]):∃a b,l=[a,b]/\f a=x/\f b=y:=by
 match l,h with
 |[a,b],h=>exact⟨a,b,rfl,by simpa using h⟩
def MJ {α β:Type}{f:α->β}{l:List α}{x y z:β}(h:l.map f=[x,y,z]):∃a b c,l=[a,b,c]/\f a=x/\f b=y/\f c=z:=by
 match l,h with
 |[a,b,c],h=>exact⟨a,b,c,rfl,by simpa using h⟩
def Rr:∀{L:Nat} {t:Tm} {k:Int} (cs:List Cell),bW L t=(k,0)->vJ k (bC L cs t)
 |0,t,k,cs,h=>xm _
 |L+1,t,k,cs,h=>by
  obtain⟨hn,hk⟩:=K8 h;obtain⟨ha,_⟩:=K7 h;have ih:∀a,a∈t.args->vJ (bW L a).1 (bC L cs a):=λa hm=>Rr cs (show bW L a=((bW L a).1,0) by rw[<-ha a hm]);rw[Cn];cases hn with
  |int h0 ha hn=>rw[if_pos (.inl h0)];exact⟨λh=>(by cases h),λ_=>⟨λh=>(by cases h),λ_=>hn⟩⟩
  |bool h0 ha hn=>rw[if_pos (.inr h0)];exact⟨λh=>(by cases h),λ_=>⟨λ_=>hn,λh=>by cases h⟩⟩
  |var h0 ha hn=>rw[if_neg (by omega),if_pos h0];exact az5 cs _ hn
  |not h0 hk=>
   rw[if_neg (by omega),if_neg (by omega),if_neg (by omega)];unfold fT;rw[if_pos h0];split
   .exact DZ _
   .exact xm _
  |log h0 hk=>
   rw[if_neg (by omega),if_neg (by omega),if_neg (by omega)];unfold fT;rw[if_neg (by omega)];split
   .exact DZ _
   rw[if_neg (by omega)];split
   .exact xm _
   exact DZ _
  |ite k h0 ct=>
   obtain⟨a,b,c,hl,e1,e2,e3⟩:=MJ ct;rw[hl] at ih ⊢;have r1:=ih a (by simp);have r2:=ih b (by simp);have r3:=ih c (by simp);rw[e1] at r1;rw[e2] at r2;rw[e3] at r3;rw[if_neg (by omega),if_neg (by omega)];simp only[iy,List.map_nil,aN,qD];split
   .rename_i hh;rcases(r1.2 hh.2).1 rfl with h1|h1<;>rw[h1]
    .exact r3
    .exact r2
   .unfold fT;rw[if_neg (by omega),if_neg (by omega),if_pos h0];simp only[aN,qD,A0];split
    .exact r2
    .exact xm _
  |less h0 hk=>
   rw[if_neg (by omega),if_neg (by omega),if_neg (by omega)];unfold fT;rw[if_neg (by omega),if_neg (by omega),if_neg (by omega)];split
   .exact xm _
   repeat' split
   all_goals exact DZ _
  |equal k h0 hk=>
   rw[if_neg (by omega),if_neg (by omega),if_neg (by omega)];unfold fT;rw[if_neg (by omega),if_neg (by omega),if_neg (by omega)];split
   .exact xm _
   repeat' split
   all_goals exact DZ _
  |num h0 ct=>
   obtain⟨a,b,hl,e1,e2⟩:=C9 ct;rw[hl] at ih ⊢;have r1:=ih a (by simp);have r2:=ih b (by simp);rw[e1] at r1;rw[e2] at r2;rw[if_neg (by omega),if_neg (by omega),if_neg (by omega)];unfold fT;rw[if_neg (by omega),if_neg (by omega),if_neg (by omega)];simp only[iy,List.map_nil,aN,qD,A0];split
   .exact xm _
   rename_i rp;rw[if_neg (by omega),if_neg (by omega),if_neg (by omega)];have k1:(bC L cs a).known=true:=by
    cases e:(bC L cs a).known with
    |true=>rfl
    |false=>exact absurd (.inl e) rp
   have k2:(bC L cs b).known=true:=by
    cases e:(bC L cs b).known with
    |true=>rfl
    |false=>exact absurd (.inr e) rp
   exact⟨λh=>(by cases h),λ_=>⟨λh=>(by cases h),λ_=>alM _ _ _ ((r1.2 k1).2 rfl) ((r2.2 k2).2 rfl)⟩⟩
def agy:∀(L:Nat) (cs:List Cell) (t:Tm),cS L t<=60->((eJ L cs t).length:Int)<=cS L t
 |0,cs,t,h=>by simp[cS] at h
 |L+1,cs,t,h=>by
  have h1:=zQ (L+1) t;obtain⟨hl,hp⟩:=Up h;have hs:∀(l:List Tm) (n:Int),(∀a,a∈l->cS L a<=60)->fZ (cS L) l n<=60->((l.map (eJ L cs)).flatten.length:Int)+n<=fZ (cS L) l n/\∀j,(((l.map (eJ L cs)).getD j []).length:Int)+n<=fZ (cS L) l n:=by
   intro l
   induction l with
   |nil=>intro n _ _;simp[fZ]
   |cons a l ih=>
    intro n hp hm;have ha:=agy L cs a (hp a (by simp));unfold fZ at hm ⊢;split at hm
    .omega
    .rename_i h60;rw[if_neg h60];obtain⟨i1,i2⟩:=ih (n+cS L a) (λb hb=>hp b (by simp[hb])) hm;refine⟨by rw[iy,aa9,mG];omega,λj=>?_⟩;cases j with
     |zero=>simp;omega
     |succ j=>have:=i2 j;simp at this ⊢;omega
  obtain⟨Mm,eH⟩:=hs t.args 1 hp h;rw[MT];split
  .simp;omega
  split
  .split<;>simp<;>omega
  split
  .have:=eH (2-(aN (t.args.map (bC L cs)) 0).n).toNat;show _<=fZ _ _ _;omega
  split
  .simp;omega
  .show _<=fZ _ _ _;omega
@[simp] def aLt (x y:List Int):xw (ints x) 0 (ints y)=ints y:=zyz
@[simp] def aAJ (x y:Cell):xw (cR x) 0 (cR y)=cR y:=zyz
@[simp] def aJ1 (a b:List Int):D.list (a.map D.int++b.map D.int)=ints (a++b):=by simp[ints]
def lists (l:List (List Int)):D:=.list (l.map ints)
@[simp] def aKd (l:List (List Int)):(lists l).l=l.map ints:=zyz
def akP (l:List (List Int))(hl:l.length<=1000)(hs:l.flatten.length<=1000000):aj T 217 [lists l] (ints l.flatten):=by
 refine zyw 129 aDd ?_;simp[ZS];have hb:∀k,(l.take k).flatten.length<=l.flatten.length:=by
  intro k
  conv=>rhs;rw[<-Jj k l]
  rw[List.flatten_append,mG];omega
 have bD:∀k (hk:k<l.length),(l.take (k+1)).flatten=(l.take k).flatten++l[k]:=λk hk=>by
  rw[iS hk,List.flatten_append];simp
 refine aK.forRounds l.length (λk=>[.int ((l.take k).flatten.length:Nat),.int k]) (λk=>[]) ?_ (λk hk=>?_) ?_
 .simp
 .have hw:=bq hk (by omega);have h1:=bD k hk;have h2:=hb (k+1);rw[h1] at h2 ⊢;rw[mG] at h2 ⊢;generalize (l.take k).flatten.length=m at*;have uU:i64.wrap ((m:Int)+(l[k].length:Int))=(m:Int)+l[k].length:=aQ (by omega);have zk:¬((m:Int)+l[k].length<0):=by omega
  simp[ajJ,Ov,hk,hw,uU,zk]
 .simp[ajJ,Ov];have fF:aj T 228 [.list [],.int (l.flatten.length:Nat)] (.list []):=by
   refine .of_ext (g:=λ_ ds=>FD ds) rfl ⟨0,λ_ _=>?_⟩;show(if(0:Int)<=(l.flatten.length:Nat)/\((l.flatten.length:Nat):Int)<=4294967296 then some (D.list []) else none)=some (D.list []);rw[if_pos (by omega)]
  rw[List.length_flatten] at fF;refine⟨_,fF,?_⟩;refine aK.forRounds l.length (λk=>[.none,.int k]) (λk=>[ints (l.take k).flatten]) ?_ (λk hk=>?_) ?_
  .simp[ints]
  .have hw:=bq hk (by omega);have h1:=bD k hk;have h2:=hb (k+1);rw[h1] at h2 ⊢;rw[mG] at h2;generalize (l.take k).flatten=m at*;simp[ajK,Ow,hk,hw];omega
  .simp[ajK,Ow]
def anp {op:Int}{l:List Cell}(h:(fT op l).known=false):fT op l=dT:=by
 have hy:∀b,(ew b).known=true:=λb=>by cases b<;>simp[ew]
 unfold fT at h ⊢;split<;>rename_i c1
 .rw[if_pos c1] at h;split<;>rename_i c2
  .rw[if_pos c2,hy] at h;cases h
  .rfl
 rw[if_neg c1] at h;split<;>rename_i c2
 .rw[if_pos c2,hy] at h;cases h
 rw[if_neg c2] at h;split<;>rename_i c3
 .rw[if_pos c3] at h;split<;>rename_i c4
  .rw[if_pos c4,c4.1] at h;cases h
  .rfl
 rw[if_neg c3] at h;split<;>rename_i c4
 .rfl
 rw[if_neg c4] at h
 repeat' split at h
 all_goals first|(rw[hy] at h;cases h)|cases h
def akp:∀(L:Nat) (cs:List Cell) (t:Tm) (k:Int),t.OK->cS L t<=60->bW L t=(k,0)->aj T 192 [Rm cs,dL t] (.tup [cR (bC L cs t),ints (eJ L cs t)])
 |0,cs,t,k,ht,hm,hc=>by simp[cS] at hm
 |L+1,cs,t,k,ht,hm,hc=>by
  refine zyw 122 aDI ?_;obtain⟨hl,hp⟩:=Up hm;obtain⟨ha,_⟩:=K7 hc;obtain⟨hn,aJq⟩:=K8 hc;have jy:∀a,a∈t.args->aj T 192 [Rm cs,dL a] (.tup [cR (bC L cs a),ints (eJ L cs a)]):=λa fG=>akp L cs a (bW L a).1 (ht.arg fG) (hp a fG) (by rw[<-ha a fG]);have zp:∀a,a∈t.args->vJ (bW L a).1 (bC L cs a):=λa fG=>Rr cs (show bW L a=((bW L a).1,0) by rw[<-ha a fG]);have hnl:∀a,a∈t.args->(eJ L cs a).length<=60:=λa fG=>by have:=agy L cs a (hp a fG);have:=hp a fG;omega
  by_cases jM:t.op=0\/t.op=1
  ·
   have e1:bC (L+1) cs t=⟨true,t.n⟩:=by rw[Cn,if_pos jM]
   have e2:eJ (L+1) cs t=[]:=by rw[MT,if_pos jM]
   rw[e1,e2];rcases jM with h|h<;>simp[IV,h]<;>exact⟨rfl,rfl⟩
  have o0:t.op≠0:=λh=>jM (.inl h);have o1:t.op≠1:=λh=>jM (.inr h);by_cases o2:t.op=2
  .have hv:0<=t.n:=by
    cases hn with
    |var h0 ha hn=>exact hn.1
    |_=>omega
   have e1:bC (L+1) cs t=kH cs t.n:=by rw[Cn,if_neg jM,if_pos o2]
   have e2:eJ (L+1) cs t=if(kH cs t.n).known=true then[] else[t.n]:=by rw[MT,if_neg jM,if_pos o2]
   rw[e1,e2];simp[IV,o2];refine⟨_,aA4 cs t.n hv,?_⟩;cases e:(kH cs t.n).known
   .have:kH cs t.n=dT:=by
     unfold kH at e ⊢;split
     .rfl
     .rename_i h;rw[if_neg h] at e;split at e
      .cases hb:decide ((cellAt cs t.n).n≠0)<;>rw[hb] at e<;>cases e
      .cases e
    rw[this];simp[ints]
   .have h:kH cs t.n=⟨true,(kH cs t.n).n⟩:=by rw[<-e]
    rw[h];simp[ints]
    try rfl
  have hlen:1<=t.args.length/\(t.op≠3->2<=t.args.length)/\(t.op=6->3<=t.args.length):=by
   cases hn with
   |int h0 ha hn=>omega
   |bool h0 ha hn=>omega
   |var h0 ha hn=>omega
   |not h0 hk=>obtain⟨a,hl,_⟩:=axc hk;rw[hl];simp;omega
   |log h0 hk=>obtain⟨a,b,hl,_⟩:=C9 hk;rw[hl];simp;omega
   |ite k h0 hk=>obtain⟨a,b,c,hl,_⟩:=MJ hk;rw[hl];simp
   |less h0 hk=>obtain⟨a,b,hl,_⟩:=C9 hk;rw[hl];simp;omega
   |equal k h0 hk=>obtain⟨a,b,hl,_⟩:=C9 hk;rw[hl];simp;omega
   |num h0 hk=>obtain⟨a,b,hl,_⟩:=C9 hk;rw[hl];simp;omega
  have hb9:9<=t.op->(-1099511627776<=(aN (t.args.map (bC L cs)) 0).n/\(aN (t.args.map (bC L cs)) 0).n<=1099511627776)/\(-1099511627776<=(aN (t.args.map (bC L cs)) 1).n/\(aN (t.args.map (bC L cs)) 1).n<=1099511627776):=by
   intro h9;have rb:∀c:Cell,vJ 0 c->-1099511627776<=c.n/\c.n<=1099511627776:=by
    intro c hr;cases e:c.known with
    |false=>rw[hr.1 e];simp
    |true=>exact(hr.2 e).2 rfl
   cases hn with
   |num h0 hk=>
    obtain⟨a,b,hl,ea,eb⟩:=C9 hk;rw[hl] at zp ⊢;have r1:=zp a (by simp);have r2:=zp b (by simp);rw[ea] at r1;rw[eb] at r2;exact⟨rb _ r1,rb _ r2⟩
   |log h0 hk=>omega
   |_=>omega
  have h6:t.op=6->(aN (t.args.map (bC L cs)) 0).known=true->(aN (t.args.map (bC L cs)) 0).n=0\/(aN (t.args.map (bC L cs)) 0).n=1:=by
   intro o6 rp;cases hn with
   |ite k h0 hk=>
    obtain⟨a,b,c,hl,ea,_⟩:=MJ hk;rw[hl] at zp rp ⊢;have r1:=zp a (by simp);rw[ea] at r1;exact(r1.2 rp).1 rfl
   |log h0 hk=>omega
   |num h0 hk=>omega
   |_=>omega
  have eG:t.op<3\/8<t.op->9<=t.op:=by
   cases hn with
   |log h0 hk=>omega
   |num h0 hk=>omega
   |_=>omega
  have e1:bC (L+1) cs t=if t.op=6/\(aN (t.args.map (bC L cs)) 0).known=true then aN (t.args.map (bC L cs)) (2-(aN (t.args.map (bC L cs)) 0).n).toNat else fT t.op (t.args.map (bC L cs)):=by
   rw[Cn,if_neg jM,if_neg o2]
  have e2:eJ (L+1) cs t=if t.op=6/\(aN (t.args.map (bC L cs)) 0).known=true then(t.args.map (eJ L cs)).getD (2-(aN (t.args.map (bC L cs)) 0).n).toNat [] else if(fT t.op (t.args.map (bC L cs))).known=true then[] else(t.args.map (eJ L cs)).flatten:=by
   rw[MT,if_neg jM,if_neg o2]
  rw[e1,e2];simp[IV,o0,o1,o2];refine⟨by omega,?_⟩;refine aK.forRounds t.args.length (λk=>[.int k]) (λk=>[cells ((t.args.map (bC L cs)).take k++List.replicate (t.args.length-k) dT),lists ((t.args.map (eJ L cs)).take k++List.replicate (t.args.length-k) [])]) ?_ (λk hk=>?_) ?_
  .simp[cells,lists,ints]
  .have hw:=bq hk (by omega);have cV:=bQ hk;have hr:=jy _ cV;have s1:=XG (t.args.map (bC L cs)) dT (n:=t.args.length) (by simp) hk;have s2:=XG (t.args.map (eJ L cs)) [] (n:=t.args.length) (by simp) hk;rw[<-s1,<-s2];have l1:((t.args.map (bC L cs)).take k++List.replicate (t.args.length-k) dT).length=t.args.length:=by simp;omega
   have l2:((t.args.map (eJ L cs)).take k++List.replicate (t.args.length-k) []).length=t.args.length:=by simp;omega
   have g1:(t.args.map (bC L cs))[k]'(by simpa using hk)=bC L cs t.args[k]:=by simp
   have g2:(t.args.map (eJ L cs))[k]'(by simpa using hk)=eJ L cs t.args[k]:=by simp
   rw[g1,g2];generalize (t.args.map (bC L cs)).take k++List.replicate (t.args.length-k) dT=A at*;generalize (t.args.map (eJ L cs)).take k++List.replicate (t.args.length-k) []=B at*;generalize bC L cs t.args[k]=c at*;generalize eJ L cs t.args[k]=d at*;simp[Xm,Ix,hk];refine⟨_,hr,?_⟩;simp[hw,hk,l1,l2,cells,lists]
  .have hA:(t.args.map (bC L cs)).take t.args.length++List.replicate (t.args.length-t.args.length) dT=t.args.map (bC L cs):=by rw[PR,List.replicate_zero,vD,xY (by simp)]
   have hB:(t.args.map (eJ L cs)).take t.args.length++List.replicate (t.args.length-t.args.length) []=t.args.map (eJ L cs):=by rw[PR,List.replicate_zero,vD,xY (by simp)]
   have lA:(t.args.map (bC L cs)).length=t.args.length:=by simp
   have lB:(t.args.map (eJ L cs)).length=t.args.length:=by simp
   have za:∀l:List Tm,(∀a,a∈l->a∈t.args)->((l.map (eJ L cs)).flatten.length<=l.length*60):=by
    intro l
    induction l with
    |nil=>intro _;simp
    |cons a l ih=>
     intro h;have h1:=hnl a (h a (by simp));have h2:=ih (λb hb=>h b (by simp[hb]));rw[iy,aa9,mG,px];omega
   have za:=za t.args (λa h=>h);have hBg:∀m:Nat,(Option.map (eJ L cs) t.args[m]?).getD []=(t.args.map (eJ L cs)).getD m []:=λm=>by simp[aH]
   rw[hA,hB];generalize t.args.map (bC L cs)=A at*;generalize t.args.map (eJ L cs)=B at*;have g0:0<A.length:=by omega
   have yV:A[0]=aN A 0:=by simp[aN,g0]
   by_cases LD:t.op=6/\(aN A 0).known=true
   .obtain⟨o6,kn⟩:=LD;have hv:=h6 o6 kn;have hw:i64.wrap (2-(aN A 0).n)=2-(aN A 0).n:=aQ (by omega);have h3:3<=t.args.length:=hlen.2.2 o6;rw[if_pos ⟨o6,kn⟩,if_pos ⟨o6,kn⟩];obtain⟨m,fG⟩:∃m:Nat,m=(2-(aN A 0).n).toNat:=⟨_,rfl⟩
    have F8:m<A.length:=by omega
    have Ss:m<B.length:=by omega
    simp[Xm,Ix,o6,kn,g0,yV,hw,<-fG,F8,Ss,cells,lists];refine⟨by omega,by omega,by simp[aN,F8],?_⟩;rw[hBg,aH,aY Ss];rfl
   .rw[if_neg LD,if_neg LD];have arA:=aA0 t.op A (by omega) (by omega) (by omega) hb9 eG;have arB:=akP B (by omega) (by omega);simp[Xm,Ix,g0,yV];rw[if_neg LD];refine⟨_,arA,?_⟩;cases e:(fT t.op A).known
    .have fH:fT t.op A=dT:=anp e;rw[fH];simp;exact arB
    .have h:fT t.op A=⟨true,(fT t.op A).n⟩:=by rw[<-e]
     rw[h];simp[ints]
     try rfl
def ml (n:Nat)(g:Nat->Bool):Int:=if(List.range n).findIdx g<n then((List.range n).findIdx g:Nat) else-1
def GL (n:Nat)(g:Nat->Bool):(ml n g=-1/\∀k,k<n->g k=false)\/∃k:Nat,k<n/\ml n g=k/\g k=true/\∀i,i<k->g i=false:=by
 unfold ml;split
 .rename_i h;refine .inr ⟨_,h,rfl,?_,λi hi=>?_⟩
  .have:=List.findIdx_getElem (p:=g) (xs:=List.range n) (w:=by simpa using h);simpa using this
  .have:=List.not_of_lt_findIdx (p:=g) (xs:=List.range n) hi;simpa using this
 .rename_i h;refine .inl ⟨rfl,λk hk=>?_⟩;have:=List.not_of_lt_findIdx (p:=g) (xs:=List.range n) (i:=k) (by omega);simpa using this
def GM {n:Nat}{g:Nat->Bool}(h:∀k,k<n->g k=false):ml n g=-1:=by
 rcases GL n g with⟨h1,_⟩|⟨k,hk,_,h2,_⟩
 .exact h1
 .rw[h k hk] at h2;cases h2
def GN {n k:Nat}{g:Nat->Bool}(hk:k<n)(h:g k=true)(hj:∀i,i<k->g i=false):ml n g=k:=by
 rcases GL n g with⟨_,h1⟩|⟨m,hm,h1,h2,h3⟩
 .rw[h1 k hk] at h;cases h
 .rcases Nat.lt_trichotomy m k with h4|h4|h4
  .rw[hj m h4] at h2;cases h2
  .rw[h1,h4]
  .rw[h3 k h4] at h;cases h
def My (n:Nat)(g:Nat->Bool):decide (0<=ml n g)=(List.range n).any g:=by
 rcases GL n g with⟨h1,h2⟩|⟨m,hm,h1,h2,h3⟩
 .rw[h1]
  symm
  simp;exact h2
 .rw[h1];simp;exact⟨m,hm,h2⟩
def ak2 (l:List Rule)(f:Nat)(caps:List D)(g:Nat->Bool)(hg:∀k (hk:k<l.length),aj T f (uE l[k]::caps) (.bool (g k)))(hl:l.length<=4294967296):
 aj T 189 [rules l,.clo f caps] (.int (ml l.length g)):=by
 refine zyw 113 aDn ?_;simp[Z2];refine .scan l.length (λk=>g k=false) (λk=>[.int 0,.int k]) (λ_=>[]) ?_ (λk hk hj ho=>?_) (λk hk hj ho=>?_) (λhj=>?_)
 .simp
 .have hw:=bq hk hl;simp[Xg,Is,hk,hw];refine⟨_,_,⟨rfl,rfl⟩,_,hg k hk,?_⟩;simp[ho,hw]
 .have he:=GN hk (by simpa using ho) hj;simp[Xg,Is,hk,he];refine⟨_,_,⟨rfl,rfl⟩,_,hg k hk,?_⟩;simp[ho]
 .have he:=GM hj;simp[Xg,Is,he]
def ak3 (l:List Int)(f:Nat)(caps:List D)(g:Nat->Bool)(hg:∀k (hk:k<l.length),aj T f (.int l[k]::caps) (.bool (g k)))(hl:l.length<=4294967296):
 aj T 221 [ints l,.clo f caps] (.int (ml l.length g)):=by
 refine zyw 108 aDo ?_;simp[Z3];refine .scan l.length (λk=>g k=false) (λk=>[.int 0,.int k]) (λ_=>[]) ?_ (λk hk hj ho=>?_) (λk hk hj ho=>?_) (λhj=>?_)
 .simp
 .have hw:=bq hk hl;simp[Xh,It,hk,hw,ints];refine⟨_,_,⟨rfl,rfl⟩,_,hg k hk,?_⟩;simp[ho,hw]
 .have he:=GN hk (by simpa using ho) hj;simp[Xh,It,hk,he,ints];refine⟨_,_,⟨rfl,rfl⟩,_,hg k hk,?_⟩;simp[ho]
 .have he:=GM hj;simp[Xh,It,he,ints]
def akZ (l:List Alter)(f:Nat)(caps:List D)(g:Nat->Bool)(hg:∀k (hk:k<l.length),aj T f (q5 l[k]::caps) (.bool (g k)))(hl:l.length<=4294967296):
 aj T 220 [alters l,.clo f caps] (.int (ml l.length g)):=by
 refine zyw 99 aDk ?_;simp[ZZ];refine .scan l.length (λk=>g k=false) (λk=>[.int 0,.int k]) (λ_=>[]) ?_ (λk hk hj ho=>?_) (λk hk hj ho=>?_) (λhj=>?_)
 .simp
 .have hw:=bq hk hl;simp[Xd,Ip,hk,hw];refine⟨_,_,⟨rfl,rfl⟩,_,hg k hk,?_⟩;simp[ho,hw]
 .have he:=GN hk (by simpa using ho) hj;simp[Xd,Ip,hk,he];refine⟨_,_,⟨rfl,rfl⟩,_,hg k hk,?_⟩;simp[ho]
 .have he:=GM hj;simp[Xd,Ip,he]
def akT (l:List Int)(f:Nat)(caps:List D)(g:Nat->Bool)(hg:∀k (hk:k<l.length),aj T f (.int l[k]::caps) (.bool (g k)))(hl:l.length<=4294967296):
 aj T 211 [ints l,.clo f caps] (.bool ((List.range l.length).any g)):=by
 refine zyw 107 aDh ?_;simp[ZW];refine⟨_,ak3 l f caps g hg hl,?_⟩;have:=My l.length g;simp[<-this]
def akQ (l:List Alter)(f:Nat)(caps:List D)(g:Nat->Bool)(hg:∀k (hk:k<l.length),aj T f (q5 l[k]::caps) (.bool (g k)))(hl:l.length<=4294967296):
 aj T 207 [alters l,.clo f caps] (.bool ((List.range l.length).any g)):=by
 refine zyw 98 aDe ?_;simp[ZT];refine⟨_,akZ l f caps g hg hl,?_⟩;have:=My l.length g;simp[<-this]
def sP (cs:List Cell)(t:Tm):Cell:=if(nP t).2=0 then bC 8 cs t else dT
def acp {t:Tm}(h:(nP t).2=0):cS 8 t<=60/\bW 8 t=((nP t).1,0):=by
 unfold nP at h ⊢;split at h
 .cases h
 .rename_i hm;rw[if_neg hm];exact⟨by omega,by rw[<-h]⟩
def aAY (t:Tm)(cs:List Cell)(ht:t.OK):aj T 159 [dL t,cells cs] (cR (sP cs t)):=by
 refine zyw 121 aDB ?_;simp[aad,sP];refine⟨_,akn t ht,?_⟩;by_cases h:(nP t).2=0
 .obtain⟨h1,h2⟩:=acp h;simp[h];refine⟨_,akp 8 cs t _ ht h1 h2,?_⟩;simp
  try rfl
 .simp[h]
  try rfl
def Uy:List Int:=[6,7,10,12,13,14,15,16,20,21]
def sk (ask:Int):Int×Bool:=if ask<0\/22<=ask then(0,false) else if hasB Uy ask then(0,true) else(1,true)
def VG (ask:Int):aj T 155 [.int ask] (.tup [.int (sk ask).1,.bool (sk ask).2]):=by
 refine zyw 103 aBS ?_;simp[Yz,sk];by_cases h0:ask<0
 .simp[h0]
 by_cases h1:22<=ask
 .simp[h0,h1]
 simp[h0,h1];refine⟨_,xN Uy ask (by decide),?_⟩;cases h:hasB Uy ask<;>simp[h]
def MU:Tm:=⟨0,0,[]⟩
def xo (o:Order)(ask:Int)(k:Nat):Bool:=decide ((o.rules.getD k default).ask=ask)
def II (o:Order)(i:Int):Tm:=(o.rules.getD i.toNat default).term
def findF (o:Order)(ask:Int):Tm×Int:=
 if(sk ask).2=false then(MU,1) else if ml o.rules.length (xo o ask)<0 then(MU,4) else
    if(nP (II o (ml o.rules.length (xo o ask)))).2≠0\/(nP (II o (ml o.rules.length (xo o ask)))).1≠(sk ask).1 then(MU,11) else(II o (ml o.rules.length (xo o ask)),0)
def aj0 {o:Order}(ho:o.OK){m:Nat}(hm:m<o.rules.length):o.rules[m].term.OK:=(ho.2.2 _ (bQ hm)).2
def Ux:MU.OK:=by
 exact .mk 0 0 [] (by unfold aX;omega) (by unfold aX;omega) (by decide) (λ_ h=>by cases h)
def apf {o:Order}(ho:o.OK)(ask:Int):(findF o ask).1.OK:=by
 unfold findF;split
 .exact Ux
 split
 .exact Ux
 split
 .exact Ux
 .rename_i h _;rcases GL o.rules.length (xo o ask) with⟨h1,h2⟩|⟨m,hm,h1,h2,h3⟩
  .exact absurd (by rw[h1];decide) h
  .rw[h1];simp[II,hm];exact aj0 ho hm
def apd (r:Rule)(ask:Int):aj T 190 [uE r,.ref (.int ask)] (.bool (decide (r.ask=ask))):=by
 refine zyw 112 aBT ?_;simp[YB]
def ax4 (o:Order)(ask:Int)(ho:o.OK)(hl:o.rules.length<=4294967296):aj T 158 [kj o,.int ask] (.tup [dL (findF o ask).1,.int (findF o ask).2]):=by
 refine zyw 111 aBU ?_;simp[YA,findF];refine⟨_,VG ask,?_⟩;cases h0:(sk ask).2
 .simp[h0]
  try rfl
 simp[h0];refine⟨_,ak2 o.rules 190 [.ref (.int ask)] (xo o ask) (λk hk=>by simpa [xo,hk] using apd o.rules[k] ask) hl,?_⟩;rcases GL o.rules.length (xo o ask) with⟨h1,h2⟩|⟨m,hm,h1,h2,h3⟩
 .rw[h1];simp
  try rfl
 .rw[h1];have zk:¬((m:Int)<0):=by omega
  have htm:o.rules[m].term.OK:=aj0 ho hm;simp[hm,II,zk];refine⟨_,akn _ htm,?_⟩;by_cases h4:(nP o.rules[m].term).2=0<;>by_cases h5:(nP o.rules[m].term).1=(sk ask).1<;>simp[h4,h5]<;>try rfl
def qJ (o:Order)(ask:Int)(cs:List Cell):Cell×Int:=
 if(findF o ask).2≠0 then(dT,(findF o ask).2) else
    (if(sk ask).1=0/\(sP cs (findF o ask).1).known=true then⟨true,min (max (sP cs (findF o ask).1).n 0) 20000⟩ else sP cs (findF o ask).1,0)
def ax2 (o:Order)(ask:Int)(cs:List Cell)(ho:o.OK)(hl:o.rules.length<=4294967296):aj T 119 [kj o,.int ask,cells cs] (.tup [cR (qJ o ask cs).1,.int (qJ o ask cs).2]):=by
 refine zyw 110 aBR ?_;simp[Yy];refine⟨_,ax4 o ask ho hl,?_⟩;have hf:(findF o ask).1.OK:=apf ho ask;by_cases h:(findF o ask).2=0
 .simp[h,qJ];refine⟨_,aAY _ cs hf,_,VG ask,?_⟩;generalize sP cs (findF o ask).1=c;obtain⟨kn,n⟩:=c;by_cases h1:(sk ask).1=0
  .cases kn
   .simp[h1,cR]
   .by_cases h2:n<0
    .have:min (max n 0) 20000=0:=by omega
     simp[h1,cR,h2,this];rfl
    .by_cases h3:20000<n
     .have:min (max n 0) 20000=20000:=by omega
      simp[h1,cR,h2,h3,this];rfl
     .have:min (max n 0) 20000=n:=by omega
      simp[h1,cR,h2,h3,this];rfl
  .simp[h1,cR]
 .simp[h,qJ]
  try rfl
def ajP (b:Bool):aj T 209 [.bool b] (cR (ew b)):=by
 refine zyw 101 aDb ?_;cases b<;>simp[ZQ,ew]<;>rfl
def iW (kind sign:Int)(x:Fact):Bool:=decide (x.kind=kind)&&decide (x.at_=sign)
def cB (f:File)(kind sign:Int):Cell:=match f.facts.find? (iW kind sign) with|none=>dT|some x=>ew (decide (x.n≠0))
def yT {α:Type}{p:α->Bool}:∀{l:List α} {k:Nat} (hk:k<l.length),p l[k]=true->(∀j (hj:j<k),p (l[j]'(by omega))=false)->l.find? p=some l[k]
 |a::l,0,hk,h,hj=>by simp at h;simp[h]
 |a::l,k+1,hk,h,hj=>by
  have h0:=hj 0 (by omega);simp at h0;simp only[PD,h0,List.getElem_cons_succ];exact yT (by simpa using hk) (by simpa using h) (λj bA=>by simpa using hj (j+1) (by omega))
def Cq {α:Type}{p:α->Bool}{l:List α}(h:∀j (hj:j<l.length),p l[j]=false):l.find? p=none:=by
 rw[xS];intro x hx;obtain⟨j,hj,rfl⟩:=fw hx;rw[h j hj];decide
def IC (f:File)(kind sign:Int)(hl:f.facts.length<=4294967296):aj T 210 [cr f,.int kind,.int sign] (cR (cB f kind sign)):=by
 refine zyw 102 aC7 ?_;simp[ZN];refine .scan f.facts.length (λk=>iW kind sign (f.facts.getD k default)=false) (λk=>[.int k]) (λ_=>[cR dT]) ?_ (λk hk hj ho=>?_) (λk hk hj ho=>?_) (λhj=>?_)
 .simp
 .have hw:=bq hk hl;simp[hk,iW] at ho;by_cases h1:f.facts[k].kind=kind<;>by_cases h2:f.facts[k].at_=sign
  .exact absurd h2 (ho h1)
  all_goals simp[W9,Ik,hk,hw,h1,h2]
 .have hw:=bq hk hl;have hf:cB f kind sign=ew (decide (f.facts[k].n≠0)):=by
   unfold cB;rw[yT hk (by simpa [hk] using ho) (λj bA=>by have:=hj j bA;simpa [show j<f.facts.length by omega] using this)]
  simp[hk,iW] at ho;simp[W9,Ik,hk,hw,ho,hf];refine⟨_,ajP _,?_⟩;simp
  try rfl
 .have hf:cB f kind sign=dT:=by
   unfold cB;rw[Cq (λj bA=>by have:=hj j bA;simpa [bA] using this)]
  simp[W9,Ik,hf]
  try rfl
def gG (r:Realm)(c:Int):Int:=if aC c r.cities.length=true then(r.cities.getD c.toNat default).order else-1
def rV (r:Realm)(c:Int):aj T 121 [aV r,.int c] (.int (gG r c)):=by
 refine zyw 100 aCV ?_;simp[ZB,gG];refine⟨_,gl c r.cities.length,?_⟩;cases h:aC c r.cities.length
 .simp[h]
 .simp[aC] at h;have h1:c.toNat<r.cities.length:=by omega
  simp[h,h1]
def vw (day:Int)(l:List Sign):List Sign:=l.takeWhile λs=>decide (s.day<=day)
def upA (day:Int)(l:List Act):List Act:=l.takeWhile λs=>decide (s.day<=day)
def sE (n:Nat)(a:Alter):Bool:=decide (a.at_<=(n:Int))
def ma (n:Nat)(x:Fact):Bool:=aC x.at_ n
def bT (f:File)(day:Int):File:=
 ⟨f.bill,vw day f.signs,f.alters.filter (sE (vw day f.signs).length),upA day f.acts,f.facts.filter (ma (vw day f.signs).length)⟩
def Pk {α:Type}(p:α->Bool):∀(l:List α),∃m,m<=l.length/\l.takeWhile p=l.take m/\(∀k (hk:k<l.length),k<m->p l[k]=true)/\(∀hk:m<l.length,p l[m]=false)
 |[]=>⟨0,by simp,by simp,λk hk=>by simp at hk,λhk=>by simp at hk⟩
 |a::l=>by
  by_cases h:p a=true
  .obtain⟨m,h1,h2,h3,h4⟩:=Pk p l;refine⟨m+1,by simp;omega,by simp[h,h2],λk hk hm=>?_,λhk=>?_⟩
   .cases k with
    |zero=>simpa using h
    |succ k=>simpa using h3 k (by simpa using hk) (by omega)
   .simpa using h4 (by simpa using hk)
  .refine⟨0,by simp,by simp[h],λk hk hm=>by omega,λhk=>by simpa using h⟩
def D8 {α:Type}(p:α->Bool)(l:List α){k:Nat}(hk:k<l.length):(l.take (k+1)).filter p=(l.take k).filter p++if p l[k] then[l[k]] else[]:=by
 rw[iS hk,PB]
 congr 1
 cases h:p l[k]<;>simp[h]
def Ez (b:Bill)(w x y z:D):D:=.agg [.int b.drawer,.int b.drawee,.int b.payee,.int b.sum,.int b.currency,.int b.tenor.kind,.int b.tenor.n,.int b.tenor.unit,.int b.day,.int b.city,.int b.pay,.int b.need,.int b.rate,.int b.flags,.int b.parts,w,x,y,z]
def pS {α:Type}(l:List α):D:=match l with|[]=>.list []|_=>.none
@[simp] def aJH {α:Type}:pS ([]:List α)=.list []:=rfl
@[simp] def aJG {α:Type}(l:List α)(x:α):pS (l++[x])=.none:=by cases l<;>rfl
def Xr (f:File)(day:Int)(h1:f.signs.length<=4294967295)(h2:f.acts.length<=4294967295)(h3:f.alters.length<=4294967295)(h4:f.facts.length<=4294967295):aj T 38 [cr f,.int day] (cr (bT f day)):=by
 refine zyw 90 aC6 ?_;simp[ZM];obtain⟨m,hm,hS,hS1,vZ⟩:=Pk (λs:Sign=>decide (s.day<=day)) f.signs;obtain⟨n,hn,hA,hA1,hA2⟩:=Pk (λs:Act=>decide (s.day<=day)) f.acts;refine aK.forRounds m (λk=>[.int k]) (λk=>[signs (f.signs.take k),Ez f.bill (pS (f.signs.take k)) (.list []) (.list []) (.list [])]) ?_ (λk hk=>?_) ?_
 .simp[Ez,signs]
  try rfl
 .have bn:k<f.signs.length:=by omega
  have hw:=bq bn (by omega);have hd:=hS1 k bn hk;simp at hd;have gy:¬day<f.signs[k].day:=by omega
  have hle:(k:Int)+1<=4294967296:=by omega
  have ht:=iS bn;rw[ht];have hlen:(f.signs.take k).length=k:=by simp;omega
  generalize f.signs.take k=A at*;simp[W5,Ig,bn,hw,gy,hlen];exact⟨hle,by simp[signs],rfl⟩
 have hSl:(f.signs.take m).length<=4294967295:=by rw[dY];omega
 have hAt:bT f day=⟨f.bill,f.signs.take m,f.alters.filter (sE (f.signs.take m).length),f.acts.take n,f.facts.filter (ma (f.signs.take m).length)⟩:=by
  unfold bT vw upA;rw[hS,hA]
 rw[hAt];generalize f.signs.take m=S at*;have hAl:(f.acts.take n).length<=4294967295:=by rw[dY];omega
 by_cases fG:m<f.signs.length
 case' pos=>
  have hd:=vZ fG;simp at hd;simp[W5,Ig,fG,hd];generalize D.bool true=bb
 case' neg=>
  have F7:m=f.signs.length:=by omega
  simp[W5,Ig,fG,F7];generalize D.bool false=bb
 all_goals
  refine aK.forRounds n (λk=>[.int k]) (λk=>[acts (f.acts.take k),Ez f.bill (pS S) (.list []) (pS (f.acts.take k)) (.list [])]) ?_ (λk hk=>?_) ?_
  .simp[acts]
  .have bn:k<f.acts.length:=by omega
   have hw:=bq bn (by omega);have hd:=hA1 k bn hk;simp at hd;have gy:¬day<f.acts[k].day:=by omega
   have hle:(k:Int)+1<=4294967296:=by omega
   have ht:=iS bn;rw[ht];have hlen:(f.acts.take k).length=k:=by simp;omega
   generalize f.acts.take k=A at*;simp[W6,Ih,bn,hw,gy,hlen];exact⟨hle,by simp[acts],rfl⟩
  generalize f.acts.take n=A at*;by_cases me:n<f.acts.length
  case' pos=>
   have hd:=hA2 me;simp at hd;simp[W6,Ih,me,hd];generalize D.bool true=bc
  case' neg=>
   have mf:n=f.acts.length:=by omega
   simp[W6,Ih,me,mf];generalize D.bool false=bc
  all_goals
   refine aK.forRounds f.alters.length (λk=>[.int k]) (λk=>[Ez f.bill (pS S) (pS ((f.alters.take k).filter (sE S.length))) (pS A) (.list []),alters ((f.alters.take k).filter (sE S.length))]) ?_ (λk hk=>?_) ?_
   .simp[alters]
   .have hw:=bq hk (by omega);have ht:=D8 (sE S.length) f.alters hk;rw[ht];have hlen:((f.alters.take k).filter (sE S.length)).length<=k:=fb (kJ _ _) (by simp;omega);generalize (f.alters.take k).filter (sE S.length)=B at*;by_cases hd:f.alters[k].at_<=(S.length:Int)
    .simp[W7,Ii,sE,hk,hw,hd];exact⟨by omega,rfl,by simp[alters]⟩
    .simp[W7,Ii,sE,hk,hw,hd]
   simp[W7,Ii];generalize f.alters.filter (sE S.length)=B at*;refine aK.forRounds f.facts.length (λk=>[.int k]) (λk=>[Ez f.bill (pS S) (pS B) (pS A) (pS ((f.facts.take k).filter (ma S.length))),facts ((f.facts.take k).filter (ma S.length))]) ?_ (λk hk=>?_) ?_
   .simp[facts]
   .have hw:=bq hk (by omega);have ht:=D8 (ma S.length) f.facts hk;rw[ht];have hlen:((f.facts.take k).filter (ma S.length)).length<=k:=fb (kJ _ _) (by simp;omega);generalize (f.facts.take k).filter (ma S.length)=C at*;cases hd:aC f.facts[k].at_ S.length
    .simp[W8,Ij,ma,hk,hw,hd];refine⟨_,rW _ _,?_⟩;simp[hd,hw]
    .simp[W8,Ij,ma,hk,hw,hd];refine⟨_,rW _ _,?_⟩;simp[hd,hw];exact⟨by omega,rfl,by simp[facts]⟩
   simp[W8,Ij];rfl
def Df:List Int->Int
 |[]=>-1
 |x::l=>l.foldl min x
def alc (x:Int)(l:List Int)(hl:l.length<4294967296):aj T 82 [ints (x::l)] (.int (Df (x::l))):=by
 refine zyw 134 aDr ?_;have h0:¬((l.length:Int)+1<1):=by omega
 simp[Z6,h0,Df,ints];refine aK.forRounds l.length (λk=>[.int ((l.take k).foldl min x),.int ((k:Int)+1)]) (λk=>[]) ?_ (λk hk=>?_) ?_
 .simp
 .have hw:i64.wrap ((k:Int)+1+1)=(k:Int)+1+1:=aQ (by omega);rw[iS hk,sw];generalize (l.take k).foldl min x=y;have ht:((k:Int)+1).toNat=k+1:=by omega
  have af:(k:Int)+1<(l.length:Int)+1:=by omega
  simp[ajL,Ox,hk,hw,ht,af];refine⟨by omega,?_⟩;by_cases h:l[k]<y
  .simp[h];omega
  .simp[h];omega
 .simp[ajL,Ox]
def nw (f:File)(n:Nat):List Int:=if f.bill.tenor.kind=1 then((f.signs.take n).filter (λs=>decide (s.kind=1))).map (·.day) else[]
def l0 (f:File)(n:Nat):List Int:=if f.bill.tenor.kind=1 then((f.acts.take n).filter (λs=>decide (s.kind=1))).map (·.day) else[]
def xt (f:File)(a:Act):Bool:=decide (f.bill.tenor.kind=0)&&decide (a.kind=2)
def rZ (f:File):Int:=match f.acts.find? (xt f) with|some a=>a.day|none=>Df (nw f f.signs.length++l0 f f.acts.length)
def azR (f:File)(h1:f.signs.length<=100000)(h2:f.acts.length<=100000):aj T 42 [cr f] (.int (rZ f)):=by
 refine zyw 133 aC8 ?_;simp[ZO];refine aK.forRounds f.signs.length (λk=>[.none,.int k]) (λk=>[ints (nw f k)]) ?_ (λk hk=>?_) ?_
 .simp[nw,ints]
 .have hw:=bq hk (by omega);have hs:nw f (k+1)=nw f k++if f.bill.tenor.kind=1/\f.signs[k].kind=1 then[f.signs[k].day] else[]:=by
   unfold nw;by_cases h:f.bill.tenor.kind=1
   .simp only[if_pos h,D8 _ _ hk,py,h,true_and]
    congr 1
    by_cases h':f.signs[k].kind=1<;>simp[h']
   .simp[h]
  have hlen:(nw f k).length<=k:=by
   unfold nw;split
   .rw[dX];exact fb (kJ _ _) (by simp;omega)
   .simp
  rw[hs];generalize nw f k=A at*;by_cases hc:f.bill.tenor.kind=1/\f.signs[k].kind=1
  .simp[Xa,Il,hk,hw,hc];exact⟨by omega,by simp[ints]⟩
  .simp[Xa,Il,hk,hw,hc]
 .have hlS:(nw f f.signs.length).length<=100000:=by
   unfold nw;split
   .rw[dX];exact fb (kJ _ _) (by simp;omega)
   .simp
  have hE:rZ f=match f.acts.find? (xt f) with|some a=>a.day|none=>Df (nw f f.signs.length++l0 f f.acts.length):=rfl
  generalize nw f f.signs.length=A at*;simp[Xa,Il];refine aK.scan f.acts.length (λk=>xt f (f.acts.getD k default)=false) (λk=>[.int 0,.none,.int k]) (λk=>[ints (A++l0 f k)]) ?_ (λk hk hj ho=>?_) (λk hk hj ho=>?_) (λhj=>?_)
  .simp[l0,ints]
  .have hw:=bq hk (by omega);have hs:l0 f (k+1)=l0 f k++if f.bill.tenor.kind=1/\f.acts[k].kind=1 then[f.acts[k].day] else[]:=by
        unfold l0;by_cases h:f.bill.tenor.kind=1
        .simp only[if_pos h,D8 _ _ hk,py,h,true_and]
         congr 1
         by_cases h':f.acts[k].kind=1<;>simp[h']
        .simp[h]
   have hlen:(l0 f k).length<=k:=by
        unfold l0;split
        .rw[dX];exact fb (kJ _ _) (by simp;omega)
        .simp
   rw[hs];generalize l0 f k=B at*;simp[xt,hk] at ho;by_cases hc:f.bill.tenor.kind=1/\f.acts[k].kind=1
   .simp[Io,Az,hk,hw,hc];exact⟨by omega,by simp[ints]⟩
   .have hn:¬(f.bill.tenor.kind=0/\f.acts[k].kind=2):=λh=>ho h.1 h.2;simp[Io,Az,hk,hw,hc,hn]
  .have hf:rZ f=f.acts[k].day:=by
        rw[hE,yT hk (by simpa [hk] using ho) (λj bA=>by have:=hj j bA;simpa [show j<f.acts.length by omega] using this)]
   simp[xt,hk] at ho;simp[Io,Az,hk,ho,hf]
  .have hf:rZ f=Df (A++l0 f f.acts.length):=by
        rw[hE,Cq (λj bA=>by have:=hj j bA;simpa [bA] using this)]
   have hlA:(l0 f f.acts.length).length<=100000:=by
        unfold l0;split
        .rw[dX];exact fb (kJ _ _) (by simp;omega)
        .simp
   rw[hf];have hL:(A++l0 f f.acts.length).length<=200000:=by rw[mG];omega
   generalize A++l0 f f.acts.length=L at*;cases L with
   |nil=>simp[Io,Az,Df,ints]
   |cons x l=>
    have ay:¬((l.length:Int)+1=0):=by omega
    simp[Io,Az,ay];exact alc x l (by simp at hL;omega)
def iU (g:Nat->Cell):D:=.list ((List.range 20).map λi=>cR (g i))
def ach {g g':Nat->Cell}(h:∀i,i<20->g i=g' i):iU g=iU g':=by
 unfold iU
 congr 1
 exact um λi hi=>by rw[h i (by simpa using hi)]
def aci (g:Nat->Cell)(k:Nat)(c:Cell):D.list ((iU g).l.set k (cR c))=iU (λi=>if i=k then c else g i):=by
 unfold iU
 congr 1
 show((List.range 20).map λi=>cR (g i)).set k (cR c)=_;apply PA
 .simp
 .intro i h1 h2;simp at h2;rw[List.getElem_set];by_cases h:k=i
  .simp[h]
  .have h':¬i=k:=λe=>h e.symm;simp[h,h']
@[simp] def aHA (g:Nat->Cell):(iU g).l.length=20:=by
  show((List.range 20).map λi=>cR (g i)).length=20;simp
def JJ (g:Nat->Cell){k:Nat}(hk:k<20):(iU g).l[k]?.getD D.none=cR (g k):=by
 show((List.range 20).map λi=>cR (g i))[k]?.getD D.none=cR (g k);simp[hk]
def amY (g:Nat->Cell){k:Nat}(hk:k<(iU g).l.length):(iU g).l[k]=cR (g k):=by
 have h:=JJ g (k:=k) (by simpa using hk);rw[aY hk] at h;exact h
def am0 (g:Nat->Cell)(k:Nat)(c:Cell):(iU g).l.set k (cR c)=(iU (λi=>if i=k then c else g i)).l:=congrArg D.l (aci g k c)
def amZ (g:Nat->Cell):D.list (iU g).l=iU g:=rfl
@[simp] def aLr (x:Cell)(b:Bool)(n:Int):xw (cR x) 0 (D.agg [D.bool b,D.int n])=cR ⟨b,n⟩:=zyz
def Cp {α:Type}(l:List (Int×α))(val:α->Cell)(g0:Nat->Cell)(i:Nat):Cell:=match l.find? (λp=>decide (p.1=(i:Int))) with|some p=>val p.2|none=>g0 i
def tG {α:Type}(enc:α->D)(p:Int×α):D:=.tup [.int p.1,enc p.2]
def agc {α:Type}{J o:Nat}{ps cO:List Nat}{a:PC}{O:Env}{Q:Out->Prop}(l:List (Int×α))(enc:α->D)(val:α->Cell)(g0:Nat->Cell)
 (nd:∀p q,p∈l->q∈l->p.1=q.1->p=q) (Xx:∀p,p∈l->0<=p.1) (he:O.o J=.tup [.list [],.map (l.map λp=>(.int p.1,enc p.2))]) (h0:O.o o=iU g0)
 (step:∀p,p∈l->∀g done,aI T (rY [o] a) ((O.put ps (cO.map (tG enc p).tget) [o] [iU g]).setO J (.tup [.list (done++[tG enc p]),.map (l.map λp=>(.int p.1,enc p.2))])) (λy=>∃O',y=.next O'/\O'.o o=.list ((iU g).l.set p.1.toNat (cR (val p.2)))))
 (last:Q (.next (O.put [] [] [o] [iU (Cp l val g0)]))):aK T (.meach J ps cO [o] a) O Q:=by
 have oI:jm (.map (l.map λp=>((D.int p.1,enc p.2):D×D)))=l.map (tG enc):=by
  simp[jm,tG]
 refine .meachR _ he (λdone vo=>∃g:Nat->Cell,vo=[iU g]/\(∀p,p∈l->tG enc p∈done->g p.1.toNat=val p.2)/\∀i:Nat,(∀p,p∈l->tG enc p∈done->p.1≠i)->g i=g0 i) ⟨g0,by simp[h0],(λp _ h=>by cases h),λi _=>rfl⟩ (λdone x rest vo hp ⟨g,hv,kO,jw⟩=>?_) ⟨_,λdone hp vo ⟨g,hv,kO,jw⟩=>?_,last⟩
 .subst hv;rw[oI] at hp;have hx:x∈l.map (tG enc):=hp.subset (by simp);obtain⟨p,fJ,rfl⟩:=cd.mp hx;refine A7 _ (λy ⟨O',e,ho⟩=>⟨O',e,λi=>if i=p.1.toNat then val p.2 else g i,by simp[ho,aci],λq hq S5=>?_,λi hi=>?_⟩) (step p fJ g done)
  .have zn:=Xx q hq;have rv:=Xx p fJ;by_cases h:q.1=p.1
   .rw[nd q p hq fJ h];simp
   .show(if q.1.toNat=p.1.toNat then val p.2 else g q.1.toNat)=val q.2;rw[if_neg (by omega)];rcases dZ.mp S5 with h1|h1
    .exact kO q hq h1
    .simp[tG] at h1;exact absurd h1.1 h
  .have rv:=Xx p fJ;have dB:=hi p fJ (by simp);show(if i=p.1.toNat then val p.2 else g i)=g0 i;rw[if_neg (by omega)];exact jw i λq hq S5=>hi q hq (by simp[S5])
 .rw[hv,oI] at*
  congr 1
  refine ach λi hi=>?_;unfold Cp;cases hf:l.find? (λp=>decide (p.1=(i:Int))) with
  |some p=>
   have fJ:=Er hf;have Mj:p.1=(i:Int):=by simpa using PF hf
   have:=kO p fJ (hp.symm.subset (A4 fJ));simp only;rw[<-this,Mj];rfl
  |none=>
   refine jw i λp fJ _=>?_;have:=xS.mp hf p fJ;simpa using this
@[simp] def aKb (a b:Int):ji (D.int a) (D.int b)=decide (a=b):=by
  show((a==b)&&true)=decide (a=b);rw[Bool.and_true];by_cases h:a=b<;>simp[h]
def Fy (n k:Int):Bool:=decide (bS .and .i64 n k≠0)
def zI (s:Sign)(due:Int):Int:=if due=-1 then 0 else s.day-due
def P0 (f:File)(sign:Int):Bool:=(List.range f.alters.length).any λk=>decide ((f.alters.getD k default).at_<=sign)
def jx (c:Case):Int:=if c.holder<0 then 0 else c.holder
def pj (c:Case)(s:Sign):List (Int×Int):=[(0,c.file.bill.sum),(1,c.file.bill.parts),(2,c.file.bill.tenor.kind),(3,c.file.bill.rate),(4,s.kind),(5,c.defence),(6,zI s c.due)]
def qn (r:Realm)(c:Case)(s:Sign):List (Int×Bool):=[(7,Fy c.file.bill.flags 1),(8,decide (c.file.bill.payee=-1)),(9,Fy c.file.bill.flags 4),(10,Fy c.file.bill.flags 2),(11,decide (gG r c.file.bill.city≠gG r c.file.bill.pay)),(12,P0 c.file c.sign),(13,Fy s.flags 1),(14,decide (0<zI s c.due))]
def sT (r:Realm)(c:Case)(s:Sign):List Cell:=
 (pj c s).map (λp=>⟨true,p.2⟩)++(qn r c s).map (λp=>ew p.2)++
    [cB c.file 0 c.sign,cB c.file 1 c.sign,cB c.file 2 c.sign,cB c.file 3 (jx c),cB c.file 4 (jx c)]
@[simp] def aG9 (x:Case):kg 19 (fV x)=cr x.file:=zyz
@[simp] def aG7 (x:Case):kg 15 (fV x)=ed x.file.bill:=zyz
@[simp] def aG8 (x:File):kg 15 (cr x)=ed x.bill:=zyz
def mP (c:Case):Bool:=aC c.sign c.file.signs.length&&decide (-1<=c.holder)&&decide (jx c<c.file.signs.length)&&(decide (c.due=-1)||aC c.due 100001)
def gn (r:Realm)(c:Case):List Cell:=if mP c=true/\aC (c.file.signs.getD c.sign.toNat default).day 100001=true then sT r c (c.file.signs.getD c.sign.toNat default) else[]
def azS (r:Realm)(c:Case)(h2:c.file.facts.length<=100000)(h3:c.file.alters.length<=100000):aj T 186 [aV r,fV c] (cells (gn r c)):=by
 refine zyw 96 aDa ?_;cases hs:aC c.sign c.file.signs.length
 .have hv:gn r c=[]:=by unfold gn mP;rw[hs];simp
  rw[hv];simp[xA];refine⟨_,rW _ _,?_⟩;simp[hs];rfl
 by_cases hh:c.holder< -1
 .have hv:gn r c=[]:=by unfold gn mP;rw[hs];simp;intros;omega
  rw[hv];simp[xA,hh];exact⟨⟨_,rW _ _⟩,rfl⟩
 by_cases hm:(c.file.signs.length:Int)<=jx c
 .have hv:gn r c=[]:=by unfold gn mP;rw[hs];simp;intros;omega
  rw[hv];unfold jx at hm;simp[xA,hm];exact⟨⟨_,rW _ _⟩,rfl⟩
 by_cases hd:c.due≠-1/\aC c.due 100001=false
 .have hv:gn r c=[]:=by unfold gn mP;rw[hs];simp[hd]
  rw[hv];unfold jx at hm;obtain⟨bu,dv⟩:=hd;simp[xA,hh,hm,bu];refine⟨_,rW _ _,?_⟩;simp[hs,hh,hm,bu];refine⟨_,rW _ _,?_⟩;simp[hs,hh,hm,bu,dv];rfl
 have hcb:mP c=true:=by
  unfold mP;rw[hs];simp;refine⟨⟨by omega,by omega⟩,?_⟩;by_cases h:c.due=-1
  .exact .inl h
  .right;cases hb:aC c.due 100001
   .exact absurd ⟨h,hb⟩ hd
   .rfl
 have hlen:c.sign.toNat<c.file.signs.length:=by simp[aC] at hs;omega
 have eH:0<=c.sign/\c.sign<(c.file.signs.length:Int):=by simpa [aC] using hs
 obtain⟨s,Gt⟩:∃s:Sign,s=c.file.signs[c.sign.toNat]:=⟨_,rfl⟩
 have lN:c.file.signs.getD c.sign.toNat default=s:=by rw[Gt];simp[hlen]
 have hv:gn r c=if aC s.day 100001=true then sT r c s else[]:=by
  unfold gn;rw[lN,hcb];simp
 rw[hv];unfold jx at hm;by_cases FT:c.due=-1
 case' pos=>
  have aeb:(c.due=-1)=True:=eq_true FT;simp[xA,hh,hm,aeb];refine⟨_,rW _ _,?_⟩;simp[hs,hh,hm,aeb,hlen,<-Gt,eH]
 case' neg=>
  have FO:aC c.due 100001=true:=by
   cases hb:aC c.due 100001
   .exact absurd ⟨FT,hb⟩ hd
   .rfl
  simp[xA,hh,hm,FT];refine⟨_,rW _ _,?_⟩;simp[hs,hh,hm,FT];refine⟨_,rW _ _,?_⟩;simp[hs,hh,hm,FT,FO,hlen,<-Gt,eH]
 all_goals
  refine⟨_,rW _ _,?_⟩;cases pM:aC s.day 100001
  .simp[pM];rfl
  simp[pM,gd];refine agc (pj c s) D.int (λn=>⟨true,n⟩) (λ_=>dT) ?_ ?_ ?_ ?_ (λp hp g done=>?_) ?_
  .intro p q hp hq h;simp[pj] at hp hq;rcases hp with rfl|rfl|rfl|rfl|rfl|rfl|rfl<;>rcases hq with rfl|rfl|rfl|rfl|rfl|rfl|rfl<;>first|rfl|(simp at h)
  .intro p hp;simp[pj] at hp;rcases hp with rfl|rfl|rfl|rfl|rfl|rfl|rfl<;>simp
  .have Sg:(if c.due=-1 then(0:Int) else i64.wrap (s.day-c.due))=zI s c.due:=by
        unfold zI;by_cases h:c.due=-1
        .simp[h]
        .have FO:aC c.due 100001=true:=by
          cases hb:aC c.due 100001
          .exact absurd ⟨h,hb⟩ hd
          .rfl
         simp[aC] at FO pM;rw[if_neg h,if_neg h];exact aQ (by omega)
   simp[pj,gd,hlen,<-Gt];rw[<-Sg];by_cases h:c.due=-1<;>simp[h]
  .simp[iU];rfl
  .have hr:0<=p.1/\p.1<20:=by
        simp[pj] at hp;rcases hp with rfl|rfl|rfl|rfl|rfl|rfl|rfl<;>simp
   have hk:p.1.toNat<20:=by omega
   simp[azB,Xb,tG,JJ g hk];exact hr
  have asB:∀k (hk:k<c.file.alters.length),aj T 208 (q5 c.file.alters[k]::[.ref (fV c)]) (.bool (decide ((c.file.alters.getD k default).at_<=c.sign))):=λk hk=>by
   refine zyw 97 aC9 ?_;simp[ZP,hk]
  simp;refine⟨_,akQ c.file.alters _ _ _ asB (by omega),_,rV r _,_,rV r _,?_⟩;have Sg:(if c.due=-1 then(0:Int) else i64.wrap (s.day-c.due))=zI s c.due:=by
   unfold zI;by_cases h:c.due=-1
   .simp[h]
   .have FO:aC c.due 100001=true:=by
     cases hb:aC c.due 100001
     .exact absurd ⟨h,hb⟩ hd
     .rfl
    simp[aC] at FO pM;rw[if_neg h,if_neg h];exact aQ (by omega)
  have Sf:cells (sT r c s)=iU (λi=>if i=15 then cB c.file 0 c.sign else if i=16 then cB c.file 1 c.sign else if i=17 then cB c.file 2 c.sign else if i=18 then cB c.file 3 (jx c) else if i=19 then cB c.file 4 (jx c) else Cp (qn r c s) ew (Cp (pj c s) (λn=>⟨true,n⟩) (λ_=>dT)) i):=by
   rfl
  generalize Cp (pj c s) (λn=>(⟨true,n⟩:Cell)) (λ_=>dT)=g1 at*;refine agc (qn r c s) D.bool ew g1 ?_ ?_ ?_ ?_ (λp hp g done=>?_) ?_
  .intro p q hp hq h;simp[qn] at hp hq;rcases hp with rfl|rfl|rfl|rfl|rfl|rfl|rfl|rfl<;>rcases hq with rfl|rfl|rfl|rfl|rfl|rfl|rfl|rfl<;>first|rfl|(simp at h)
  .intro p hp;simp[qn] at hp;rcases hp with rfl|rfl|rfl|rfl|rfl|rfl|rfl|rfl<;>simp
  .simp[qn,gd,hlen,<-Gt,Fy];rw[<-Sg];by_cases h:c.due=-1<;>simp[h,P0]
  .simp
  .have hr:0<=p.1/\p.1<20:=by
        simp[qn] at hp;rcases hp with rfl|rfl|rfl|rfl|rfl|rfl|rfl|rfl<;>simp
   have hk:p.1.toNat<20:=by omega
   simp[azC,Xc,tG,JJ g hk];refine⟨_,ajP _,?_⟩;simp[JJ g hk];exact hr
  simp;generalize Cp (qn r c s) ew g1=g2 at*;have hho:(if c.holder<0 then D.int 0 else D.int c.holder)=D.int (jx c):=by
   unfold jx;split<;>rfl
  rw[hho];refine⟨_,IC _ _ _ (by omega),_,IC _ _ _ (by omega),_,IC _ _ _ (by omega),_,IC _ _ _ (by omega),_,IC _ _ _ (by omega),?_⟩;rw[Sf];simp only[amY,aAJ,am0,amZ];refine ach λi hi=>?_;by_cases Lw:i=15
  .subst Lw;simp
  by_cases Lx:i=16
  .subst Lx;simp
  by_cases Ly:i=17
  .subst Ly;simp
  by_cases Lz:i=18
  .subst Lz;simp
  by_cases h19:i=19
  .subst h19;simp
  simp[Lw,Lx,Ly,Lz,h19]
def Np (n:Nat)(x:Int):Bool:=decide (x<0)||decide ((n:Int)<=x)
def mS (r:Realm)(a q:Int)(l:List Int):Bool:=
 !(decide (a<0)||decide ((r.orders.length:Int)<=a)||decide (q<0)||decide (22<=q)||decide (l.length≠5))&& !((List.range l.length).any λk=>Np r.orders.length (l.getD k 0))
def apg (x n:Int):aj T 212 [.int x,.ref (.int n)] (.bool (decide (x<0)||decide (n<=x))):=by
 refine zyw 106 aBI ?_;by_cases h:x<0<;>simp[Yt,h]
def adj (r:Realm)(a q:Int)(l:List Int)(hl:l.length<=100000):aj T 187 [aV r,.int a,.int q,ints l] (.bool (mS r a q l)):=by
 refine zyw 105 aBJ ?_;by_cases h1:a<0
 .simp[xz,mS,h1]
 by_cases h2:(r.orders.length:Int)<=a
 .simp[xz,mS,h1,h2]
 by_cases h3:q<0
 .simp[xz,mS,h1,h2,h3]
 by_cases h4:22<=q
 .simp[xz,mS,h1,h2,h3,h4]
 by_cases h5:(l.length:Int)=5
 .have LB:l.length=5:=by omega
  simp[xz,h1,h2,h3,h4,LB];refine⟨_,akT l 212 [.ref (.int r.orders.length)] (λk=>Np r.orders.length (l.getD k 0)) (λk hk=>by simpa [Np,hk] using apg l[k] r.orders.length) (by omega),?_⟩;simp only[mS,LB];simp[h1,h2,h3,h4]
 .have LB:¬l.length=5:=by omega
  simp[xz,mS,h1,h2,h3,h4,LB];intro h;omega
def Rv {r:Realm}{a q:Int}{l:List Int}(h:mS r a q l=true):(0<=a/\a<r.orders.length)/\l.length=5/\(∀x,x∈l->0<=x/\x<r.orders.length)/\∀b:Int,0<=b->b<r.orders.length->mS r b q l=true:=by
 unfold mS at h ⊢;rw[au] at h;obtain⟨h1,h2⟩:=h;simp at h1;refine⟨by omega,h1.2,λx hx=>?_,λb jN dA=>?_⟩
 .obtain⟨k,hk,rfl⟩:=fw hx;simp[Np] at h2;have:=h2 k hk;simp[hk] at this;omega
 .rw[h2];simp;omega
def El (r:Realm):Prop:=∀o,o∈r.orders->o.choices.length<=100000/\∀ch,ch∈o.choices->0<=ch.by_/\ch.by_<5
def zJ (q:Int)(ch:Choice):Bool:=decide (ch.ask=q)&&decide (ch.by_≠0)
def qa (r:Realm)(a:Int):Order:=r.orders.getD a.toNat default
def gE (r:Realm)(a q:Int)(l:List Int):Int×Bool:=
 (match(qa r a).choices.find? (zJ q) with|some ch=>l.getD ch.by_.toNat 0|none=>a,match(qa r a).choices.find? (zJ q) with|some ch=>ch.whole|none=>false)
def aa5 (r:Realm)(ri:El r)(a q:Int)(l:List Int)(hl:l.length<=100000)(hf:mS r a q l=true):
 aj T 188 [aV r,.int a,.int q,ints l] (.tup [.int (gE r a q l).1,.bool (gE r a q l).2])/\0<=(gE r a q l).1/\(gE r a q l).1<r.orders.length:=by
 obtain⟨ha,hl5,hx,_⟩:=Rv hf;have CC:a.toNat<r.orders.length:=by omega
 obtain⟨bh,kN⟩:=ri _ (bQ CC);obtain⟨o,ho⟩:∃o,o=r.orders[a.toNat]:=⟨_,rfl⟩
 rw[<-ho] at bh kN;have SI:qa r a=o:=by rw[ho];simp[qa,CC]
 unfold gE;rw[SI];refine⟨?_,?_⟩
 .refine zyw 109 aBH ?_;simp[Ys];refine⟨_,adj r a q l hl,?_⟩;simp[hf,CC,<-ho,ha];refine aK.scan o.choices.length (λk=>zJ q (o.choices.getD k default)=false) (λk=>[.int 0,.bool false,.int k]) (λ_=>[]) ?_ (λk hk hj ax=>?_) (λk hk hj ax=>?_) (λhj=>?_)
  .simp
  .have hw:=bq hk (by omega);have hn:¬(o.choices[k].ask=q/\¬o.choices[k].by_=0):=by simpa [zJ,hk] using ax
   simp[Wy,HI,CC,<-ho,hk,hw,hn]
  .have lK:=yT hk (by simpa [hk] using ax) (λj bA=>by have:=hj j bA;simpa [show j<o.choices.length by omega] using this);rw[lK];have hc:o.choices[k].ask=q/\¬o.choices[k].by_=0:=by simpa [zJ,hk] using ax
   have hb:=kN _ (bQ hk);have FL:o.choices[k].by_.toNat<l.length:=by omega
   simp[Wy,HI,CC,<-ho,hk,hc,ints,FL];omega
  .have lK:=Cq (l:=o.choices) (p:=zJ q) (λj bA=>by have:=hj j bA;simpa [bA] using this);rw[lK];simp[Wy,HI,CC,<-ho]
 .cases lK:o.choices.find? (zJ q) with
  |none=>exact ha
  |some ch=>
   have hb:=kN _ (Er lK);have FL:ch.by_.toNat<l.length:=by omega
   simp[FL];exact hx _ (bQ FL)
def VM:∀(N:Nat) (l:List Int),l.Nodup->(∀x,x∈l->0<=x/\x<(N:Int))->l.length<=N
 |0,l,hn,h=>by
  cases l with
  |nil=>simp
  |cons a l=>have:=h a (by simp);omega
 |N+1,l,hn,h=>by
  by_cases hm:(N:Int)∈l
  .have h1:=VM N (l.erase (N:Int)) (hn.erase _) (λx hx=>by
    have da:=(hn.mem_erase_iff).mp hx;have:=h x da.2;have ay:=da.1;omega)
   rw[List.length_erase_of_mem hm] at h1;omega
  .have h1:=VM N l hn (λx hx=>by
    have:=h x hx;have ay:x≠(N:Int):=λe=>hm (e▸hx);omega)
   omega
def dp (l:List Int):Int:=l.getD (l.length-1) 0
def lT (r:Realm)(q:Int)(l:List Int):Nat->List Int->List Int×Int
 |0,p=>(p,0)
 |n+1,p=>
  if(gE r (dp p) q l).1=dp p then(p,0)
  else if(gE r (dp p) q l).2=false\/(hasB p (gE r (dp p) q l).1=true/\(qa r (gE r (dp p) q l).1).accepts=true) then(p++[(gE r (dp p) q l).1],0)
  else if hasB p (gE r (dp p) q l).1=true then(p++[(gE r (dp p) q l).1],12)
  else lT r q l n (p++[(gE r (dp p) q l).1])
def TO (r:Realm)(q:Int)(l:List Int)(n:Nat)(p:List Int):lT r q l (n+1) p=
 if(gE r (dp p) q l).1=dp p then(p,0)
 else if(gE r (dp p) q l).2=false\/(hasB p (gE r (dp p) q l).1=true/\(qa r (gE r (dp p) q l).1).accepts=true) then(p++[(gE r (dp p) q l).1],0)
 else if hasB p (gE r (dp p) q l).1=true then(p++[(gE r (dp p) q l).1],12)
 else lT r q l n (p++[(gE r (dp p) q l).1]):=rfl
def jQ (r:Realm)(a q:Int)(l:List Int):List Int×Int:=if mS r a q l=true/\l.getD 0 0=a then lT r q l r.orders.length [a] else([],1)
def ak9 (r:Realm)(ri:El r)(hn:r.orders.length<=100000)(a q:Int)(l:List Int)(hl:l.length<=100000):aj T 157 [aV r,.int a,.int q,ints l] (.tup [ints (jQ r a q l).1,.int (jQ r a q l).2]):=by
 refine zyw 104 aBG ?_;simp[Yr];refine⟨_,adj r a q l hl,?_⟩;cases hf:mS r a q l
 .simp[jQ,hf];rfl
 obtain⟨ha,hl5,hx,y5⟩:=Rv hf;have h0:0<l.length:=by omega
 by_cases ze:l[0]=a
 .have hE:jQ r a q l=lT r q l r.orders.length [a]:=by unfold jQ;rw[if_pos ⟨hf,by simp[h0,ze]⟩]
  rw[hE];simp[h0,ze,ints];refine aK.forLoop (α:=Nat×List Int) (λs vr vo=>vr=[.list [],.int 0,.none]/\vo=[ints s.2]/\s.2.Nodup/\(∀x,x∈s.2->0<=x/\x<(r.orders.length:Int))/\s.2≠[]/\s.1+s.2.length=r.orders.length+1/\lT r q l s.1 s.2=lT r q l r.orders.length [a]) (λs=>s.1) (r.orders.length,[a]) ?_ ?_
  .simp[ints];exact ha
  .rintro⟨n,p⟩ vr vo ⟨rfl,rfl,bp,cg,ay,hlen,F5⟩;simp only at*;have fJ:p.length<=r.orders.length:=VM _ p bp cg;have Gl:0<p.length:=Ep.mpr ay;obtain⟨m,rfl⟩:∃m,n=m+1:=⟨n-1,by omega⟩
   have af:p.length-1<p.length:=by omega
   have lM:dp p=p[p.length-1]:=by simp[dp,af]
   have zf:=cg _ (bQ af);rw[<-lM] at zf;obtain⟨RT,gB,gC⟩:=aa5 r ri (dp p) q l hl (y5 _ zf.1 zf.2);have Sr:((p.length:Int)-1).toNat=p.length-1:=by omega
   have Tw:i64.wrap ((p.length:Int)-1)=(p.length:Int)-1:=aQ (by omega);rw[<-F5,TO];obtain⟨L,hL⟩:∃L,L=gE r (dp p) q l:=⟨_,rfl⟩
   rw[<-hL] at RT gB gC ⊢;obtain⟨to,whole⟩:=L;simp only at RT gB gC;have zw:to.toNat<r.orders.length:=by omega
   have SI:qa r to=r.orders[to.toNat]:=by simp[qa,zw]
   simp only[SI];simp[azr,Wx,Tw,Sr,af,<-lM,ints];refine⟨by omega,_,RT,?_⟩;by_cases h1:to=dp p
   .simp[h1]
   simp[h1];refine⟨_,xN p to (by omega),by omega,?_⟩;cases whole
   .simp
   cases h2:hasB p to
   .have cY:to∉p:=λhm=>by
     have:hasB p to=true:=by simp[hasB,hm]
     rw[h2] at this;cases this
    simp[h2];refine⟨m,by omega,p++[to],by simp,?_,?_,by simp,by simp;omega,rfl⟩
    .exact Jg.mpr ⟨bp,by simp,λx hx y hy=>by simp at hy;subst hy;exact λe=>cY (e▸hx)⟩
    .intro x hx;rcases dZ.mp hx with h|h
     .exact cg x h
     .simp at h;subst h;exact⟨gB,gC⟩
   .cases h3:r.orders[to.toNat].accepts<;>simp[h2,h3,zw]<;>omega
 .have hE:jQ r a q l=([],1):=by unfold jQ;rw[if_neg (by simp[h0,ze])]
  rw[hE];simp[h0,ze];rfl
def eN (f:File)(i:Int):Sign:=f.signs.getD i.toNat default
def mm (r:Realm)(forum:Int)(c:Case):List Int:=[forum,gG r (eN c.file c.sign).city,gG r c.file.bill.pay,gG r c.file.bill.city,gG r (r.firms.getD (eN c.file c.sign).who.toNat default).city]
def qK (r:Realm)(forum:Int)(c:Case):Prop:=(eN c.file c.sign).who<0\/(r.firms.length:Int)<=(eN c.file c.sign).who\/forum<0\/(r.orders.length:Int)<=forum
instance (r:Realm) (forum:Int) (c:Case):Decidable (qK r forum c):=by unfold qK;infer_instance
def jD (r:Realm)(forum:Int)(c:Case):List Int:=if qK r forum c then[] else if hasB (mm r forum c) (-1)=true then[] else mm r forum c
@[simp] def aHt (r:Realm)(x:Int):Bc (aV r) x=gG r x:=by
  unfold Bc gG aC;by_cases h:0<=x/\x<(r.cities.length:Int)
  .have hx:x.toNat<r.cities.length:=by omega
   rw[if_pos (by simpa using h),if_pos (by simpa using h)];simp[hx]
  .rw[if_neg (by simpa using h),if_neg (by simpa using h)]
def aiK (r:Realm)(forum:Int)(c:Case)(h1:c.sign.toNat<c.file.signs.length):VN [aV r,.int forum,fV c]=ints (jD r forum c):=by
 have hs:eN c.file c.sign=c.file.signs[c.sign.toNat]:=by simp[eN,h1]
 unfold VN jD;simp[h1];by_cases hb:qK r forum c
 .rw[if_pos (by simpa [qK,hs] using hb),if_pos hb];rfl
 .rw[if_neg (by simpa [qK,hs] using hb),if_neg hb];have Mq:(eN c.file c.sign).who.toNat<r.firms.length:=by unfold qK at hb;omega
  have afb:c.file.signs[c.sign.toNat].who.toNat<r.firms.length:=by rw[<-hs];exact Mq
  have kR:mm r forum c=[forum,gG r c.file.signs[c.sign.toNat].city,gG r c.file.bill.pay,gG r c.file.bill.city,gG r r.firms[c.file.signs[c.sign.toNat].who.toNat].city]:=by
   simp[mm,hs,afb]
  have cV:∀l:List Int,hasB l (-1)=true↔-1∈l:=λl=>by simp[hasB]
  rw[kR];simp[afb];split
  .rename_i h;rw[if_pos ((cV _).mpr (by simpa using h))];rfl
  .rename_i h;rw[if_neg (λh'=>h (by simpa using(cV _).mp h'))]
def ayu (r:Realm)(forum:Int)(c:Case)(h1:0<=c.sign/\c.sign<c.file.signs.length):aj T 156 [aV r,.int forum,fV c] (ints (jD r forum c)):=by
 have cC:c.sign.toNat<c.file.signs.length:=by omega
 rw[<-aiK r forum c cC];have hs:eN c.file c.sign=c.file.signs[c.sign.toNat]:=by simp[eN,cC]
 refine aj.of_nsl rfl aBk aBl ?_;rw[aiK r forum c cC];by_cases hb:qK r forum c
 .refine .inr ⟨by simp[jD,hb];rfl,?_⟩;have fE:=hb;simp[qK,hs] at fE;simp[O6,h1,cC]
  intros;omega
 have sY:jD r forum c=if hasB (mm r forum c) (-1)=true then[] else mm r forum c:=by unfold jD;rw[if_neg hb]
 have fE:=hb;simp[qK,hs] at fE;have hw:c.file.signs[c.sign.toNat].who.toNat<r.firms.length:=by omega
 have hC:=xN (mm r forum c) (-1) (by simp[mm]);cases hh:hasB (mm r forum c) (-1)<;>rw[hh] at hC<;>simp[mm,ints,hs,hw] at hC
 .refine .inl ⟨(mm r forum c).map .int,by simp[mm],by rw[sY,hh];rfl,?_⟩;simp[X8,h1,cC,hw];rw[if_neg (by omega)];refine⟨_,rV r _,_,rV r _,_,rV r _,by omega,_,rV r _,_,by simpa using hC,?_⟩;simp[mm,hs,hw]
 .refine .inr ⟨by rw[sY,hh];rfl,?_⟩;simp[O6,h1,cC,hw]
  intros
  refine⟨_,rV r _,_,rV r _,_,rV r _,by omega,_,rV r _,_,by simpa using hC,?_⟩;simp
structure Right (r:Realm):Prop where
 by_:El r
 len:r.orders.length<=100000
 ok:∀o,o∈r.orders->o.OK/\o.rules.length<=100000
structure FewS (f:File):Prop where
 signs:f.signs.length<=1000
 alters:f.alters.length<=1000
 acts:f.acts.length<=1000
 facts:f.facts.length<=1000
def akC {α:Type}(p:α->Bool)(l:List α):(l.takeWhile p).length<=l.length:=by
 obtain⟨m,h1,h2,_⟩:=Pk p l;rw[h2,dY];omega
def FewS.at_ {f:File}(h:FewS f)(day:Int):FewS (bT f day):=
 ⟨fb (akC _ _) h.1,fb (kJ _ _) h.2,fb (akC _ _) h.3,fb (kJ _ _) h.4⟩
def fi (c:Case):Case:={c with file:=bT c.file c.day}
@[simp] def aHk (x:File)(a0 a1 a2 a3 a4 a5 a6 a7 a8 a9 mJ mK a12 mL mM pA pB a17 qH:D)(s h d u y:Int):kg 24 (D.agg (dI [a0,a1,a2,a3,a4,a5,a6,a7,a8,a9,mJ,mK,a12,mL,mM,pA,pB,a17,qH,.int s,.int h,.int d,.int u,.int y] 0 [.int x.bill.drawer,.int x.bill.drawee,.int x.bill.payee,.int x.bill.sum,.int x.bill.currency,.int x.bill.tenor.kind,.int x.bill.tenor.n,.int x.bill.tenor.unit,.int x.bill.day,.int x.bill.city,.int x.bill.pay,.int x.bill.need,.int x.bill.rate,.int x.bill.flags,.int x.bill.parts,signs x.signs,alters x.alters,acts x.acts,facts x.facts]))=fV ⟨x,s,h,d,u,y⟩:=zyz
def alR (r:Realm)(c:Case)(hf:FewS c.file):aj T 154 [aV r,fV c] (.tup [fV (fi c),cells (gn r (fi c))]):=by
 refine zyw 95 aBj ?_;simp[X7];have h1:=hf.1;have h2:=hf.2;have h3:=hf.3;have h4:=hf.4;refine⟨_,Xr c.file c.day (by omega) (by omega) (by omega) (by omega),?_⟩;have LV:=hf.at_ c.day;have h5:=LV.4;have h6:=LV.2;simp;exact⟨azS r (fi c) (by show(bT c.file c.day).facts.length<=_;omega) (by show(bT c.file c.day).alters.length<=_;omega),(congrArg (kg 24) (ax7 (fi c) _ _ _ _ _ _ _ _ _ _ _ _ _ _ _ _ _ _ _ _ _ _ _ _)).trans (alH (fi c))⟩
def aEb {r:Realm}{c:Case}(h:gn r c≠[]):0<=c.sign/\c.sign<c.file.signs.length:=by
 unfold gn at h;split at h
 .rename_i hh;have h1:=hh.1;unfold mP at h1;simp[aC] at h1;omega
 .exact absurd rfl h
def afM (r:Realm)(ri:El r)(q:Int)(l:List Int)(hl:l.length<=100000)(y5:∀b:Int,0<=b->b<r.orders.length->mS r b q l=true):∀(n:Nat) (p:List Int),p≠[]->(∀x,x∈p->0<=x/\x<(r.orders.length:Int))->
 (lT r q l n p).1≠[]/\∀x,x∈(lT r q l n p).1->0<=x/\x<(r.orders.length:Int)
 |0,p,ay,hp=>⟨ay,hp⟩
 |n+1,p,ay,hp=>by
  have af:p.length-1<p.length:=by have:=Ep.mpr ay;omega
  have lM:dp p=p[p.length-1]:=by simp[dp,af]
  have zf:=hp _ (bQ af);rw[<-lM] at zf;obtain⟨_,ht⟩:=aa5 r ri (dp p) q l hl (y5 _ zf.1 zf.2)
  have aW:∀x,x∈p++[(gE r (dp p) q l).1]->0<=x/\x<(r.orders.length:Int):=λx hx=>by
   rcases dZ.mp hx with h|h
   .exact hp x h
   .simp at h;subst h;exact ht
  rw[TO];split
  .exact⟨ay,hp⟩
  split
  .exact⟨by simp,aW⟩
  split
  .exact⟨by simp,aW⟩
  .exact afM r ri q l hl y5 n _ (by simp) aW
def afL {r:Realm}(hr:Right r){a q:Int}{l:List Int}(hl:l.length<=100000)(h:(jQ r a q l).2=0):(jQ r a q l).1≠[]/\0<=dp (jQ r a q l).1/\dp (jQ r a q l).1<r.orders.length:=by
 unfold jQ at h ⊢;split at h
 .rename_i hh;rw[if_pos hh];obtain⟨ha,hl5,hx,y5⟩:=Rv hh.1;obtain⟨h1,h2⟩:=afM r hr.by_ q l hl y5 r.orders.length [a] (by simp) (λx hx=>by simp at hx;subst hx;exact ha);refine⟨h1,?_⟩;have af:(lT r q l r.orders.length [a]).1.length-1<(lT r q l r.orders.length [a]).1.length:=by have:=Ep.mpr h1;omega
  have lM:dp (lT r q l r.orders.length [a]).1=(lT r q l r.orders.length [a]).1[(lT r q l r.orders.length [a]).1.length-1]:=by simp[dp,af]
  rw[lM];exact h2 _ (bQ af)
 .cases h
def afN (r:Realm)(q:Int)(l:List Int):∀(n:Nat) (p:List Int),(lT r q l n p).1.length<=p.length+n
 |0,p=>by simp[lT]
 |n+1,p=>by
  rw[TO];split
  .simp
  split
  .simp
  split
  .simp
  .have:=afN r q l n (p++[(gE r (dp p) q l).1]);simp at this;omega
def aut (r:Realm)(a q:Int)(l:List Int):(jQ r a q l).1.length<=1+r.orders.length:=by
 unfold jQ;split
 .exact afN r q l _ [a]
 .simp
@[simp] def aLo (a b c d e x:D):dI [a,b,c,d,e] 2 [x]=[a,b,x,d,e]:=zyz
@[simp] def aLp (a b c d e x:D):dI [a,b,c,d,e] 3 [x]=[a,b,c,x,e]:=zyz
@[simp] def aLq (a b c d e x:D):dI [a,b,c,d,e] 4 [x]=[a,b,c,d,x]:=zyz
def Uv:Said:=⟨dT,-1,[],1⟩
def gT (r:Realm)(forum q:Int)(c:Case):Said×List Cell:=
 if gn r (fi c)=[] then(Uv,[]) else if(sk q).2=false then(Uv,[]) else if jD r forum (fi c)=[] then(Uv,[]) else
    (⟨dT,if(jQ r forum q (jD r forum (fi c))).2=0 then dp (jQ r forum q (jD r forum (fi c))).1 else-1,(jQ r forum q (jD r forum (fi c))).1,(jQ r forum q (jD r forum (fi c))).2⟩,gn r (fi c))
def aiL (r:Realm)(forum:Int)(c:Case):(jD r forum c).length<=5:=by
 unfold jD;split
 .simp
 split<;>simp[mm]
def alP (r:Realm)(hr:Right r)(forum q:Int)(c:Case)(hf:FewS c.file):aj T 118 [aV r,.int forum,.int q,fV c] (.tup [re (gT r forum q c).1,cells (gT r forum q c).2]):=by
 refine zyw 94 aBi ?_;simp[X6];refine⟨_,alR r c hf,?_⟩;by_cases hv:gn r (fi c)=[]
 .simp[hv,gT];exact⟨rfl,rfl⟩
 simp[hv,gT];refine⟨_,VG q,?_⟩;cases hq:(sk q).2
 .simp[hq];exact⟨rfl,rfl⟩
 simp[hq];refine⟨_,ayu r forum (fi c) (aEb hv),?_⟩;by_cases hp:jD r forum (fi c)=[]
 .simp[hp];exact⟨rfl,rfl⟩
 have fJ:=aiL r forum (fi c);have ay:ints (jD r forum (fi c))≠.list []:=λe=>hp (by simpa [ints] using e);simp[hp];generalize jD r forum (fi c)=l at*;refine⟨_,ak9 r hr.by_ hr.len forum q l (by omega),?_⟩;have hlen:=aut r forum q l;have F5:=afL hr (a:=forum) (q:=q) (l:=l) (by omega);have SN:=hr.len;generalize jQ r forum q l=L at*;obtain⟨path,err⟩:=L;simp only at*;by_cases he:err=0
 .obtain⟨h1,h2⟩:=F5 he;have Gl:=Ep.mpr h1;have Tw:i64.wrap ((path.length:Int)-1)=(path.length:Int)-1:=aQ (by omega);have Sr:((path.length:Int)-1).toNat=path.length-1:=by omega
  have af:path.length-1<path.length:=by omega
  have lM:dp path=path[path.length-1]:=by simp[dp,af]
  simp[he,Tw,Sr,af,<-lM];exact⟨by omega,rfl⟩
 .simp[he];rfl
def sF (r:Realm)(forum q:Int)(c:Case):Said:=
 if(gT r forum q c).1.order=-1 then(gT r forum q c).1
 else⟨(qJ (qa r (gT r forum q c).1.order) q (gT r forum q c).2).1,(gT r forum q c).1.order,(gT r forum q c).1.path,(qJ (qa r (gT r forum q c).1.order) q (gT r forum q c).2).2⟩
def alN {r:Realm}(hr:Right r)(forum q:Int)(c:Case):(gT r forum q c).1.order=-1\/(0<=(gT r forum q c).1.order/\(gT r forum q c).1.order<r.orders.length):=by
 unfold gT;split
 .exact .inl rfl
 split
 .exact .inl rfl
 split
 .exact .inl rfl
 .have fJ:=aiL r forum (fi c);have F5:=afL hr (a:=forum) (q:=q) (l:=jD r forum (fi c)) (by omega);show(if _ then _ else _)=_\/_;split
  .rename_i h;exact .inr (F5 h).2
  .exact .inl rfl
def abI (r:Realm)(hr:Right r)(forum q:Int)(c:Case)(hf:FewS c.file):aj T 76 [aV r,.int forum,.int q,fV c] (re (sF r forum q c)):=by
 refine zyw 93 aBd ?_;simp[XZ];refine⟨_,alP r hr forum q c hf,?_⟩;have ho:=alN hr forum q c;unfold sF;generalize gT r forum q c=S at*;obtain⟨s,cs⟩:=S;simp only at*;by_cases h:s.order=-1
 .obtain⟨⟨kn,n⟩,o,pth,e⟩:=s;simp only at h;subst h;simp;rfl
 .have h1:0<=s.order/\s.order<r.orders.length:=by omega
  have h2:s.order.toNat<r.orders.length:=by omega
  have h3:qa r s.order=r.orders[s.order.toNat]:=by simp[qa,h2]
  obtain⟨ax,hlen⟩:=hr.ok _ (bQ h2);simp[h,h1,h2,h3];refine⟨_,ax2 _ q cs ax (by omega),?_⟩;simp;rfl
def nM (r:Realm)(forum q:Int)(f:File)(day:Int):Said:=sF r forum q ⟨{f with facts:=[]},0,-1,-1,-1,day⟩
def abJ (r:Realm)(hr:Right r)(forum q:Int)(f:File)(day:Int)(hf:FewS f):aj T 40 [aV r,.int forum,.int q,cr f,.int day] (re (nM r forum q f day)):=by
 refine zyw 92 aBe ?_;simp[X0];refine⟨re (nM r forum q f day),abI r hr forum q ⟨{f with facts:=[]},0,-1,-1,-1,day⟩ ⟨hf.1,hf.2,hf.3,by simp⟩,?_⟩;simp
 try rfl
def qt (s:Said):Int:=if s.err≠0 then 0 else if s.cell.known=false then 2 else if s.cell.n≠0 then 1 else 0
def abK (s:Said):aj T 163 [re s] (.int (qt s)):=by
 refine zyw 130 aBh ?_;unfold qt;by_cases h1:s.err=0<;>cases h2:s.cell.known<;>by_cases h3:s.cell.n=0<;>simp[X5,h1,h2,h3]
def va (s:Said):Int:=if s.err≠0\/s.cell.known=false then-1 else s.cell.n
def alO (s:Said):aj T 39 [re s] (.int (va s)):=by
 refine zyw 132 aBg ?_;unfold va;by_cases h1:s.err=0<;>cases h2:s.cell.known<;>simp[X4,h1,h2]
def l5 (day:Int)(l:List Act)(es:List (D×D)):List (D×D):=l.foldl (λes a=>if a.kind=7/\a.day<=day then gd (.int a.at_) (.bool true) es else es) es
def aAM (day:Int)(l:List Act){k:Nat}(hk:k<l.length):l5 day (l.take (k+1)) []=if l[k].kind=7/\l[k].day<=day then gd (.int l[k].at_) (.bool true) (l5 day (l.take k) []) else l5 day (l.take k) []:=by
 unfold l5;rw[iS hk,sw];rfl
def aiS (k v:D):∀es:List (D×D),(gd k v es).length<=es.length+1
 |[]=>by simp[gd]
 |e::es=>by
  unfold gd;split
  .simp
  .have:=aiS k v es;simp;omega
def akl (day:Int):∀(l:List Act) (es:List (D×D)),(l5 day l es).length<=es.length+l.length
 |[],es=>by simp[l5]
 |a::l,es=>by
  have h:=akl day l (if a.kind=7/\a.day<=day then gd (.int a.at_) (.bool true) es else es);have hp:=aiS (.int a.at_) (.bool true) es;show(l5 day l (if a.kind=7/\a.day<=day then gd (.int a.at_) (.bool true) es else es)).length<=_;split at h
  .rename_i hc;rw[if_pos hc];simp;omega
  .rename_i hc;rw[if_neg hc];simp;omega
def aBa (f:File)(day:Int)(hl:f.acts.length<=100000):aj T 198 [cr f,.int day] (.map (l5 day f.acts [])):=by
 refine zyw 154 aDO ?_;simp[aap];refine aK.forRounds f.acts.length (λk=>[.int k]) (λk=>[.map (l5 day (f.acts.take k) [])]) ?_ (λk hk=>?_) ?_
 .simp[l5]
 .have hw:=bq hk (by omega);have hs:=aAM day f.acts hk;have hlen:=akl day (f.acts.take k) [];rw[hs];simp at hlen;generalize l5 day (f.acts.take k) []=es at*;by_cases hc:f.acts[k].kind=7/\f.acts[k].day<=day
  .simp[Xo,Iz,hk,hw,hc];omega
  .simp[Xo,Iz,hk,hw,hc]
 .simp[Xo,Iz]
def aiT {k v:D}:∀{es:List (D×D)} {e:D×D},e∈gd k v es->e.2=v\/e∈es
 |[],e,h=>by simp[gd] at h;exact .inl (by rw[h])
 |x::es,e,h=>by
  unfold gd at h;split at h
  .rcases cv.mp h with rfl|h
   .exact .inl rfl
   .exact .inr (by simp[h])
  .rcases cv.mp h with rfl|h
   .exact .inr (by simp)
   .rcases aiT h with h|h
    .exact .inl h
    .exact .inr (by simp[h])
def akm (day:Int):∀(l:List Act) (es:List (D×D)),(∀e,e∈es->e.2=.bool true)->∀e,e∈l5 day l es->e.2=.bool true
 |[],es,h,e,he=>h e he
 |a::l,es,h,e,he=>by
  refine akm day l (if a.kind=7/\a.day<=day then gd (.int a.at_) (.bool true) es else es) (λx hx=>?_) e he;split at hx
  .rcases aiT hx with h'|h'
   .exact h'
   .exact h x h'
  .exact h x hx
def afW {k d:D}:∀{es:List (D×D)},jR k es=some d->∃e,e∈es/\e.2=d
 |x::es,h=>by
  unfold jR at h;split at h
  .exact⟨x,by simp,by simpa using h⟩
  .obtain⟨e,h1,h2⟩:=afW h;exact⟨e,by simp[h1],h2⟩
def aAL (day:Int)(l:List Act)(k:D):(jR k (l5 day l [])).getD (.bool false)=.bool ((jR k (l5 day l [])).getD (.bool false)).b:=by
 cases h:jR k (l5 day l []) with
 |none=>rfl
 |some d=>
  obtain⟨e,h1,h2⟩:=afW h;have:=akm day l [] (λe h=>by cases h) e h1;rw[h2] at this;rw[this];rfl
def AH (f:File)(sign day:Int):Bool:=aC sign f.signs.length&&((jR (.int sign) (l5 day f.acts [])).getD (.bool false)).b
def aA9 (f:File)(sign day:Int)(hl:f.acts.length<=100000):aj T 164 [cr f,.int sign,.int day] (.bool (AH f sign day)):=by
 refine zyw 153 aDN ?_;by_cases h1:0<=sign<;>by_cases h2:sign<f.signs.length<;>simp[aao,h1,h2,AH,aC];refine⟨_,aBa f day hl,?_⟩;exact aAL day f.acts (.int sign)
def lj (f:File)(sign:Int)(n:Nat):Int:=(f.alters.take n).foldl (λs a=>if a.at_<=sign then a.sum else s) f.bill.sum
def ayf (f:File)(sign:Int)(hl:f.alters.length<=100000):aj T 199 [cr f,.int sign] (.int (lj f sign f.alters.length)):=by
 refine zyw 158 aBW ?_;simp[YD];refine aK.forRounds f.alters.length (λk=>[.int (lj f sign k),.int k]) (λk=>[]) ?_ (λk hk=>?_) ?_
 .simp[lj]
 .have hw:=bq hk (by omega);have hs:lj f sign (k+1)=if f.alters[k].at_<=sign then f.alters[k].sum else lj f sign k:=by
   unfold lj;rw[iS hk,sw];rfl
  rw[hs];generalize lj f sign k=s at*;by_cases hc:f.alters[k].at_<=sign<;>simp[ajy,N9,hk,hw,hc]
 .simp[ajy,N9]
def Mx (r:Realm)(c:Int):aj T 77 [aV r,.int c] (.bool (aC c r.cities.length)):=by
 refine zyw 136 aDw ?_;by_cases h1:0<=c<;>by_cases h2:c<r.cities.length<;>simp[Z8,h1,h2,aC]
def fc (n:Int):Bool:=decide (0<=n)&&decide (n<=100000)
def C6 (n:Int):aj T 78 [.int n] (.bool (fc n)):=by
 refine zyw 137 aDx ?_;by_cases h1:0<=n<;>by_cases h2:n<=100000<;>simp[Z9,h1,h2,fc]
def I1 (n:Int):aj T 161 [.int n] (.bool (fc n)):=by
 refine zyw 142 aBC ?_;by_cases h1:0<=n<;>by_cases h2:n<=100000<;>simp[Yn,h1,h2,fc]
def OP (t:Tenor):Bool:=decide (t.kind=0)||decide (t.kind=1)
def Jp (t:Tenor):aj T 79 [pH t] (.bool (OP t)):=by
 refine zyw 138 aDv ?_;by_cases h1:t.kind=0<;>simp[Z7,h1,OP]
def agG (y m d:Int):∃n:Int,aj T 218 [.int y,.int m,.int d] (.int n):=by
 by_cases h:m<3
 .refine⟨?w,?h⟩
  case h=>
   refine aj.of_tree (d:=.int ?w) rfl abN akv ?_;simp[Pb,h];exact rfl
 .refine⟨?v,?g⟩
  case g=>
   refine aj.of_tree (d:=.int ?v) rfl abN akv ?_;simp[Pb,h];exact rfl
def G0 (y m d:Int):Int:=(agG y m d).choose
def MX (y m d:Int):aj T 218 [.int y,.int m,.int d] (.int (G0 y m d)):=(agG y m d).choose_spec
def C8 (y m:Int):Int:=if m=12 then 31 else i64.wrap (G0 y (i64.wrap (m+1)) 1-G0 y m 1)
def ME (y m:Int):aj T 195 [.int y,.int m] (.int (C8 y m)):=by
 refine zyw 144 aBA ?_;unfold C8;by_cases h:m=12
 .simp[Pa,h]
 .simp[Pa,h];refine⟨_,MX _ _ _,_,MX _ _ _,?_⟩;simp
def akV (y m d:Int):∃n e:Int,aj T 194 [.int y,.int m,.int d] (.tup [.int n,.int e])/\(e=0->0<=n/\n<=100000):=by
 by_cases h0:(((2000<=y/\y<=2300)/\1<=m)/\m<=12)/\1<=d
 .by_cases h2:d<=C8 y m
  .cases h1:fc (G0 y m d)
   .refine⟨0,3,.of_tree rfl JB O9 ?_,by simp⟩;simp[Eb];rw[if_pos h0];refine⟨_,ME y m,?_⟩;simp[h0,h2];refine⟨_,MX _ _ _,_,I1 _,?_⟩;simp[h1]
   .refine⟨G0 y m d,0,.of_tree rfl JB O9 ?_,λ_=>by simpa [fc] using h1⟩;simp[Eb];rw[if_pos h0];exact⟨_,ME y m,⟨h0,h2⟩,_,MX _ _ _,_,I1 _,h1,rfl⟩
  .refine⟨0,3,.of_tree rfl JB O9 ?_,by simp⟩;simp[Eb];rw[if_pos h0];refine⟨_,ME y m,?_⟩;simp[h0,h2]
 .refine⟨0,3,.of_tree rfl JB O9 ?_,by simp⟩;simp[Eb];rw[if_neg h0];intro a1 a2 a3 a4 a5;exact absurd ⟨⟨⟨⟨a1,a2⟩,a3⟩,a4⟩,a5⟩ h0
def aby (r:Realm)(fr to:Int)(hl:r.usances.length<=100000):∃n e:Int,aj T 64 [aV r,.int fr,.int to] (.tup [.int n,.int e])/\(e=0->∃u,u∈r.usances/\n=u.days)/\(e=0↔∃u,u∈r.usances/\u.fr=fr/\u.to=to):=by
 let p:Usance->Bool:=λu=>decide (u.fr=fr)&&decide (u.to=to)
 refine⟨match r.usances.find? p with|some u=>u.days|none=>0,match r.usances.find? p with|some u=>0|none=>4,?_,?_⟩
 .refine .of_tree rfl abV akx ?_;simp[Pe];refine aK.scan r.usances.length (λk=>p (r.usances.getD k default)=false) (λk=>[.int 0,.int 0,.int k]) (λ_=>[]) ?_ (λk hk hj ax=>?_) (λk hk hj ax=>?_) (λhj=>?_)
  .simp
  .have hw:=bq hk (by omega);have hn:¬(r.usances[k].fr=fr/\r.usances[k].to=to):=by simpa [p,hk] using ax
   simp[DR,xj,hk,hw,hn]
  .have lK:=yT hk (by simpa [hk] using ax) (λj bA=>by have:=hj j bA;simpa [show j<r.usances.length by omega] using this);have hc:r.usances[k].fr=fr/\r.usances[k].to=to:=by simpa [p,hk] using ax
   rw[lK];simp[DR,xj,hk,hc]
  .have lK:=Cq (l:=r.usances) (p:=p) (λj bA=>by have:=hj j bA;simpa [bA] using this);rw[lK];simp[DR,xj]
 .cases h:r.usances.find? p with
  |none=>
   refine⟨λh=>(by cases h),λh=>(by cases h),λ⟨u,hu,h1,h2⟩=>?_⟩;have:=xS.1 h u hu;simp[p,h1,h2] at this
  |some u=>
   have h2:u.fr=fr/\u.to=to:=by simpa [p] using PF h
   exact⟨λ_=>⟨u,Er h,rfl⟩,λ_=>⟨u,Er h,h2⟩,λ_=>rfl⟩
def alp (r:Realm)(fr to:Int)(hl:r.usances.length<=100000):∃n e:Int,aj T 64 [aV r,.int fr,.int to] (.tup [.int n,.int e])/\(e=0->∃u,u∈r.usances/\n=u.days):=by
 obtain⟨n,e,h1,h2,_⟩:=aby r fr to hl;exact⟨n,e,h1,h2⟩
end Rm
