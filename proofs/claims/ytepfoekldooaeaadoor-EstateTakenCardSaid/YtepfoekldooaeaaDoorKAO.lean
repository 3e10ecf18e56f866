/-
  Shared texts of this claim.
-/
import Derived.Test.YtepfoekldooaeaaDoorKAN
import Derived.Lib.Mul64
set_option linter.unusedSimpArgs false
set_option linter.unusedVariables false
namespace Rm
open Go Go.Proofs Cx
abbrev u (n:Nat):D:=.v (.int .u64 n)
theorem Wt (n:Int):IntKind.u64.wrap n=n%18446744073709551616:=rfl
theorem Ac {n:Int}(h:0≤n∧n<18446744073709551616):IntKind.u64.wrap n=n:=by
 rw[Wt];omega
theorem sB {n:Nat}(h:n<18446744073709551616):IntKind.u64.wrap (n:Int)=n:=Ac (by omega)
theorem am1 (a s:Nat)(h:s≤64):cI .shr .u64 a s=((a/2^s:Nat):Int):=by
 show Int.fdiv (a:Int) (2^(min (s:Int).toNat 64))=_;have:min (s:Int).toNat 64=s:=by simp;omega
 rw[this,Int.fdiv_eq_ediv_of_nonneg _ (Int.le_of_lt (Int.pow_pos (by decide)))];rw[Int.natCast_ediv,Int.natCast_pow];rfl
theorem FZ (a:Nat)(h:a<18446744073709551616):cI .and .u64 a 4294967295=((a%4294967296:Nat):Int):=by
 show IntKind.u64.wrap ((BitVec.ofInt 64 (a:Int)&&& BitVec.ofInt 64 4294967295).toNat:Nat)=_;have e:(BitVec.ofInt 64 (a:Int)&&& BitVec.ofInt 64 4294967295).toNat=a%4294967296:=by
  rw[BitVec.toNat_and];have e1:(BitVec.ofInt 64 (a:Int)).toNat=a:=by simp[BitVec.ofInt,BitVec.toNat_ofNat];omega
  have e2:(BitVec.ofInt 64 4294967295).toNat=2^32-1:=by decide
  rw[e1,e2,Nat.and_two_pow_sub_one_eq_mod]
 rw[e,sB (by omega)]
@[simp] theorem uW (a:Nat):cI .shr .u64 a 32=((a/4294967296:Nat):Int):=am1 a 32 (by decide)
set_option maxHeartbeats 2000000 in
theorem ajY (a b:Nat)(ha:a<18446744073709551616)(hb:b<18446744073709551616):au T Jv [u a,u b] (.tup [u (a*b/18446744073709551616),u (a*b%18446744073709551616)]):=by
 refine .of_tree rfl NX anx ?_;obtain⟨h1,h2,h3,h4⟩:=Go.Lib.mul64_hi a b ha hb;have elo:IntKind.u64.wrap ((a:Int)*(b:Int))=((a*b%18446744073709551616:Nat):Int):=by rw[Wt,Int.natCast_emod,Int.natCast_mul];rfl
 have GQ:cI .shr .u64 (a:Int) 32=((a/4294967296:Nat):Int):=uW a;have ea0:cI .and .u64 (a:Int) 4294967295=((a%4294967296:Nat):Int):=FZ a ha;have GR:cI .shr .u64 (b:Int) 32=((b/4294967296:Nat):Int):=uW b;have eb0:cI .and .u64 (b:Int) 4294967295=((b%4294967296:Nat):Int):=FZ b hb;have atL:=Go.Lib.half_mul_le (a:=a/4294967296) (b:=b/4294967296) (by omega) (by omega);have atK:=Go.Lib.half_mul_le (a:=a/4294967296) (b:=b%4294967296) (by omega) (by omega);have atJ:=Go.Lib.half_mul_le (a:=a%4294967296) (b:=b/4294967296) (by omega) (by omega);have atI:=Go.Lib.half_mul_le (a:=a%4294967296) (b:=b%4294967296) (by omega) (by omega);have HH:a*b/18446744073709551616<18446744073709551616:=by
  have:a*b<18446744073709551616*18446744073709551616:=Nat.mul_lt_mul'' ha hb;exact Nat.div_lt_of_lt_mul this
 simp only[L5];generalize a/4294967296=a1 at*;generalize a%4294967296=a0 at*;generalize b/4294967296=b1 at*;generalize b%4294967296=b0 at*;have p11:IntKind.u64.wrap ((a1:Int)*(b1:Int))=((a1*b1:Nat):Int):=by rw[←Int.natCast_mul];exact sB (by omega)
 have p10:IntKind.u64.wrap ((a1:Int)*(b0:Int))=((a1*b0:Nat):Int):=by rw[←Int.natCast_mul];exact sB (by omega)
 have p01:IntKind.u64.wrap ((a0:Int)*(b1:Int))=((a0*b1:Nat):Int):=by rw[←Int.natCast_mul];exact sB (by omega)
 have p00:IntKind.u64.wrap ((a0:Int)*(b0:Int))=((a0*b0:Nat):Int):=by rw[←Int.natCast_mul];exact sB (by omega)
 rw[←h4] at HH ⊢;generalize a1*b1=P at*;generalize a1*b0=Q at*;generalize a0*b1=R at*;generalize a0*b0=S at*;have s1:cI .shr .u64 (S:Int) 32=((S/4294967296:Nat):Int):=uW S;have s2:IntKind.u64.wrap ((Q:Int)+((S/4294967296:Nat):Int))=((Q+S/4294967296:Nat):Int):=by rw[Ac (by omega)];omega
 generalize S/4294967296=S1 at*;generalize hT:Q+S1=TT at*;have s3:cI .shr .u64 (TT:Int) 32=((TT/4294967296:Nat):Int):=uW TT;have s4:cI .and .u64 (TT:Int) 4294967295=((TT%4294967296:Nat):Int):=FZ TT (by omega);have s5:IntKind.u64.wrap (((TT%4294967296:Nat):Int)+(R:Int))=((TT%4294967296+R:Nat):Int):=by rw[Ac (by omega)];omega
 generalize hU:TT%4294967296+R=U at*;have s6:cI .shr .u64 (U:Int) 32=((U/4294967296:Nat):Int):=uW U;have s7:IntKind.u64.wrap ((P:Int)+((TT/4294967296:Nat):Int))=((P+TT/4294967296:Nat):Int):=by rw[Ac (by omega)];omega
 have s8:IntKind.u64.wrap (((P+TT/4294967296:Nat):Int)+((U/4294967296:Nat):Int))=((P+TT/4294967296+U/4294967296:Nat):Int):=by rw[Ac (by omega)];omega
 simp[-uW,-Int.natCast_add,-Int.natCast_mul,-Int.natCast_ediv,-Int.natCast_emod,elo,GQ,ea0,GR,eb0,p11,p10,p01,p00,s1,s2,s3,s4,s5,s6,s7,s8]
def oe (m:Nat):Int:=if m<1099511627776 then m else 1099511627776
def uy (a b:Int):Int:=if(decide (a<0)!=decide (b<0))=true then-oe (a.natAbs*b.natAbs) else oe (a.natAbs*b.natAbs)
theorem UJ (m:Nat):0≤oe m∧oe m≤1099511627776:=by unfold oe;split<;>omega
set_option maxHeartbeats 1000000 in
theorem ani (a b:Int)(ha:-1099511627776≤a∧a≤1099511627776)(hb:-1099511627776≤b∧b≤1099511627776):au T Ti [.int a,.int b] (.int (uy a b)):=by
 refine .of_tree rfl YG aoT ?_;have wa:IntKind.u64.wrap (a.natAbs:Int)=a.natAbs:=sB (by omega);have wb:IntKind.u64.wrap (b.natAbs:Int)=b.natAbs:=sB (by omega);have w0a:IntKind.i64.wrap (0-a)=-a:=by rw[cd (by omega)];omega
 have w0b:IntKind.i64.wrap (0-b)=-b:=by rw[cd (by omega)];omega
 have apj:IntKind.i64.wrap (-a)=-a:=cd (by omega);have apk:IntKind.i64.wrap (-b)=-b:=cd (by omega);have ea:(if a< -a then D.int (-a) else D.int a)=D.int a.natAbs:=by split<;>congr 1<;>omega
 have eb:(if b< -b then D.int (-b) else D.int b)=D.int b.natAbs:=by split<;>congr 1<;>omega
 have ea':(if a< -a then-a else a)=(a.natAbs:Int):=by split<;>omega
 have eb':(if b< -b then-b else b)=(b.natAbs:Int):=by split<;>omega
 simp[Nc,apj,apk,ea,eb,ea',eb'];rw[wa,wb];refine⟨_,ajY a.natAbs b.natAbs (by omega) (by omega),?_⟩;unfold uy;generalize a.natAbs*b.natAbs=m;have hs:(decide (a<0)!=decide (b<0))=false↔(a<0↔b<0):=by
  by_cases h1:a<0<;>by_cases h2:b<0<;>simp[h1,h2]
 have key:((if((m/18446744073709551616:Nat):Int)=0∧((m%18446744073709551616:Nat):Int)<1099511627776 then IntKind.i64.wrap ((m%18446744073709551616:Nat):Int) else 1099511627776):Int)=oe m:=by
  unfold oe;by_cases hm:m<1099511627776
  ·have h1:m/18446744073709551616=0:=by omega
   have h2:m%18446744073709551616=m:=by omega
   rw[h1,h2,if_pos ⟨rfl,by omega⟩,if_pos hm,cd (by omega)]
  ·rw[if_neg hm,if_neg];rintro⟨h1,h2⟩;omega
 have eF:=UJ m;have ahS:(if((m/18446744073709551616:Nat):Int)=0∧((m%18446744073709551616:Nat):Int)<1099511627776 then D.int (IntKind.i64.wrap ((m%18446744073709551616:Nat):Int)) else D.int 1099511627776)=D.int (oe m):=by
  rw[←key];split<;>rfl
 show(if a<0↔b<0 then(if((m/18446744073709551616:Nat):Int)=0∧((m%18446744073709551616:Nat):Int)<1099511627776 then D.int (IntKind.i64.wrap ((m%18446744073709551616:Nat):Int)) else D.int 1099511627776)=_ else
  IntKind.i64.wrap (-(if((m/18446744073709551616:Nat):Int)=0∧((m%18446744073709551616:Nat):Int)<1099511627776 then IntKind.i64.wrap ((m%18446744073709551616:Nat):Int) else 1099511627776))=_)
 rw[ahS,key];generalize oe m=n at*;split
 ·rename_i h;rw[hs.2 h];simp
 ·rename_i h;have:(decide (a<0)!=decide (b<0))=true:=by
   cases e:(decide (a<0)!=decide (b<0)) with
   |true=>rfl
   |false=>exact absurd (hs.1 e) h
  rw[this,cd (by omega)];simp
def sJ (op a b:Int):Int:=if op=9 then lh (a+b) else if op=10 then lh (a-b) else if op=11 then uy a b else if op=12 then min a b else max a b
theorem anf (op a b:Int)(ha:-1099511627776≤a∧a≤1099511627776)(hb:-1099511627776≤b∧b≤1099511627776):au T Tb [.int op,.int a,.int b] (.int (sJ op a b)):=by
 refine .of_tree rfl Yz aoM ?_;have w1:IntKind.i64.wrap (a+b)=a+b:=cd (by omega);have w2:IntKind.i64.wrap (a-b)=a-b:=cd (by omega);simp[M6,sJ,w1,w2];by_cases h1:op=9
 ·simp[h1];exact FA _
 by_cases h2:op=10
 ·simp[h1,h2];exact FA _
 by_cases h3:op=11
 ·simp[h1,h2,h3];exact ani a b ha hb
 by_cases h4:op=12
 ·simp[h1,h2,h3,h4];by_cases h5:b<a<;>simp[h5]<;>omega
 simp[h1,h2,h3,h4];by_cases h5:b>a<;>simp[h5]<;>omega
def eW (b:Bool):Cell:=if b then⟨true,1⟩ else⟨true,0⟩
theorem qn (b:Bool):au T Tk [.bool b] (ct (eW b)):=by
 refine .of_tree rfl YI aoV ?_;cases b<;>simp[Nf,eW]<;>rfl
def dm:Cell:=⟨false,0⟩
@[simp] theorem auK:D.agg [.bool false,.int 0]=ct dm:=_root_.id rfl
@[simp] theorem auL:dm.known=false:=rfl
@[simp] theorem auM:dm.n=0:=rfl
def cellAt (cs:List Cell)(v:Int):Cell:=cs.getD v.toNat default
def iY (cs:List Cell)(v:Int):Cell:=if cs.length≤v.toNat∨(cellAt cs v).known=false then dm else if(jH v).1=1 then eW (decide ((cellAt cs v).n≠0)) else⟨true,lh (cellAt cs v).n⟩
abbrev GU (cs:List Cell):D:=.agg [cells cs]
theorem ank (cs:List Cell)(v:Int)(hv:0≤v):au T Tg [GU cs,.int v] (ct (iY cs v)):=by
 refine .of_tree rfl YF aoS ?_;obtain⟨k,rfl⟩:=Int.eq_ofNat_of_zero_le hv;simp[Nb,iY,cellAt];by_cases h1:cs.length≤k
 ·simp[h1]
 have cE:k<cs.length:=by omega
 simp[h1,cE];cases h2:cs[k].known
 ·simp[h2]
 simp[h2];refine⟨_,Wd _,?_⟩;by_cases h3:(jH k).1=1
 ·simp[h3,cE];refine⟨_,qn _,?_⟩;simp;rfl
 ·simp[h3,cE];refine⟨_,FA _,?_⟩;simp;rfl
@[simp] theorem at5 (a b:Int):(a==b)=decide (a=b):=_root_.id rfl
@[simp] theorem at6 (a b:Int):(a !=b)= !decide (a=b):=_root_.id rfl
def aX (l:List Cell)(k:Nat):Cell:=l.getD k default
def eZ (op:Int)(l:List Cell):Cell:=
 if op=3 then(if(aX l 0).known=true then eW (decide ((aX l 0).n=0)) else dm)
 else if(op=4∨op=5)∧(aX l 0=eW (decide (op=5))∨aX l 1=eW (decide (op=5))) then eW (decide (op=5))
 else if op=6 then(if(aX l 1).known=true∧aX l 1=aX l 2 then aX l 1 else dm)
 else if(aX l 0).known=false∨(aX l 1).known=false then dm
 else if op=4∨op=5 then eW (decide (op=4))
 else if op=7 then eW (decide ((aX l 0).n<(aX l 1).n)) else if op=8 then eW (decide ((aX l 0).n=(aX l 1).n)) else⟨true,sJ op (aX l 0).n (aX l 1).n⟩
theorem Zz (a b:Cell):a=b↔a.known=b.known∧a.n=b.n:=by cases a;cases b;simp
theorem ang (op:Int)(l:List Cell)(h1:1≤l.length)(h2:op≠3→2≤l.length)(h3:op=6→3≤l.length)
 (hb:9≤op→(-1099511627776≤(aX l 0).n∧(aX l 0).n≤1099511627776)∧(-1099511627776≤(aX l 1).n∧(aX l 1).n≤1099511627776)) (h9:op<3∨8<op→9≤op):
 au T Td [.int op,cells l] (ct (eZ op l)):=by
 refine .of_tree rfl YB aoO ?_;have g0:0<l.length:=by omega
 have qO:l[0]=aX l 0:=by simp[aX,g0]
 simp[M8];unfold eZ;by_cases o3:op=3
 ·simp[o3,g0,qO];cases e:(aX l 0).known
  ·simp
  ·simp[g0];refine⟨_,qn _,?_⟩;simp
 have g1:1<l.length:=by have:=h2 o3;omega
 have xm:l[1]=aX l 1:=by simp[aX,g1]
 have ga:(1:Int)<l.length:=by omega
 simp[o3];have fin:∀a b:Cell,(a=b)=(a.known=b.known∧a.n=b.n):=fun a b=>propext (Zz a b);rcases Classical.em (op=4) with o4|o4
 ·subst o4;simp;refine⟨_,qn _,?_⟩;simp[g0,g1,ga,qO,xm,fin];split
  ·rfl
  ·split
   ·rfl
   ·refine⟨_,qn _,?_⟩;simp
 rcases Classical.em (op=5) with o5|o5
 ·subst o5;simp;refine⟨_,qn _,?_⟩;simp[g0,g1,ga,qO,xm,fin];split
  ·rfl
  ·split
   ·rfl
   ·refine⟨_,qn _,?_⟩;simp
 rcases Classical.em (op=6) with o6|o6
 ·subst o6;have g2:2<l.length:=by have:=h3 rfl;omega
  have gg2:l[2]=aX l 2:=by simp[aX,g2]
  have oP:(2:Int)<l.length:=by omega
  simp[g1,g2,ga,oP,xm,gg2,fin];cases e1:(aX l 1).known
  ·simp
  by_cases e2:(aX l 1).known=(aX l 2).known∧(aX l 1).n=(aX l 2).n
  ·rw[e1] at e2;simp[e1,e2]
  ·rw[e1] at e2;have oI:¬((aX l 2).known=true∧(aX l 1).n=(aX l 2).n):=fun h=>e2 ⟨h.1.symm,h.2⟩;simp only[e1,true_and,if_true]
   first|(rw[if_neg oI,if_neg oI])|(simp[oI])
 simp[o4,o5,o6,g0,g1,ga,qO,xm];cases e1:(aX l 0).known
 ·simp
 cases e2:(aX l 1).known
 ·simp
 simp[g1,ga,xm];rcases Classical.em (op=7) with o7|o7
 ·subst o7;simp;refine⟨_,qn _,?_⟩;simp
 rcases Classical.em (op=8) with o8|o8
 ·subst o8;simp;refine⟨_,qn _,?_⟩;simp
 simp[o7,o8];obtain⟨b1,b2⟩:=hb (h9 (by omega));refine⟨_,anf op _ _ b1 b2,?_⟩;simp;rfl
end Rm
namespace Rm
open Go Go.Proofs Cx
def bo:Nat→List Cell→Tm→Cell
 |0,_,_=>dm
 |L+1,cs,t=>if t.op=0∨t.op=1 then⟨true,t.n⟩ else if t.op=2 then iY cs t.n else
   if t.op=6∧(aX (t.args.map (bo L cs)) 0).known=true then aX (t.args.map (bo L cs)) (2-(aX (t.args.map (bo L cs)) 0).n).toNat else eZ t.op (t.args.map (bo L cs))
def df:Nat→List Cell→Tm→List Int
 |0,_,_=>[]
 |L+1,cs,t=>if t.op=0∨t.op=1 then[] else if t.op=2 then(if(iY cs t.n).known=true then[] else[t.n]) else
   if t.op=6∧(aX (t.args.map (bo L cs)) 0).known=true then(t.args.map (df L cs)).getD (2-(aX (t.args.map (bo L cs)) 0).n).toNat [] else
   if(eZ t.op (t.args.map (bo L cs))).known=true then[] else(t.args.map (df L cs)).flatten
theorem Br (L:Nat)(cs:List Cell)(t:Tm):bo (L+1) cs t=if t.op=0∨t.op=1 then⟨true,t.n⟩ else if t.op=2 then iY cs t.n else
 if t.op=6∧(aX (t.args.map (bo L cs)) 0).known=true then aX (t.args.map (bo L cs)) (2-(aX (t.args.map (bo L cs)) 0).n).toNat else eZ t.op (t.args.map (bo L cs)):=rfl
theorem CO (L:Nat)(cs:List Cell)(t:Tm):df (L+1) cs t=if t.op=0∨t.op=1 then[] else if t.op=2 then(if(iY cs t.n).known=true then[] else[t.n]) else
 if t.op=6∧(aX (t.args.map (bo L cs)) 0).known=true then(t.args.map (df L cs)).getD (2-(aX (t.args.map (bo L cs)) 0).n).toNat [] else
 if(eZ t.op (t.args.map (bo L cs))).known=true then[] else(t.args.map (df L cs)).flatten:=rfl
theorem GD {L:Nat}{t:Tm}{k:Int}(h:bN (L+1) t=(k,0)):(∀a,a∈t.args→(bN L a).2=0)∧rN t (t.args.map fun a=>(bN L a).1)=(k,0):=by
 rw[GC] at h;by_cases e:dQ t.args.length (fun k=>(bN L (t.args.getD k default)).2)=0
 ·rw[if_neg (by simpa using e)] at h;refine⟨fun a ha=>?_,h⟩;obtain⟨j,hj,rfl⟩:=List.getElem_of_mem ha;have:=O9.1 e j hj;simpa [hj] using this
 ·rw[if_pos e] at h;injection h with _ h
  exact absurd h e
inductive Node (ks:List Int) (t:Tm):Int→Prop where
 |int (h:t.op=0) (ha:t.args=[]) (hn:-1099511627776≤t.n∧t.n≤1099511627776):Node ks t 0
 |bool (h:t.op=1) (ha:t.args=[]) (hn:t.n=0∨t.n=1):Node ks t 1
 |var (h:t.op=2) (ha:t.args=[]) (hn:0≤t.n∧t.n≤19):Node ks t (jH t.n).1
 |not (h:t.op=3) (hk:ks=[1]):Node ks t 1
 |log (h:t.op=4∨t.op=5) (hk:ks=[1,1]):Node ks t 1
 |ite (k:Int) (h:t.op=6) (hk:ks=[1,k,k]):Node ks t k
 |less (h:t.op=7) (hk:ks=[0,0]):Node ks t 1
 |equal (k:Int) (h:t.op=8) (hk:ks=[k,k]):Node ks t 1
 |num (h:9≤t.op∧t.op≤13) (hk:ks=[0,0]):Node ks t 0
theorem apg (v:Int):(jH v).1=0∨(jH v).1=1:=by
 unfold jH;repeat' split
 all_goals simp
theorem aka {t:Tm}{ks:List Int}{k:Int}(hl:ks.length=t.args.length)(fI:∀x,x∈ks→x=0∨x=1)(h:rN t ks=(k,0)):Node ks t k:=by
 unfold rN at h;split at h
 ·injection h with _ h;cases h
 rename_i bx;split at h
 ·rename_i h3;unfold yD at h;split at h
  ·injection h with _ h;cases h
  rename_i ha0;have ha:t.args=[]:=List.eq_nil_of_length_eq_zero (by omega);split at h
  ·rename_i h0;split at h
   ·injection h with _ h;cases h
   ·rename_i hc;injection h with h _
    subst h;refine .int h0 ha ?_;unfold lh at hc;omega
  split at h
  ·rename_i h0;split at h
   ·injection h with _ h;cases h
   ·rename_i hc;injection h with h _
    subst h;exact .bool h0 ha (by omega)
  split at h
  ·injection h with _ h;cases h
  ·rename_i g0 g1 hc;injection h with h _
   subst h;refine .var (by omega) ha ?_;unfold jH at hc;split at hc
   ·simp at hc
   ·omega
 rename_i h3;split at h
 ·injection h with _ h;cases h
 rename_i hlen;have ky:ks.length=(dA t.op).1.length:=by
  refine Classical.byContradiction fun hh=>hlen (.inl hh)
 split at h
 ·injection h with _ h;cases h
 rename_i aw;have gj:∀j,j<(dA t.op).1.length→kE (dA t.op).1 ks j=true:=Ai.1 (by simpa using aw)
 have two:∀{n:Nat},ks.length=2→∃a b,ks=[a,b]:=fun h=>by
  match ks,h with
  |[a,b],_=>exact⟨a,b,rfl⟩
 by_cases o3:t.op=3
 ·have e:dA t.op=([1],1):=by simp[dA,o3]
  rw[e] at ky gj h
  match ks,ky with
  |[a],_=>
   have:=gj 0 (by simp);simp[kE] at this;simp at h;subst h this;exact .not o3 rfl
 by_cases CR:t.op=4∨t.op=5
 ·have e:dA t.op=([1,1],1):=by simp[dA,o3,CR]
  rw[e] at ky gj h
  match ks,ky with
  |[a,b],_=>
   have t1:=gj 0 (by simp);have t2:=gj 1 (by simp);simp[kE] at t1 t2;simp at h;subst h t1 t2;exact .log CR rfl
 by_cases o6:t.op=6
 ·have e:dA t.op=([1,-1,-1],-1):=by simp[dA,o6]
  rw[e] at ky gj h
  match ks,ky,fI with
  |[a,b,c],_,fI=>
   have t1:=gj 0 (by simp);have t3:=gj 2 (by simp);have hb:=fI b (by simp);have my:¬b=-1:=by omega
   simp[kE] at t1;simp[kE,j2,my] at t3;simp[j2,my] at h;subst h t1 t3;exact .ite _ o6 rfl
 by_cases o7:t.op=7
 ·have e:dA t.op=([0,0],1):=by simp[dA,o7]
  rw[e] at ky gj h
  match ks,ky with
  |[a,b],_=>
   have t1:=gj 0 (by simp);have t2:=gj 1 (by simp);simp[kE] at t1 t2;simp at h;subst h t1 t2;exact .less o7 rfl
 by_cases o8:t.op=8
 ·have e:dA t.op=([-1,-1],1):=by simp[dA,o8]
  rw[e] at ky gj h
  match ks,ky,fI with
  |[a,b],_,fI=>
   have t2:=gj 1 (by simp);have ha:=fI a (by simp);have han:¬a=-1:=by omega
   simp[kE,j2,han] at t2;simp at h;subst h t2;exact .equal _ o8 rfl
 have e:dA t.op=([0,0],0):=by simp[dA,o3,CR,o6,o7,o8]
 rw[e] at ky gj h
 match ks,ky with
 |[a,b],_=>
  have t1:=gj 0 (by simp);have t2:=gj 1 (by simp);simp[kE] at t1 t2;simp at h;subst h t1 t2;exact .num (by omega) rfl
theorem GF:∀{L:Nat} {t:Tm} {k:Int},bN (L+1) t=(k,0)→Node (t.args.map fun a=>(bN L a).1) t k∧(k=0∨k=1)
 |L,t,k,h=>by
  obtain⟨h1,h2⟩:=GD h
  have fI:∀x,x∈(t.args.map fun a=>(bN L a).1)→x=0∨x=1:=by
   intro x hx;obtain⟨a,ha,rfl⟩:=List.mem_map.1 hx;cases L with
   |zero=>exact .inl rfl
   |succ L=>exact(GF (L:=L) (t:=a) (k:=(bN (L+1) a).1) (by rw[←h1 a ha])).2
  have hn:=aka (by simp) fI h2;refine⟨hn,?_⟩;cases hn with
  |int=>simp
  |bool=>simp
  |var=>exact apg _
  |not=>simp
  |log=>simp
  |ite k _ hk=>exact fI k (by rw[hk];simp)
  |less=>simp
  |equal=>simp
  |num=>simp
end Rm
namespace Rm
open Go Go.Proofs Cx
def qv (k:Int)(c:Cell):Prop:=(c.known=false→c=dm)∧(c.known=true→(k=1→c.n=0∨c.n=1)∧(k=0→-1099511627776≤c.n∧c.n≤1099511627776))
theorem qa (k:Int):qv k dm:=⟨fun _=>rfl,fun h=>by cases h⟩
theorem uS (b:Bool):qv 1 (eW b):=⟨fun h=>(by cases b<;>cases h),fun _=>⟨fun _=>(by cases b<;>simp[eW]),fun h=>by cases h⟩⟩
theorem GJ (n:Int):-1099511627776≤lh n∧lh n≤1099511627776:=by unfold lh;omega
theorem amF (cs:List Cell)(v:Int)(hv:0≤v∧v≤19):qv (jH v).1 (iY cs v):=by
 unfold iY;split
 ·exact qa _
 ·split
  ·rename_i h;rw[h];exact uS _
  ·rename_i h;refine⟨fun h=>(by cases h),fun _=>⟨fun h'=>absurd h' h,fun _=>GJ _⟩⟩
theorem alC (a b:Int):-1099511627776≤uy a b∧uy a b≤1099511627776:=by
 unfold uy;have:=UJ (a.natAbs*b.natAbs);split<;>omega
theorem Xa (op a b:Int)(ha:-1099511627776≤a∧a≤1099511627776)(hb:-1099511627776≤b∧b≤1099511627776):-1099511627776≤sJ op a b∧sJ op a b≤1099511627776:=by
 unfold sJ;split
 ·exact GJ _
 split
 ·exact GJ _
 split
 ·exact alC _ _
 split<;>omega
theorem ajN {α β:Type}{f:α→β}{l:List α}{x:β}(h:l.map f=[x]):∃a,l=[a]∧f a=x:=by
 match l,h with
 |[a],h=>exact⟨a,rfl,by simpa using h⟩
theorem tU {α β:Type}{f:α→β}{l:List α}{x y:β}(h:l.map f=[x,y]):∃a b,l=[a,b]∧f a=x∧f b=y:=by
 match l,h with
 |[a,b],h=>exact⟨a,b,rfl,by simpa using h⟩
theorem Jp {α β:Type}{f:α→β}{l:List α}{x y z:β}(h:l.map f=[x,y,z]):∃a b c,l=[a,b,c]∧f a=x∧f b=y∧f c=z:=by
 match l,h with
 |[a,b,c],h=>exact⟨a,b,c,rfl,by simpa using h⟩
theorem O1:∀{L:Nat} {t:Tm} {k:Int} (cs:List Cell),bN L t=(k,0)→qv k (bo L cs t)
 |0,t,k,cs,h=>qa _
 |L+1,t,k,cs,h=>by
  obtain⟨hn,hk⟩:=GF h;obtain⟨ha,_⟩:=GD h;have ih:∀a,a∈t.args→qv (bN L a).1 (bo L cs a):=fun a hm=>O1 cs (show bN L a=((bN L a).1,0) by rw[←ha a hm]);rw[Br];cases hn with
  |int h0 ha hn=>rw[if_pos (.inl h0)];exact⟨fun h=>(by cases h),fun _=>⟨fun h=>(by cases h),fun _=>hn⟩⟩
  |bool h0 ha hn=>rw[if_pos (.inr h0)];exact⟨fun h=>(by cases h),fun _=>⟨fun _=>hn,fun h=>by cases h⟩⟩
  |var h0 ha hn=>rw[if_neg (by omega),if_pos h0];exact amF cs _ hn
  |not h0 hk=>
   rw[if_neg (by omega),if_neg (by omega),if_neg (by omega)];unfold eZ;rw[if_pos h0];split
   ·exact uS _
   ·exact qa _
  |log h0 hk=>
   rw[if_neg (by omega),if_neg (by omega),if_neg (by omega)];unfold eZ;rw[if_neg (by omega)];split
   ·exact uS _
   rw[if_neg (by omega)];split
   ·exact qa _
   exact uS _
  |ite k h0 bW=>
   obtain⟨a,b,c,hl,e1,e2,e3⟩:=Jp bW;rw[hl] at ih ⊢;have r1:=ih a (by simp);have r2:=ih b (by simp);have r3:=ih c (by simp);rw[e1] at r1;rw[e2] at r2;rw[e3] at r3;rw[if_neg (by omega),if_neg (by omega)];simp only[List.map_cons,List.map_nil,aX,List.getD_cons_zero];split
   ·rename_i hh;rcases(r1.2 hh.2).1 rfl with h1|h1<;>rw[h1]
    ·exact r3
    ·exact r2
   ·unfold eZ;rw[if_neg (by omega),if_neg (by omega),if_pos h0];simp only[aX,List.getD_cons_zero,List.getD_cons_succ];split
    ·exact r2
    ·exact qa _
  |less h0 hk=>
   rw[if_neg (by omega),if_neg (by omega),if_neg (by omega)];unfold eZ;rw[if_neg (by omega),if_neg (by omega),if_neg (by omega)];split
   ·exact qa _
   repeat' split
   all_goals exact uS _
  |equal k h0 hk=>
   rw[if_neg (by omega),if_neg (by omega),if_neg (by omega)];unfold eZ;rw[if_neg (by omega),if_neg (by omega),if_neg (by omega)];split
   ·exact qa _
   repeat' split
   all_goals exact uS _
  |num h0 bW=>
   obtain⟨a,b,hl,e1,e2⟩:=tU bW;rw[hl] at ih ⊢;have r1:=ih a (by simp);have r2:=ih b (by simp);rw[e1] at r1;rw[e2] at r2;rw[if_neg (by omega),if_neg (by omega),if_neg (by omega)];unfold eZ;rw[if_neg (by omega),if_neg (by omega),if_neg (by omega)];simp only[List.map_cons,List.map_nil,aX,List.getD_cons_zero,List.getD_cons_succ];split
   ·exact qa _
   rename_i xR;rw[if_neg (by omega),if_neg (by omega),if_neg (by omega)];have k1:(bo L cs a).known=true:=by
    cases e:(bo L cs a).known with
    |true=>rfl
    |false=>exact absurd (.inl e) xR
   have k2:(bo L cs b).known=true:=by
    cases e:(bo L cs b).known with
    |true=>rfl
    |false=>exact absurd (.inr e) xR
   exact⟨fun h=>(by cases h),fun _=>⟨fun h=>(by cases h),fun _=>Xa _ _ _ ((r1.2 k1).2 rfl) ((r2.2 k2).2 rfl)⟩⟩
theorem Tp:∀(L:Nat) (cs:List Cell) (t:Tm),cf L t≤60→((df L cs t).length:Int)≤cf L t
 |0,cs,t,h=>by simp[cf] at h
 |L+1,cs,t,h=>by
  have h1:=rJ (L+1) t;obtain⟨hl,hp⟩:=Jr h;have hs:∀(l:List Tm) (n:Int),(∀a,a∈l→cf L a≤60)→dX (cf L) l n≤60→((l.map (df L cs)).flatten.length:Int)+n≤dX (cf L) l n∧∀j,(((l.map (df L cs)).getD j []).length:Int)+n≤dX (cf L) l n:=by
   intro l
   induction l with
   |nil=>intro n _ _;simp[dX]
   |cons a l ih=>
    intro n hp hm;have ha:=Tp L cs a (hp a (by simp));unfold dX at hm ⊢;split at hm
    ·omega
    ·rename_i h60;rw[if_neg h60];obtain⟨i1,i2⟩:=ih (n+cf L a) (fun b hb=>hp b (by simp[hb])) hm;refine⟨by rw[List.map_cons,List.flatten_cons,List.length_append];omega,fun j=>?_⟩;cases j with
     |zero=>simp;omega
     |succ j=>have:=i2 j;simp at this ⊢;omega
  obtain⟨hs1,dG⟩:=hs t.args 1 hp h;rw[CO];split
  ·simp;omega
  split
  ·split<;>simp<;>omega
  split
  ·have:=dG (2-(aX (t.args.map (bo L cs)) 0).n).toNat;show _≤dX _ _ _;omega
  split
  ·simp;omega
  ·show _≤dX _ _ _;omega
@[simp] theorem avn (x y:List Int):ql (ints x) 0 (ints y)=ints y:=_root_.id rfl
@[simp] theorem am5 (x y:Cell):ql (ct x) 0 (ct y)=ct y:=_root_.id rfl
@[simp] theorem at7 (a b:List Int):D.list (a.map D.int++b.map D.int)=ints (a++b):=by simp[ints]
def lists (l:List (List Int)):D:=.list (l.map ints)
@[simp] theorem aum (l:List (List Int)):(lists l).l=l.map ints:=_root_.id rfl
theorem Wx (l:List (List Int))(hl:l.length≤1000)(hs:l.flatten.length≤1000000):au T SU [lists l] (ints l.flatten):=by
 refine .of_tree rfl Ym aoz ?_;simp[MT];have hb:∀k,(l.take k).flatten.length≤l.flatten.length:=by
  intro k
  conv=>rhs;rw[←List.take_append_drop k l]
  rw[List.flatten_append,List.length_append];omega
 have bV:∀k (hk:k<l.length),(l.take (k+1)).flatten=(l.take k).flatten++l[k]:=fun k hk=>by
  rw[List.take_succ_eq_append_getElem hk,List.flatten_append];simp
 refine aU.forRounds l.length (fun k=>[.int ((l.take k).flatten.length:Nat),.int k]) (fun k=>[]) ?_ (fun k hk=>?_) ?_
 ·simp
 ·have hw:=bM hk (by omega);have h1:=bV k hk;have h2:=hb (k+1);rw[h1] at h2 ⊢;rw[List.length_append] at h2 ⊢;generalize (l.take k).flatten.length=m at*;have nN:IntKind.i64.wrap ((m:Int)+(l[k].length:Int))=(m:Int)+l[k].length:=cd (by omega);have xZ:¬((m:Int)+l[k].length<0):=by omega
  simp[Vx,Fh,hk,hw,nN,xZ]
 ·simp[Vx,Fh];have P8:au T 100 [.list [],.int (l.flatten.length:Nat)] (.list []):=by
   refine .of_ext (g:=fun _ ds=>BC ds) rfl ⟨0,fun _ _=>?_⟩;show(if(0:Int)≤(l.flatten.length:Nat)∧((l.flatten.length:Nat):Int)≤4294967296 then some (D.list []) else none)=some (D.list []);rw[if_pos (by omega)]
  rw[List.length_flatten] at P8;refine⟨_,P8,?_⟩;refine aU.forRounds l.length (fun k=>[.none,.int k]) (fun k=>[ints (l.take k).flatten]) ?_ (fun k hk=>?_) ?_
  ·simp[ints]
  ·have hw:=bM hk (by omega);have h1:=bV k hk;have h2:=hb (k+1);rw[h1] at h2 ⊢;rw[List.length_append] at h2;generalize (l.take k).flatten=m at*;simp[Vy,Fi,hk,hw];omega
  ·simp[Vy,Fi]
theorem abc {op:Int}{l:List Cell}(h:(eZ op l).known=false):eZ op l=dm:=by
 have hy:∀b,(eW b).known=true:=fun b=>by cases b<;>simp[eW]
 unfold eZ at h ⊢;split<;>rename_i c1
 ·rw[if_pos c1] at h;split<;>rename_i c2
  ·rw[if_pos c2,hy] at h;cases h
  ·rfl
 rw[if_neg c1] at h;split<;>rename_i c2
 ·rw[if_pos c2,hy] at h;cases h
 rw[if_neg c2] at h;split<;>rename_i c3
 ·rw[if_pos c3] at h;split<;>rename_i c4
  ·rw[if_pos c4,c4.1] at h;cases h
  ·rfl
 rw[if_neg c3] at h;split<;>rename_i c4
 ·rfl
 rw[if_neg c4] at h
 repeat' split at h
 all_goals first|(rw[hy] at h;cases h)|cases h
theorem We:∀(L:Nat) (cs:List Cell) (t:Tm) (k:Int),t.OK→cf L t≤60→bN L t=(k,0)→au T JE [GU cs,cS t] (.tup [ct (bo L cs t),ints (df L cs t)])
 |0,cs,t,k,ht,hm,hc=>by simp[cf] at hm
 |L+1,cs,t,k,ht,hm,hc=>by
  refine .of_tree rfl YE aoR ?_;obtain⟨hl,hp⟩:=Jr hm;obtain⟨ha,_⟩:=GD hc;obtain⟨hn,atE⟩:=GF hc;have fu:∀a,a∈t.args→au T JE [GU cs,cS a] (.tup [ct (bo L cs a),ints (df L cs a)]):=fun a dE=>We L cs a (bN L a).1 (ht.arg dE) (hp a dE) (by rw[←ha a dE]);have ym:∀a,a∈t.args→qv (bN L a).1 (bo L cs a):=fun a dE=>O1 cs (show bN L a=((bN L a).1,0) by rw[←ha a dE]);have Qr:∀a,a∈t.args→(df L cs a).length≤60:=fun a dE=>by have:=Tp L cs a (hp a dE);have:=hp a dE;omega
  by_cases fI:t.op=0∨t.op=1
  ·
   have e1:bo (L+1) cs t=⟨true,t.n⟩:=by rw[Br,if_pos fI]
   have e2:df (L+1) cs t=[]:=by rw[CO,if_pos fI]
   rw[e1,e2];rcases fI with h|h<;>simp[z7,h]<;>exact⟨rfl,rfl⟩
  have o0:t.op≠0:=fun h=>fI (.inl h);have o1:t.op≠1:=fun h=>fI (.inr h);by_cases o2:t.op=2
  ·have hv:0≤t.n:=by
    cases hn with
    |var h0 ha hn=>exact hn.1
    |_=>omega
   have e1:bo (L+1) cs t=iY cs t.n:=by rw[Br,if_neg fI,if_pos o2]
   have e2:df (L+1) cs t=if(iY cs t.n).known=true then[] else[t.n]:=by rw[CO,if_neg fI,if_pos o2]
   rw[e1,e2];simp[z7,o2];refine⟨_,ank cs t.n hv,?_⟩;cases e:(iY cs t.n).known
   ·have:iY cs t.n=dm:=by
     unfold iY at e ⊢;split
     ·rfl
     ·rename_i h;rw[if_neg h] at e;split at e
      ·cases hb:decide ((cellAt cs t.n).n≠0)<;>rw[hb] at e<;>cases e
      ·cases e
    rw[this];simp[ints]
   ·have h:iY cs t.n=⟨true,(iY cs t.n).n⟩:=by rw[←e]
    rw[h];simp[ints]
    try rfl
  have hlen:1≤t.args.length∧(t.op≠3→2≤t.args.length)∧(t.op=6→3≤t.args.length):=by
   cases hn with
   |int h0 ha hn=>omega
   |bool h0 ha hn=>omega
   |var h0 ha hn=>omega
   |not h0 hk=>obtain⟨a,hl,_⟩:=ajN hk;rw[hl];simp;omega
   |log h0 hk=>obtain⟨a,b,hl,_⟩:=tU hk;rw[hl];simp;omega
   |ite k h0 hk=>obtain⟨a,b,c,hl,_⟩:=Jp hk;rw[hl];simp
   |less h0 hk=>obtain⟨a,b,hl,_⟩:=tU hk;rw[hl];simp;omega
   |equal k h0 hk=>obtain⟨a,b,hl,_⟩:=tU hk;rw[hl];simp;omega
   |num h0 hk=>obtain⟨a,b,hl,_⟩:=tU hk;rw[hl];simp;omega
  have hb9:9≤t.op→(-1099511627776≤(aX (t.args.map (bo L cs)) 0).n∧(aX (t.args.map (bo L cs)) 0).n≤1099511627776)∧(-1099511627776≤(aX (t.args.map (bo L cs)) 1).n∧(aX (t.args.map (bo L cs)) 1).n≤1099511627776):=by
   intro h9;have rb:∀c:Cell,qv 0 c→-1099511627776≤c.n∧c.n≤1099511627776:=by
    intro c hr;cases e:c.known with
    |false=>rw[hr.1 e];simp
    |true=>exact(hr.2 e).2 rfl
   cases hn with
   |num h0 hk=>
    obtain⟨a,b,hl,ea,eb⟩:=tU hk;rw[hl] at ym ⊢;have r1:=ym a (by simp);have r2:=ym b (by simp);rw[ea] at r1;rw[eb] at r2;exact⟨rb _ r1,rb _ r2⟩
   |log h0 hk=>omega
   |_=>omega
  have h6:t.op=6→(aX (t.args.map (bo L cs)) 0).known=true→(aX (t.args.map (bo L cs)) 0).n=0∨(aX (t.args.map (bo L cs)) 0).n=1:=by
   intro o6 xR;cases hn with
   |ite k h0 hk=>
    obtain⟨a,b,c,hl,ea,_⟩:=Jp hk;rw[hl] at ym xR ⊢;have r1:=ym a (by simp);rw[ea] at r1;exact(r1.2 xR).1 rfl
   |log h0 hk=>omega
   |num h0 hk=>omega
   |_=>omega
  have bx:t.op<3∨8<t.op→9≤t.op:=by
   cases hn with
   |log h0 hk=>omega
   |num h0 hk=>omega
   |_=>omega
  have e1:bo (L+1) cs t=if t.op=6∧(aX (t.args.map (bo L cs)) 0).known=true then aX (t.args.map (bo L cs)) (2-(aX (t.args.map (bo L cs)) 0).n).toNat else eZ t.op (t.args.map (bo L cs)):=by
   rw[Br,if_neg fI,if_neg o2]
  have e2:df (L+1) cs t=if t.op=6∧(aX (t.args.map (bo L cs)) 0).known=true then(t.args.map (df L cs)).getD (2-(aX (t.args.map (bo L cs)) 0).n).toNat [] else if(eZ t.op (t.args.map (bo L cs))).known=true then[] else(t.args.map (df L cs)).flatten:=by
   rw[CO,if_neg fI,if_neg o2]
  rw[e1,e2];simp[z7,o0,o1,o2];refine⟨by omega,?_⟩;refine aU.forRounds t.args.length (fun k=>[.int k]) (fun k=>[cells ((t.args.map (bo L cs)).take k++List.replicate (t.args.length-k) dm),lists ((t.args.map (df L cs)).take k++List.replicate (t.args.length-k) [])]) ?_ (fun k hk=>?_) ?_
  ·simp[cells,lists,ints]
  ·have hw:=bM hk (by omega);have cA:=List.getElem_mem hk;have hr:=fu _ cA;have s1:=LO (t.args.map (bo L cs)) dm (n:=t.args.length) (by simp) hk;have s2:=LO (t.args.map (df L cs)) [] (n:=t.args.length) (by simp) hk;rw[←s1,←s2];have l1:((t.args.map (bo L cs)).take k++List.replicate (t.args.length-k) dm).length=t.args.length:=by simp;omega
   have l2:((t.args.map (df L cs)).take k++List.replicate (t.args.length-k) []).length=t.args.length:=by simp;omega
   have g1:(t.args.map (bo L cs))[k]'(by simpa using hk)=bo L cs t.args[k]:=by simp
   have g2:(t.args.map (df L cs))[k]'(by simpa using hk)=df L cs t.args[k]:=by simp
   rw[g1,g2];generalize (t.args.map (bo L cs)).take k++List.replicate (t.args.length-k) dm=A at*;generalize (t.args.map (df L cs)).take k++List.replicate (t.args.length-k) []=B at*;generalize bo L cs t.args[k]=c at*;generalize df L cs t.args[k]=d at*;simp[Lu,zF,hk];refine⟨_,hr,?_⟩;simp[hw,hk,l1,l2,cells,lists]
  ·have hA:(t.args.map (bo L cs)).take t.args.length++List.replicate (t.args.length-t.args.length) dm=t.args.map (bo L cs):=by rw[Nat.sub_self,List.replicate_zero,List.append_nil,List.take_of_length_le (by simp)]
   have hB:(t.args.map (df L cs)).take t.args.length++List.replicate (t.args.length-t.args.length) []=t.args.map (df L cs):=by rw[Nat.sub_self,List.replicate_zero,List.append_nil,List.take_of_length_le (by simp)]
   have lA:(t.args.map (bo L cs)).length=t.args.length:=by simp
   have lB:(t.args.map (df L cs)).length=t.args.length:=by simp
   have hG:∀l:List Tm,(∀a,a∈l→a∈t.args)→((l.map (df L cs)).flatten.length≤l.length*60):=by
    intro l
    induction l with
    |nil=>intro _;simp
    |cons a l ih=>
     intro h;have h1:=Qr a (h a (by simp));have h2:=ih (fun b hb=>h b (by simp[hb]));rw[List.map_cons,List.flatten_cons,List.length_append,List.length_cons];omega
   have hG:=hG t.args (fun a h=>h);have hBg:∀m:Nat,(Option.map (df L cs) t.args[m]?).getD []=(t.args.map (df L cs)).getD m []:=fun m=>by simp[List.getD_eq_getElem?_getD]
   rw[hA,hB];generalize t.args.map (bo L cs)=A at*;generalize t.args.map (df L cs)=B at*;have g0:0<A.length:=by omega
   have qO:A[0]=aX A 0:=by simp[aX,g0]
   by_cases BK:t.op=6∧(aX A 0).known=true
   ·obtain⟨o6,kn⟩:=BK;have hv:=h6 o6 kn;have hw:IntKind.i64.wrap (2-(aX A 0).n)=2-(aX A 0).n:=cd (by omega);have h3:3≤t.args.length:=hlen.2.2 o6;rw[if_pos ⟨o6,kn⟩,if_pos ⟨o6,kn⟩];obtain⟨m,dE⟩:∃m:Nat,m=(2-(aX A 0).n).toNat:=⟨_,rfl⟩
    have xV:m<A.length:=by omega
    have HP:m<B.length:=by omega
    simp[Lu,zF,o6,kn,g0,qO,hw,←dE,xV,HP,cells,lists];refine⟨by omega,by omega,by simp[aX,xV],?_⟩;rw[hBg,List.getD_eq_getElem?_getD,List.getElem?_eq_getElem HP];rfl
   ·rw[if_neg BK,if_neg BK];have afy:=ang t.op A (by omega) (by omega) (by omega) hb9 bx;have afA:=Wx B (by omega) (by omega);simp[Lu,zF,g0,qO];rw[if_neg BK];refine⟨_,afy,?_⟩;cases e:(eZ t.op A).known
    ·have eG:eZ t.op A=dm:=abc e;rw[eG];simp;exact afA
    ·have h:eZ t.op A=⟨true,(eZ t.op A).n⟩:=by rw[←e]
     rw[h];simp[ints]
     try rfl
end Rm
namespace Rm
open Go Go.Proofs Cx
def j1 (n:Nat)(g:Nat→Bool):Int:=if(List.range n).findIdx g<n then((List.range n).findIdx g:Nat) else-1
theorem yB (n:Nat)(g:Nat→Bool):(j1 n g=-1∧∀k,k<n→g k=false)∨∃k:Nat,k<n∧j1 n g=k∧g k=true∧∀i,i<k→g i=false:=by
 unfold j1;split
 ·rename_i h;refine .inr ⟨_,h,rfl,?_,fun i hi=>?_⟩
  ·have:=List.findIdx_getElem (p:=g) (xs:=List.range n) (w:=by simpa using h);simpa using this
  ·have:=List.not_of_lt_findIdx (p:=g) (xs:=List.range n) hi;simpa using this
 ·rename_i h;refine .inl ⟨rfl,fun k hk=>?_⟩;have:=List.not_of_lt_findIdx (p:=g) (xs:=List.range n) (i:=k) (by omega);simpa using this
theorem IT {n:Nat}{g:Nat→Bool}(h:∀k,k<n→g k=false):j1 n g=-1:=by
 rcases yB n g with⟨h1,_⟩|⟨k,hk,_,h2,_⟩
 ·exact h1
 ·rw[h k hk] at h2;cases h2
theorem IU {n k:Nat}{g:Nat→Bool}(hk:k<n)(h:g k=true)(hj:∀i,i<k→g i=false):j1 n g=k:=by
 rcases yB n g with⟨_,h1⟩|⟨m,hm,h1,h2,h3⟩
 ·rw[h1 k hk] at h;cases h
 ·rcases Nat.lt_trichotomy m k with h4|h4|h4
  ·rw[hj m h4] at h2;cases h2
  ·rw[h1,h4]
  ·rw[h3 k h4] at h;cases h
theorem Q7 (n:Nat)(g:Nat→Bool):decide (0≤j1 n g)=(List.range n).any g:=by
 rcases yB n g with⟨h1,h2⟩|⟨m,hm,h1,h2,h3⟩
 ·rw[h1]
  symm
  simp;exact h2
 ·rw[h1];simp;exact⟨m,hm,h2⟩
theorem WD (l:List Rule)(f:Nat)(caps:List D)(g:Nat→Bool)(hg:∀k (hk:k<l.length),au T f (nu l[k]::caps) (.bool (g k)))(hl:l.length≤4294967296):
 au T S4 [rules l,.clo f caps] (.int (j1 l.length g)):=by
 refine .of_tree rfl Ys aoF ?_;simp[MZ];refine .scan l.length (fun k=>g k=false) (fun k=>[.int 0,.int k]) (fun _=>[]) ?_ (fun k hk hj ho=>?_) (fun k hk hj ho=>?_) (fun hj=>?_)
 ·simp
 ·have hw:=bM hk hl;simp[Lp,zA,hk,hw];refine⟨_,_,⟨rfl,rfl⟩,_,hg k hk,?_⟩;simp[ho,hw]
 ·have he:=IU hk (by simpa using ho) hj;simp[Lp,zA,hk,he];refine⟨_,_,⟨rfl,rfl⟩,_,hg k hk,?_⟩;simp[ho]
 ·have he:=IT hj;simp[Lp,zA,he]
theorem WE (l:List Int)(f:Nat)(caps:List D)(g:Nat→Bool)(hg:∀k (hk:k<l.length),au T f (.int l[k]::caps) (.bool (g k)))(hl:l.length≤4294967296):
 au T S5 [ints l,.clo f caps] (.int (j1 l.length g)):=by
 refine .of_tree rfl Yt aoG ?_;simp[M0];refine .scan l.length (fun k=>g k=false) (fun k=>[.int 0,.int k]) (fun _=>[]) ?_ (fun k hk hj ho=>?_) (fun k hk hj ho=>?_) (fun hj=>?_)
 ·simp
 ·have hw:=bM hk hl;simp[Lq,zB,hk,hw,ints];refine⟨_,_,⟨rfl,rfl⟩,_,hg k hk,?_⟩;simp[ho,hw]
 ·have he:=IU hk (by simpa using ho) hj;simp[Lq,zB,hk,he,ints];refine⟨_,_,⟨rfl,rfl⟩,_,hg k hk,?_⟩;simp[ho]
 ·have he:=IT hj;simp[Lq,zB,he,ints]
theorem WC (l:List Alter)(f:Nat)(caps:List D)(g:Nat→Bool)(hg:∀k (hk:k<l.length),au T f (ln l[k]::caps) (.bool (g k)))(hl:l.length≤4294967296):
 au T SZ [alters l,.clo f caps] (.int (j1 l.length g)):=by
 refine .of_tree rfl Yr aoE ?_;simp[MY];refine .scan l.length (fun k=>g k=false) (fun k=>[.int 0,.int k]) (fun _=>[]) ?_ (fun k hk hj ho=>?_) (fun k hk hj ho=>?_) (fun hj=>?_)
 ·simp
 ·have hw:=bM hk hl;simp[Lo,zz,hk,hw];refine⟨_,_,⟨rfl,rfl⟩,_,hg k hk,?_⟩;simp[ho,hw]
 ·have he:=IU hk (by simpa using ho) hj;simp[Lo,zz,hk,he];refine⟨_,_,⟨rfl,rfl⟩,_,hg k hk,?_⟩;simp[ho]
 ·have he:=IT hj;simp[Lo,zz,he]
theorem Wz (l:List Int)(f:Nat)(caps:List D)(g:Nat→Bool)(hg:∀k (hk:k<l.length),au T f (.int l[k]::caps) (.bool (g k)))(hl:l.length≤4294967296):
 au T SW [ints l,.clo f caps] (.bool ((List.range l.length).any g)):=by
 refine .of_tree rfl Yo aoB ?_;simp[MV];refine⟨_,WE l f caps g hg hl,?_⟩;have:=Q7 l.length g;simp[←this]
theorem Wy (l:List Alter)(f:Nat)(caps:List D)(g:Nat→Bool)(hg:∀k (hk:k<l.length),au T f (ln l[k]::caps) (.bool (g k)))(hl:l.length≤4294967296):
 au T SV [alters l,.clo f caps] (.bool ((List.range l.length).any g)):=by
 refine .of_tree rfl Yn aoA ?_;simp[MU];refine⟨_,WC l f caps g hg hl,?_⟩;have:=Q7 l.length g;simp[←this]
def sV (cs:List Cell)(t:Tm):Cell:=if(kg t).2=0 then bo 8 cs t else dm
theorem aa4 {t:Tm}(h:(kg t).2=0):cf 8 t≤60∧bN 8 t=((kg t).1,0):=by
 unfold kg at h ⊢;split at h
 ·cases h
 ·rename_i hm;rw[if_neg hm];exact⟨by omega,by rw[←h]⟩
theorem ane (t:Tm)(cs:List Cell)(ht:t.OK):au T S9 [cS t,cells cs] (ct (sV cs t)):=by
 refine .of_tree rfl Yx aoK ?_;simp[M4,sV];refine⟨_,Wc t ht,?_⟩;by_cases h:(kg t).2=0
 ·obtain⟨h1,h2⟩:=aa4 h;simp[h];refine⟨_,We 8 cs t _ ht h1 h2,?_⟩;simp
  try rfl
 ·simp[h]
  try rfl
def JH:List Int:=[6,7,10,12,13,14,15,16,20,21]
def jG (ask:Int):Int×Bool:=if ask<0∨22≤ask then(0,false) else if hasB JH ask then(0,true) else(1,true)
theorem J9 (ask:Int):au T Sf [.int ask] (.tup [.int (jG ask).1,.bool (jG ask).2]):=by
 refine .of_tree rfl XG anT ?_;simp[Mf,jG];by_cases h0:ask<0
 ·simp[h0]
 by_cases h1:22≤ask
 ·simp[h0,h1]
 simp[h0,h1];refine⟨_,Ae JH ask (by decide),?_⟩;cases h:hasB JH ask<;>simp[h]
def CP:Tm:=⟨0,0,[]⟩
def qf (o:Order)(ask:Int)(k:Nat):Bool:=decide ((o.rules.getD k default).ask=ask)
def zO (o:Order)(i:Int):Tm:=(o.rules.getD i.toNat default).term
def findF (o:Order)(ask:Int):Tm×Int:=
 if(jG ask).2=false then(CP,1) else if j1 o.rules.length (qf o ask)<0 then(CP,4) else
    if(kg (zO o (j1 o.rules.length (qf o ask)))).2≠0∨(kg (zO o (j1 o.rules.length (qf o ask)))).1≠(jG ask).1 then(CP,11) else(zO o (j1 o.rules.length (qf o ask)),0)
theorem VR {o:Order}(ho:o.OK){m:Nat}(hm:m<o.rules.length):o.rules[m].term.OK:=(ho.2.2 _ (List.getElem_mem hm)).2
theorem JG:CP.OK:=by
 exact .mk 0 0 [] (by unfold aR;omega) (by unfold aR;omega) (by decide) (fun _ h=>by cases h)
theorem acG {o:Order}(ho:o.OK)(ask:Int):(findF o ask).1.OK:=by
 unfold findF;split
 ·exact JG
 split
 ·exact JG
 split
 ·exact JG
 ·rename_i h _;rcases yB o.rules.length (qf o ask) with⟨h1,h2⟩|⟨m,hm,h1,h2,h3⟩
  ·exact absurd (by rw[h1];decide) h
  ·rw[h1];simp[zO,hm];exact VR ho hm
theorem acE (r:Rule)(ask:Int):au T Jy [nu r,.ref (.int ask)] (.bool (decide (r.ask=ask))):=by
 refine .of_tree rfl XI anU ?_;simp[Mh]
theorem ala (o:Order)(ask:Int)(ho:o.OK)(hl:o.rules.length≤4294967296):au T Sg [gQ o,.int ask] (.tup [cS (findF o ask).1,.int (findF o ask).2]):=by
 refine .of_tree rfl XH anV ?_;simp[Mg,findF];refine⟨_,J9 ask,?_⟩;cases h0:(jG ask).2
 ·simp[h0]
  try rfl
 simp[h0];refine⟨_,WD o.rules Jy [.ref (.int ask)] (qf o ask) (fun k hk=>by simpa [qf,hk] using acE o.rules[k] ask) hl,?_⟩;rcases yB o.rules.length (qf o ask) with⟨h1,h2⟩|⟨m,hm,h1,h2,h3⟩
 ·rw[h1];simp
  try rfl
 ·rw[h1];have xZ:¬((m:Int)<0):=by omega
  have htm:o.rules[m].term.OK:=VR ho hm;simp[hm,zO,xZ];refine⟨_,Wc _ htm,?_⟩;by_cases h4:(kg o.rules[m].term).2=0<;>by_cases h5:(kg o.rules[m].term).1=(jG ask).1<;>simp[h4,h5]<;>try rfl
def me (o:Order)(ask:Int)(cs:List Cell):Cell×Int:=
 if(findF o ask).2≠0 then(dm,(findF o ask).2) else
    (if(jG ask).1=0∧(sV cs (findF o ask).1).known=true then⟨true,min (max (sV cs (findF o ask).1).n 0) 20000⟩ else sV cs (findF o ask).1,0)
theorem ak9 (o:Order)(ask:Int)(cs:List Cell)(ho:o.OK)(hl:o.rules.length≤4294967296):au T Se [gQ o,.int ask,cells cs] (.tup [ct (me o ask cs).1,.int (me o ask cs).2]):=by
 refine .of_tree rfl XF anS ?_;simp[Me];refine⟨_,ala o ask ho hl,?_⟩;have hf:(findF o ask).1.OK:=acG ho ask;by_cases h:(findF o ask).2=0
 ·simp[h,me];refine⟨_,ane _ cs hf,_,J9 ask,?_⟩;generalize sV cs (findF o ask).1=c;obtain⟨kn,n⟩:=c;by_cases h1:(jG ask).1=0
  ·cases kn
   ·simp[h1,ct]
   ·by_cases h2:n<0
    ·have:min (max n 0) 20000=0:=by omega
     simp[h1,ct,h2,this];rfl
    ·by_cases h3:20000<n
     ·have:min (max n 0) 20000=20000:=by omega
      simp[h1,ct,h2,h3,this];rfl
     ·have:min (max n 0) 20000=n:=by omega
      simp[h1,ct,h2,h3,this];rfl
  ·simp[h1,ct]
 ·simp[h,me]
  try rfl
end Rm
namespace Rm
open Go Go.Proofs Cx
theorem VE (b:Bool):au T SR [.bool b] (ct (eW b)):=by
 refine .of_tree rfl Yk aox ?_;cases b<;>simp[MR,eW]<;>rfl
def Bt (kind sign:Int)(x:Fact):Bool:=decide (x.kind=kind)&&decide (x.at_=sign)
def iL (f:File)(kind sign:Int):Cell:=match f.facts.find? (Bt kind sign) with|none=>dm|some x=>eW (decide (x.n≠0))
theorem Bv {α:Type}{p:α→Bool}:∀{l:List α} {k:Nat} (hk:k<l.length),p l[k]=true→(∀j (hj:j<k),p (l[j]'(by omega))=false)→l.find? p=some l[k]
 |a::l,0,hk,h,hj=>by simp at h;simp[h]
 |a::l,k+1,hk,h,hj=>by
  have h0:=hj 0 (by omega);simp at h0;simp only[List.find?_cons,h0,List.getElem_cons_succ];exact Bv (by simpa using hk) (by simpa using h) (fun j cL=>by simpa using hj (j+1) (by omega))
theorem G3 {α:Type}{p:α→Bool}{l:List α}(h:∀j (hj:j<l.length),p l[j]=false):l.find? p=none:=by
 rw[List.find?_eq_none];intro x hx;obtain⟨j,hj,rfl⟩:=List.getElem_of_mem hx;rw[h j hj];decide
theorem zJ (f:File)(kind sign:Int)(hl:f.facts.length≤4294967296):au T SO [cW f,.int kind,.int sign] (ct (iL f kind sign)):=by
 refine .of_tree rfl Yh aou ?_;simp[MO];refine .scan f.facts.length (fun k=>Bt kind sign (f.facts.getD k default)=false) (fun k=>[.int k]) (fun _=>[ct dm]) ?_ (fun k hk hj ho=>?_) (fun k hk hj ho=>?_) (fun hj=>?_)
 ·simp
 ·have hw:=bM hk hl;simp[hk,Bt] at ho;by_cases h1:f.facts[k].kind=kind<;>by_cases h2:f.facts[k].at_=sign
  ·exact absurd h2 (ho h1)
  all_goals simp[Ll,zy,hk,hw,h1,h2]
 ·have hw:=bM hk hl;have hf:iL f kind sign=eW (decide (f.facts[k].n≠0)):=by
   unfold iL;rw[Bv hk (by simpa [hk] using ho) (fun j cL=>by have:=hj j cL;simpa [show j<f.facts.length by omega] using this)]
  simp[hk,Bt] at ho;simp[Ll,zy,hk,hw,ho,hf];refine⟨_,VE _,?_⟩;simp
  try rfl
 ·have hf:iL f kind sign=dm:=by
   unfold iL;rw[G3 (fun j cL=>by have:=hj j cL;simpa [cL] using this)]
  simp[Ll,zy,hf]
  try rfl
def jy (r:Realm)(c:Int):Int:=if aC c r.cities.length=true then(r.cities.getD c.toNat default).order else-1
theorem m0 (r:Realm)(c:Int):au T SA [bH r,.int c] (.int (jy r c)):=by
 refine .of_tree rfl X4 aoh ?_;simp[MB,jy];refine⟨_,ec c r.cities.length,?_⟩;cases h:aC c r.cities.length
 ·simp[h]
 ·simp[aC] at h;have h1:c.toNat<r.cities.length:=by omega
  simp[h,h1]
def FJ (day:Int)(l:List Sign):List Sign:=l.takeWhile fun s=>decide (s.day≤day)
def Wn (day:Int)(l:List Act):List Act:=l.takeWhile fun s=>decide (s.day≤day)
def mc (n:Nat)(a:Alter):Bool:=decide (a.at_≤(n:Int))
def nw (n:Nat)(x:Fact):Bool:=aC x.at_ n
def qD (f:File)(day:Int):File:=
 ⟨f.bill,FJ day f.signs,f.alters.filter (mc (FJ day f.signs).length),Wn day f.acts,f.facts.filter (nw (FJ day f.signs).length)⟩
theorem FH {α:Type}(p:α→Bool):∀(l:List α),∃m,m≤l.length∧l.takeWhile p=l.take m∧(∀k (hk:k<l.length),k<m→p l[k]=true)∧(∀hk:m<l.length,p l[m]=false)
 |[]=>⟨0,by simp,by simp,fun k hk=>by simp at hk,fun hk=>by simp at hk⟩
 |a::l=>by
  by_cases h:p a=true
  ·obtain⟨m,h1,h2,h3,h4⟩:=FH p l;refine⟨m+1,by simp;omega,by simp[h,h2],fun k hk hm=>?_,fun hk=>?_⟩
   ·cases k with
    |zero=>simpa using h
    |succ k=>simpa using h3 k (by simpa using hk) (by omega)
   ·simpa using h4 (by simpa using hk)
  ·refine⟨0,by simp,by simp[h],fun k hk hm=>by omega,fun hk=>by simpa using h⟩
theorem Wb {α:Type}(p:α→Bool)(l:List α){k:Nat}(hk:k<l.length):(l.take (k+1)).filter p=(l.take k).filter p++if p l[k] then[l[k]] else[]:=by
 rw[List.take_succ_eq_append_getElem hk,List.filter_append]
 congr 1
 cases h:p l[k]<;>simp[h]
def vh (b:Bill)(w x y z:D):D:=.agg [.int b.drawer,.int b.drawee,.int b.payee,.int b.sum,.int b.currency,.int b.tenor.kind,.int b.tenor.n,.int b.tenor.unit,.int b.day,.int b.city,.int b.pay,.int b.need,.int b.rate,.int b.flags,.int b.parts,w,x,y,z]
def kz {α:Type}(l:List α):D:=match l with|[]=>.list []|_=>.none
@[simp] theorem atT {α:Type}:kz ([]:List α)=.list []:=rfl
@[simp] theorem atQ {α:Type}(l:List α)(x:α):kz (l++[x])=.none:=by cases l<;>rfl
theorem amu (f:File)(day:Int)(h1:f.signs.length≤4294967295)(h2:f.acts.length≤4294967295)(h3:f.alters.length≤4294967295)(h4:f.facts.length≤4294967295):au T SN [cW f,.int day] (cW (qD f day)):=by
 refine .of_tree rfl Yg aot ?_;simp[MN];obtain⟨m,hm,hS,PJ,td⟩:=FH (fun s:Sign=>decide (s.day≤day)) f.signs;obtain⟨n,hn,hA,hA1,hA2⟩:=FH (fun s:Act=>decide (s.day≤day)) f.acts;refine aU.forRounds m (fun k=>[.int k]) (fun k=>[signs (f.signs.take k),vh f.bill (kz (f.signs.take k)) (.list []) (.list []) (.list [])]) ?_ (fun k hk=>?_) ?_
 ·simp[vh,signs]
  try rfl
 ·have bB:k<f.signs.length:=by omega
  have hw:=bM bB (by omega);have hd:=PJ k bB hk;simp at hd;have eO:¬day<f.signs[k].day:=by omega
  have hle:(k:Int)+1≤4294967296:=by omega
  have ht:=List.take_succ_eq_append_getElem bB;rw[ht];have hlen:(f.signs.take k).length=k:=by simp;omega
  generalize f.signs.take k=A at*;simp[Lg,zt,bB,hw,eO,hlen];exact⟨hle,by simp[signs],rfl⟩
 have hSl:(f.signs.take m).length≤4294967295:=by rw[List.length_take];omega
 have hAt:qD f day=⟨f.bill,f.signs.take m,f.alters.filter (mc (f.signs.take m).length),f.acts.take n,f.facts.filter (nw (f.signs.take m).length)⟩:=by
  unfold qD FJ Wn;rw[hS,hA]
 rw[hAt];generalize f.signs.take m=S at*;have hAl:(f.acts.take n).length≤4294967295:=by rw[List.length_take];omega
 by_cases dE:m<f.signs.length
 case' pos=>
  have hd:=td dE;simp at hd;simp[Lg,zt,dE,hd];generalize D.bool true=bb
 case' neg=>
  have xU:m=f.signs.length:=by omega
  simp[Lg,zt,dE,xU];generalize D.bool false=bb
 all_goals
  refine aU.forRounds n (fun k=>[.int k]) (fun k=>[acts (f.acts.take k),vh f.bill (kz S) (.list []) (kz (f.acts.take k)) (.list [])]) ?_ (fun k hk=>?_) ?_
  ·simp[acts]
  ·have bB:k<f.acts.length:=by omega
   have hw:=bM bB (by omega);have hd:=hA1 k bB hk;simp at hd;have eO:¬day<f.acts[k].day:=by omega
   have hle:(k:Int)+1≤4294967296:=by omega
   have ht:=List.take_succ_eq_append_getElem bB;rw[ht];have hlen:(f.acts.take k).length=k:=by simp;omega
   generalize f.acts.take k=A at*;simp[Lh,zu,bB,hw,eO,hlen];exact⟨hle,by simp[acts],rfl⟩
  generalize f.acts.take n=A at*;by_cases gh:n<f.acts.length
  case' pos=>
   have hd:=hA2 gh;simp at hd;simp[Lh,zu,gh,hd];generalize D.bool true=bc
  case' neg=>
   have lF:n=f.acts.length:=by omega
   simp[Lh,zu,gh,lF];generalize D.bool false=bc
  all_goals
   refine aU.forRounds f.alters.length (fun k=>[.int k]) (fun k=>[vh f.bill (kz S) (kz ((f.alters.take k).filter (mc S.length))) (kz A) (.list []),alters ((f.alters.take k).filter (mc S.length))]) ?_ (fun k hk=>?_) ?_
   ·simp[alters]
   ·have hw:=bM hk (by omega);have ht:=Wb (mc S.length) f.alters hk;rw[ht];have hlen:((f.alters.take k).filter (mc S.length)).length≤k:=Nat.le_trans (List.length_filter_le _ _) (by simp;omega);generalize (f.alters.take k).filter (mc S.length)=B at*;by_cases hd:f.alters[k].at_≤(S.length:Int)
    ·simp[Li,zw,mc,hk,hw,hd];exact⟨by omega,rfl,by simp[alters]⟩
    ·simp[Li,zw,mc,hk,hw,hd]
   simp[Li,zw];generalize f.alters.filter (mc S.length)=B at*;refine aU.forRounds f.facts.length (fun k=>[.int k]) (fun k=>[vh f.bill (kz S) (kz B) (kz A) (kz ((f.facts.take k).filter (nw S.length))),facts ((f.facts.take k).filter (nw S.length))]) ?_ (fun k hk=>?_) ?_
   ·simp[facts]
   ·have hw:=bM hk (by omega);have ht:=Wb (nw S.length) f.facts hk;rw[ht];have hlen:((f.facts.take k).filter (nw S.length)).length≤k:=Nat.le_trans (List.length_filter_le _ _) (by simp;omega);generalize (f.facts.take k).filter (nw S.length)=C at*;cases hd:aC f.facts[k].at_ S.length
    ·simp[Lj,zx,nw,hk,hw,hd];refine⟨_,l0 _ _,?_⟩;simp[hd,hw]
    ·simp[Lj,zx,nw,hk,hw,hd];refine⟨_,l0 _ _,?_⟩;simp[hd,hw];exact⟨by omega,rfl,by simp[facts]⟩
   simp[Lj,zx];rfl
end Rm
namespace Rm
open Go Go.Proofs Cx
end Rm
namespace Rm
open Go Go.Proofs Cx
def eY (g:Nat→Cell):D:=.list ((List.range 20).map fun i=>ct (g i))
theorem Oj {g g':Nat→Cell}(h:∀i,i<20→g i=g' i):eY g=eY g':=by
 unfold eY
 congr 1
 exact List.map_congr_left fun i hi=>by rw[h i (by simpa using hi)]
theorem Ok (g:Nat→Cell)(k:Nat)(c:Cell):D.list ((eY g).l.set k (ct c))=eY (fun i=>if i=k then c else g i):=by
 unfold eY
 congr 1
 show((List.range 20).map fun i=>ct (g i)).set k (ct c)=_;apply List.ext_getElem
 ·simp
 ·intro i h1 h2;simp at h2;rw[List.getElem_set];by_cases h:k=i
  ·simp[h]
  ·have h':¬i=k:=fun e=>h e.symm;simp[h,h']
@[simp] theorem ar0 (g:Nat→Cell):(eY g).l.length=20:=by
  show((List.range 20).map fun i=>ct (g i)).length=20;simp
theorem As (g:Nat→Cell){k:Nat}(hk:k<20):(eY g).l[k]?.getD D.none=ct (g k):=by
 show((List.range 20).map fun i=>ct (g i))[k]?.getD D.none=ct (g k);simp[hk]
theorem ZA (g:Nat→Cell){k:Nat}(hk:k<(eY g).l.length):(eY g).l[k]=ct (g k):=by
 have h:=As g (k:=k) (by simpa using hk);rw[List.getElem?_eq_getElem hk] at h;exact h
theorem ZC (g:Nat→Cell)(k:Nat)(c:Cell):(eY g).l.set k (ct c)=(eY (fun i=>if i=k then c else g i)).l:=congrArg D.l (Ok g k c)
theorem ZB (g:Nat→Cell):D.list (eY g).l=eY g:=rfl
@[simp] theorem avl (x:Cell)(b:Bool)(n:Int):ql (ct x) 0 (D.agg [D.bool b,D.int n])=ct ⟨b,n⟩:=_root_.id rfl
def sW {α:Type}(l:List (Int×α))(val:α→Cell)(g0:Nat→Cell)(i:Nat):Cell:=match l.find? (fun p=>decide (p.1=(i:Int))) with|some p=>val p.2|none=>g0 i
def mP {α:Type}(enc:α→D)(p:Int×α):D:=.tup [.int p.1,enc p.2]
theorem Rx {α:Type}{J o:Nat}{ps bT:List Nat}{a:PC}{ρ:Env}{Q:Out→Prop}(l:List (Int×α))(enc:α→D)(val:α→Cell)(g0:Nat→Cell)
 (nd:∀p q,p∈l→q∈l→p.1=q.1→p=q) (LG:∀p,p∈l→0≤p.1) (he:ρ.o J=.tup [.list [],.map (l.map fun p=>(.int p.1,enc p.2))]) (h0:ρ.o o=eY g0)
 (step:∀p,p∈l→∀g done,ax T (oy [o] a) ((ρ.put ps (bT.map (mP enc p).tget) [o] [eY g]).setO J (.tup [.list (done++[mP enc p]),.map (l.map fun p=>(.int p.1,enc p.2))])) (fun y=>∃ρ',y=.next ρ'∧ρ'.o o=.list ((eY g).l.set p.1.toNat (ct (val p.2)))))
 (last:Q (.next (ρ.put [] [] [o] [eY (sW l val g0)]))):aU T (.meach J ps bT [o] a) ρ Q:=by
 have jW:fi (.map (l.map fun p=>((D.int p.1,enc p.2):D×D)))=l.map (mP enc):=by
  simp[fi,mP]
 refine .meachR _ he (fun done vo=>∃g:Nat→Cell,vo=[eY g]∧(∀p,p∈l→mP enc p∈done→g p.1.toNat=val p.2)∧∀i:Nat,(∀p,p∈l→mP enc p∈done→p.1≠i)→g i=g0 i) ⟨g0,by simp[h0],(fun p _ h=>by cases h),fun i _=>rfl⟩ (fun done x rest vo hp ⟨g,hv,xM,fp⟩=>?_) ⟨_,fun done hp vo ⟨g,hv,xM,fp⟩=>?_,last⟩
 ·subst hv;rw[jW] at hp;have hx:x∈l.map (mP enc):=hp.subset (by simp);obtain⟨p,dS,rfl⟩:=List.mem_map.mp hx;refine sG _ (fun y ⟨ρ',e,ho⟩=>⟨ρ',e,fun i=>if i=p.1.toNat then val p.2 else g i,by simp[ho,Ok],fun q hq Ig=>?_,fun i hi=>?_⟩) (step p dS g done)
  ·have Ih:=LG q hq;have lI:=LG p dS;by_cases h:q.1=p.1
   ·rw[nd q p hq dS h];simp
   ·show(if q.1.toNat=p.1.toNat then val p.2 else g q.1.toNat)=val q.2;rw[if_neg (by omega)];rcases List.mem_append.mp Ig with h1|h1
    ·exact xM q hq h1
    ·simp[mP] at h1;exact absurd h1.1 h
  ·have lI:=LG p dS;have cK:=hi p dS (by simp);show(if i=p.1.toNat then val p.2 else g i)=g0 i;rw[if_neg (by omega)];exact fp i fun q hq Ig=>hi q hq (by simp[Ig])
 ·rw[hv,jW] at*
  congr 1
  refine Oj fun i hi=>?_;unfold sW;cases hf:l.find? (fun p=>decide (p.1=(i:Int))) with
  |some p=>
   have dS:=List.mem_of_find?_eq_some hf;have Cl:p.1=(i:Int):=by simpa using List.find?_some hf
   have:=xM p dS (hp.symm.subset (List.mem_map_of_mem dS));simp only;rw[←this,Cl];rfl
  |none=>
   refine fp i fun p dS _=>?_;have:=List.find?_eq_none.mp hf p dS;simpa using this
@[simp] theorem auj (a b:Int):dk (D.int a) (D.int b)=decide (a=b):=by
  show((a==b)&&true)=decide (a=b);rw[Bool.and_true];by_cases h:a=b<;>simp[h]
def xg (n k:Int):Bool:=decide (cI .and .i64 n k≠0)
def tS (s:Sign)(due:Int):Int:=if due=-1 then 0 else s.day-due
def NR (f:File)(sign:Int):Bool:=(List.range f.alters.length).any fun k=>decide ((f.alters.getD k default).at_≤sign)
def lG (c:Case):Int:=if c.holder<0 then 0 else c.holder
def qd (c:Case)(s:Sign):List (Int×Int):=[(0,c.file.bill.sum),(1,c.file.bill.parts),(2,c.file.bill.tenor.kind),(3,c.file.bill.rate),(4,s.kind),(5,c.defence),(6,tS s c.due)]
def qe (r:Realm)(c:Case)(s:Sign):List (Int×Bool):=[(7,xg c.file.bill.flags 1),(8,decide (c.file.bill.payee=-1)),(9,xg c.file.bill.flags 4),(10,xg c.file.bill.flags 2),(11,decide (jy r c.file.bill.city≠jy r c.file.bill.pay)),(12,NR c.file c.sign),(13,xg s.flags 1),(14,decide (0<tS s c.due))]
def Hc (r:Realm)(c:Case)(s:Sign):List Cell:=
 (qd c s).map (fun p=>⟨true,p.2⟩)++(qe r c s).map (fun p=>eW p.2)++
    [iL c.file 0 c.sign,iL c.file 1 c.sign,iL c.file 2 c.sign,iL c.file 3 (lG c),iL c.file 4 (lG c)]
@[simp] theorem arC (x:Case):jc 19 (dP x)=cW x.file:=_root_.id rfl
@[simp] theorem arA (x:Case):jc 15 (dP x)=ed x.file.bill:=_root_.id rfl
@[simp] theorem arB (x:File):jc 15 (cW x)=ed x.bill:=_root_.id rfl
def oG (c:Case):Bool:=aC c.sign c.file.signs.length&&decide (-1≤c.holder)&&decide (lG c<c.file.signs.length)&&(decide (c.due=-1)||aC c.due 100001)
def gM (r:Realm)(c:Case):List Cell:=if oG c=true∧aC (c.file.signs.getD c.sign.toNat default).day 100001=true then Hc r c (c.file.signs.getD c.sign.toNat default) else[]
theorem amv (r:Realm)(c:Case)(h2:c.file.facts.length≤100000)(h3:c.file.alters.length≤100000):au T SP [bH r,dP c] (cells (gM r c)):=by
 refine .of_tree rfl Yi aow ?_;cases hs:aC c.sign c.file.signs.length
 ·have hv:gM r c=[]:=by unfold gM oG;rw[hs];simp
  rw[hv];simp[qp];refine⟨_,l0 _ _,?_⟩;simp[hs];rfl
 by_cases hh:c.holder< -1
 ·have hv:gM r c=[]:=by unfold gM oG;rw[hs];simp;intros;omega
  rw[hv];simp[qp,hh];exact⟨⟨_,l0 _ _⟩,rfl⟩
 by_cases hm:(c.file.signs.length:Int)≤lG c
 ·have hv:gM r c=[]:=by unfold gM oG;rw[hs];simp;intros;omega
  rw[hv];unfold lG at hm;simp[qp,hm];exact⟨⟨_,l0 _ _⟩,rfl⟩
 by_cases hd:c.due≠-1∧aC c.due 100001=false
 ·have hv:gM r c=[]:=by unfold gM oG;rw[hs];simp[hd]
  rw[hv];unfold lG at hm;obtain⟨aZ,cX⟩:=hd;simp[qp,hh,hm,aZ];refine⟨_,l0 _ _,?_⟩;simp[hs,hh,hm,aZ];refine⟨_,l0 _ _,?_⟩;simp[hs,hh,hm,aZ,cX];rfl
 have hcb:oG c=true:=by
  unfold oG;rw[hs];simp;refine⟨⟨by omega,by omega⟩,?_⟩;by_cases h:c.due=-1
  ·exact .inl h
  ·right;cases hb:aC c.due 100001
   ·exact absurd ⟨h,hb⟩ hd
   ·rfl
 have hlen:c.sign.toNat<c.file.signs.length:=by simp[aC] at hs;omega
 have dG:0≤c.sign∧c.sign<(c.file.signs.length:Int):=by simpa [aC] using hs
 obtain⟨s,yp⟩:∃s:Sign,s=c.file.signs[c.sign.toNat]:=⟨_,rfl⟩
 have po:c.file.signs.getD c.sign.toNat default=s:=by rw[yp];simp[hlen]
 have hv:gM r c=if aC s.day 100001=true then Hc r c s else[]:=by
  unfold gM;rw[po,hcb];simp
 rw[hv];unfold lG at hm;by_cases xF:c.due=-1
 case' pos=>
  have PX:(c.due=-1)=True:=eq_true xF;simp[qp,hh,hm,PX];refine⟨_,l0 _ _,?_⟩;simp[hs,hh,hm,PX,hlen,←yp,dG]
 case' neg=>
  have xC:aC c.due 100001=true:=by
   cases hb:aC c.due 100001
   ·exact absurd ⟨xF,hb⟩ hd
   ·rfl
  simp[qp,hh,hm,xF];refine⟨_,l0 _ _,?_⟩;simp[hs,hh,hm,xF];refine⟨_,l0 _ _,?_⟩;simp[hs,hh,hm,xF,xC,hlen,←yp,dG]
 all_goals
  refine⟨_,l0 _ _,?_⟩;cases BV:aC s.day 100001
  ·simp[BV];rfl
  simp[BV,iv];refine Rx (qd c s) D.int (fun n=>⟨true,n⟩) (fun _=>dm) ?_ ?_ ?_ ?_ (fun p hp g done=>?_) ?_
  ·intro p q hp hq h;simp[qd] at hp hq;rcases hp with rfl|rfl|rfl|rfl|rfl|rfl|rfl<;>rcases hq with rfl|rfl|rfl|rfl|rfl|rfl|rfl<;>first|rfl|(simp at h)
  ·intro p hp;simp[qd] at hp;rcases hp with rfl|rfl|rfl|rfl|rfl|rfl|rfl<;>simp
  ·have HE:(if c.due=-1 then(0:Int) else IntKind.i64.wrap (s.day-c.due))=tS s c.due:=by
        unfold tS;by_cases h:c.due=-1
        ·simp[h]
        ·have xC:aC c.due 100001=true:=by
          cases hb:aC c.due 100001
          ·exact absurd ⟨h,hb⟩ hd
          ·rfl
         simp[aC] at xC BV;rw[if_neg h,if_neg h];exact cd (by omega)
   simp[qd,iv,hlen,←yp];rw[←HE];by_cases h:c.due=-1<;>simp[h]
  ·simp[eY];rfl
  ·have hr:0≤p.1∧p.1<20:=by
        simp[qd] at hp;rcases hp with rfl|rfl|rfl|rfl|rfl|rfl|rfl<;>simp
   have hk:p.1.toNat<20:=by omega
   simp[aml,Lm,mP,As g hk];exact hr
  have agl:∀k (hk:k<c.file.alters.length),au T SQ (ln c.file.alters[k]::[.ref (dP c)]) (.bool (decide ((c.file.alters.getD k default).at_≤c.sign))):=fun k hk=>by
   refine .of_tree rfl Yj aov ?_;simp[MQ,hk]
  simp;refine⟨_,Wy c.file.alters _ _ _ agl (by omega),_,m0 r _,_,m0 r _,?_⟩;have HE:(if c.due=-1 then(0:Int) else IntKind.i64.wrap (s.day-c.due))=tS s c.due:=by
   unfold tS;by_cases h:c.due=-1
   ·simp[h]
   ·have xC:aC c.due 100001=true:=by
     cases hb:aC c.due 100001
     ·exact absurd ⟨h,hb⟩ hd
     ·rfl
    simp[aC] at xC BV;rw[if_neg h,if_neg h];exact cd (by omega)
  have HD:cells (Hc r c s)=eY (fun i=>if i=15 then iL c.file 0 c.sign else if i=16 then iL c.file 1 c.sign else if i=17 then iL c.file 2 c.sign else if i=18 then iL c.file 3 (lG c) else if i=19 then iL c.file 4 (lG c) else sW (qe r c s) eW (sW (qd c s) (fun n=>⟨true,n⟩) (fun _=>dm)) i):=by
   rfl
  generalize sW (qd c s) (fun n=>(⟨true,n⟩:Cell)) (fun _=>dm)=g1 at*;refine Rx (qe r c s) D.bool eW g1 ?_ ?_ ?_ ?_ (fun p hp g done=>?_) ?_
  ·intro p q hp hq h;simp[qe] at hp hq;rcases hp with rfl|rfl|rfl|rfl|rfl|rfl|rfl|rfl<;>rcases hq with rfl|rfl|rfl|rfl|rfl|rfl|rfl|rfl<;>first|rfl|(simp at h)
  ·intro p hp;simp[qe] at hp;rcases hp with rfl|rfl|rfl|rfl|rfl|rfl|rfl|rfl<;>simp
  ·simp[qe,iv,hlen,←yp,xg];rw[←HE];by_cases h:c.due=-1<;>simp[h,NR]
  ·simp
  ·have hr:0≤p.1∧p.1<20:=by
        simp[qe] at hp;rcases hp with rfl|rfl|rfl|rfl|rfl|rfl|rfl|rfl<;>simp
   have hk:p.1.toNat<20:=by omega
   simp[amm,Ln,mP,As g hk];refine⟨_,VE _,?_⟩;simp[As g hk];exact hr
  simp;generalize sW (qe r c s) eW g1=g2 at*;have hho:(if c.holder<0 then D.int 0 else D.int c.holder)=D.int (lG c):=by
   unfold lG;split<;>rfl
  rw[hho];refine⟨_,zJ _ _ _ (by omega),_,zJ _ _ _ (by omega),_,zJ _ _ _ (by omega),_,zJ _ _ _ (by omega),_,zJ _ _ _ (by omega),?_⟩;rw[HD];simp only[ZA,am5,ZC,ZB];refine Oj fun i hi=>?_;by_cases BE:i=15
  ·subst BE;simp
  by_cases BF:i=16
  ·subst BF;simp
  by_cases BG:i=17
  ·subst BG;simp
  by_cases BH:i=18
  ·subst BH;simp
  by_cases Pu:i=19
  ·subst Pu;simp
  simp[BE,BF,BG,BH,Pu]
end Rm
namespace Rm
open Go Go.Proofs Cx
def C2 (n:Nat)(x:Int):Bool:=decide (x<0)||decide ((n:Int)≤x)
def jf (r:Realm)(a q:Int)(l:List Int):Bool:=
 !(decide (a<0)||decide ((r.orders.length:Int)≤a)||decide (q<0)||decide (22≤q)||decide (l.length≠5))&& !((List.range l.length).any fun k=>C2 r.orders.length (l.getD k 0))
theorem acH (x n:Int):au T Jw [.int x,.ref (.int n)] (.bool (decide (x<0)||decide (n≤x))):=by
 refine .of_tree rfl Xs anE ?_;by_cases h:x<0<;>simp[Mb,h]
theorem O8 (r:Realm)(a q:Int)(l:List Int)(hl:l.length≤100000):au T R2 [bH r,.int a,.int q,ints l] (.bool (jf r a q l)):=by
 refine .of_tree rfl Xr anF ?_;by_cases h1:a<0
 ·simp[qo,jf,h1]
 by_cases h2:(r.orders.length:Int)≤a
 ·simp[qo,jf,h1,h2]
 by_cases h3:q<0
 ·simp[qo,jf,h1,h2,h3]
 by_cases h4:22≤q
 ·simp[qo,jf,h1,h2,h3,h4]
 by_cases h5:(l.length:Int)=5
 ·have BJ:l.length=5:=by omega
  simp[qo,h1,h2,h3,h4,BJ];refine⟨_,Wz l Jw [.ref (.int r.orders.length)] (fun k=>C2 r.orders.length (l.getD k 0)) (fun k hk=>by simpa [C2,hk] using acH l[k] r.orders.length) (by omega),?_⟩;simp only[jf,BJ];simp[h1,h2,h3,h4]
 ·have BJ:¬l.length=5:=by omega
  simp[qo,jf,h1,h2,h3,h4,BJ];intro h;omega
theorem G4 {r:Realm}{a q:Int}{l:List Int}(h:jf r a q l=true):(0≤a∧a<r.orders.length)∧l.length=5∧(∀x,x∈l→0≤x∧x<r.orders.length)∧∀b:Int,0≤b→b<r.orders.length→jf r b q l=true:=by
 unfold jf at h ⊢;rw[Bool.and_eq_true] at h;obtain⟨h1,h2⟩:=h;simp at h1;refine⟨by omega,h1.2,fun x hx=>?_,fun b gy dq=>?_⟩
 ·obtain⟨k,hk,rfl⟩:=List.getElem_of_mem hx;simp[C2] at h2;have:=h2 k hk;simp[hk] at this;omega
 ·rw[h2];simp;omega
def va (r:Realm):Prop:=∀o,o∈r.orders→o.choices.length≤100000∧∀ch,ch∈o.choices→0≤ch.by_∧ch.by_<5
def rD (q:Int)(ch:Choice):Bool:=decide (ch.ask=q)&&decide (ch.by_≠0)
def kH (r:Realm)(a:Int):Order:=r.orders.getD a.toNat default
def eu (r:Realm)(a q:Int)(l:List Int):Int×Bool:=
 (match(kH r a).choices.find? (rD q) with|some ch=>l.getD ch.by_.toNat 0|none=>a,match(kH r a).choices.find? (rD q) with|some ch=>ch.whole|none=>false)
theorem NI (r:Realm)(lC:va r)(a q:Int)(l:List Int)(hl:l.length≤100000)(hf:jf r a q l=true):
 au T R1 [bH r,.int a,.int q,ints l] (.tup [.int (eu r a q l).1,.bool (eu r a q l).2])∧0≤(eu r a q l).1∧(eu r a q l).1<r.orders.length:=by
 obtain⟨ha,Qe,hx,_⟩:=G4 hf;have ly:a.toNat<r.orders.length:=by omega
 obtain⟨bh,mz⟩:=lC _ (List.getElem_mem ly);obtain⟨o,ho⟩:∃o,o=r.orders[a.toNat]:=⟨_,rfl⟩
 rw[←ho] at bh mz;have H3:kH r a=o:=by rw[ho];simp[kH,ly]
 unfold eu;rw[H3];refine⟨?_,?_⟩
 ·refine .of_tree rfl Xq anD ?_;simp[Ma];refine⟨_,O8 r a q l hl,?_⟩;simp[hf,ly,←ho,ha];refine aU.scan o.choices.length (fun k=>rD q (o.choices.getD k default)=false) (fun k=>[.int 0,.bool false,.int k]) (fun _=>[]) ?_ (fun k hk hj aw=>?_) (fun k hk hj aw=>?_) (fun hj=>?_)
  ·simp
  ·have hw:=bM hk (by omega);have hn:¬(o.choices[k].ask=q∧¬o.choices[k].by_=0):=by simpa [rD,hk] using aw
   simp[KZ,zc,ly,←ho,hk,hw,hn]
  ·have kq:=Bv hk (by simpa [hk] using aw) (fun j cL=>by have:=hj j cL;simpa [show j<o.choices.length by omega] using this);rw[kq];have hc:o.choices[k].ask=q∧¬o.choices[k].by_=0:=by simpa [rD,hk] using aw
   have hb:=mz _ (List.getElem_mem hk);have BR:o.choices[k].by_.toNat<l.length:=by omega
   simp[KZ,zc,ly,←ho,hk,hc,ints,BR];omega
  ·have kq:=G3 (l:=o.choices) (p:=rD q) (fun j cL=>by have:=hj j cL;simpa [cL] using this);rw[kq];simp[KZ,zc,ly,←ho]
 ·cases kq:o.choices.find? (rD q) with
  |none=>exact ha
  |some ch=>
   have hb:=mz _ (List.mem_of_find?_eq_some kq);have BR:ch.by_.toNat<l.length:=by omega
   simp[BR];exact hx _ (List.getElem_mem BR)
theorem Kw:∀(N:Nat) (l:List Int),l.Nodup→(∀x,x∈l→0≤x∧x<(N:Int))→l.length≤N
 |0,l,hn,h=>by
  cases l with
  |nil=>simp
  |cons a l=>have:=h a (by simp);omega
 |N+1,l,hn,h=>by
  by_cases hm:(N:Int)∈l
  ·have h1:=Kw N (l.erase (N:Int)) (hn.erase _) (fun x hx=>by
    have cD:=(hn.mem_erase_iff).mp hx;have:=h x cD.2;have av:=cD.1;omega)
   rw[List.length_erase_of_mem hm] at h1;omega
  ·have h1:=Kw N l hn (fun x hx=>by
    have:=h x hx;have av:x≠(N:Int):=fun e=>hm (e▸hx);omega)
   omega
def cF (l:List Int):Int:=l.getD (l.length-1) 0
def il (r:Realm)(q:Int)(l:List Int):Nat→List Int→List Int×Int
 |0,p=>(p,0)
 |n+1,p=>
  if(eu r (cF p) q l).1=cF p then(p,0)
  else if(eu r (cF p) q l).2=false∨(hasB p (eu r (cF p) q l).1=true∧(kH r (eu r (cF p) q l).1).accepts=true) then(p++[(eu r (cF p) q l).1],0)
  else if hasB p (eu r (cF p) q l).1=true then(p++[(eu r (cF p) q l).1],12)
  else il r q l n (p++[(eu r (cF p) q l).1])
theorem IZ (r:Realm)(q:Int)(l:List Int)(n:Nat)(p:List Int):il r q l (n+1) p=
 if(eu r (cF p) q l).1=cF p then(p,0)
 else if(eu r (cF p) q l).2=false∨(hasB p (eu r (cF p) q l).1=true∧(kH r (eu r (cF p) q l).1).accepts=true) then(p++[(eu r (cF p) q l).1],0)
 else if hasB p (eu r (cF p) q l).1=true then(p++[(eu r (cF p) q l).1],12)
 else il r q l n (p++[(eu r (cF p) q l).1]):=rfl
def fQ (r:Realm)(a q:Int)(l:List Int):List Int×Int:=if jf r a q l=true∧l.getD 0 0=a then il r q l r.orders.length [a] else([],1)
theorem WJ (r:Realm)(lC:va r)(hn:r.orders.length≤100000)(a q:Int)(l:List Int)(hl:l.length≤100000):au T R0 [bH r,.int a,.int q,ints l] (.tup [ints (fQ r a q l).1,.int (fQ r a q l).2]):=by
 refine .of_tree rfl Xp anC ?_;simp[L9];refine⟨_,O8 r a q l hl,?_⟩;cases hf:jf r a q l
 ·simp[fQ,hf];rfl
 obtain⟨ha,Qe,hx,th⟩:=G4 hf;have h0:0<l.length:=by omega
 by_cases xS:l[0]=a
 ·have hE:fQ r a q l=il r q l r.orders.length [a]:=by unfold fQ;rw[if_pos ⟨hf,by simp[h0,xS]⟩]
  rw[hE];simp[h0,xS,ints];refine aU.forLoop (α:=Nat×List Int) (fun s vr vo=>vr=[.list [],.int 0,.none]∧vo=[ints s.2]∧s.2.Nodup∧(∀x,x∈s.2→0≤x∧x<(r.orders.length:Int))∧s.2≠[]∧s.1+s.2.length=r.orders.length+1∧il r q l s.1 s.2=il r q l r.orders.length [a]) (fun s=>s.1) (r.orders.length,[a]) ?_ ?_
  ·simp[ints];exact ha
  ·rintro⟨n,p⟩ vr vo ⟨rfl,rfl,bk,bq,av,hlen,xT⟩;simp only at*;have dS:p.length≤r.orders.length:=Kw _ p bk bq;have agQ:0<p.length:=List.length_pos_iff.mpr av;obtain⟨m,rfl⟩:∃m,n=m+1:=⟨n-1,by omega⟩
   have ae:p.length-1<p.length:=by omega
   have hZ:cF p=p[p.length-1]:=by simp[cF,ae]
   have q7:=bq _ (List.getElem_mem ae);rw[←hZ] at q7;obtain⟨Hm,eQ,eR⟩:=NI r lC (cF p) q l hl (th _ q7.1 q7.2);have HN:((p.length:Int)-1).toNat=p.length-1:=by omega
   have IJ:IntKind.i64.wrap ((p.length:Int)-1)=(p.length:Int)-1:=cd (by omega);rw[←xT,IZ];obtain⟨L,hL⟩:∃L,L=eu r (cF p) q l:=⟨_,rfl⟩
   rw[←hL] at Hm eQ eR ⊢;obtain⟨to,whole⟩:=L;simp only at Hm eQ eR;have tJ:to.toNat<r.orders.length:=by omega
   have H3:kH r to=r.orders[to.toNat]:=by simp[kH,tJ]
   simp only[H3];simp[al4,KY,IJ,HN,ae,←hZ,ints];refine⟨by omega,_,Hm,?_⟩;by_cases h1:to=cF p
   ·simp[h1]
   simp[h1];refine⟨_,Ae p to (by omega),by omega,?_⟩;cases whole
   ·simp
   cases h2:hasB p to
   ·have cM:to∉p:=fun hm=>by
     have:hasB p to=true:=by simp[hasB,hm]
     rw[h2] at this;cases this
    simp[h2];refine⟨m,by omega,p++[to],by simp,?_,?_,by simp,by simp;omega,rfl⟩
    ·exact List.nodup_append.mpr ⟨bk,by simp,fun x hx y hy=>by simp at hy;subst hy;exact fun e=>cM (e▸hx)⟩
    ·intro x hx;rcases List.mem_append.mp hx with h|h
     ·exact bq x h
     ·simp at h;subst h;exact⟨eQ,eR⟩
   ·cases h3:r.orders[to.toNat].accepts<;>simp[h2,h3,tJ]<;>omega
 ·have hE:fQ r a q l=([],1):=by unfold fQ;rw[if_neg (by simp[h0,xS])]
  rw[hE];simp[h0,xS];rfl
end Rm
namespace Rm
open Go Go.Proofs Cx
def dx (f:File)(i:Int):Sign:=f.signs.getD i.toNat default
def jz (r:Realm)(ar:Int)(c:Case):List Int:=[ar,jy r (dx c.file c.sign).city,jy r c.file.bill.pay,jy r c.file.bill.city,jy r (r.firms.getD (dx c.file c.sign).who.toNat default).city]
def mf (r:Realm)(ar:Int)(c:Case):Prop:=(dx c.file c.sign).who<0∨(r.firms.length:Int)≤(dx c.file c.sign).who∨ar<0∨(r.orders.length:Int)≤ar
instance (r:Realm) (ar:Int) (c:Case):Decidable (mf r ar c):=by unfold mf;infer_instance
def gH (r:Realm)(ar:Int)(c:Case):List Int:=if mf r ar c then[] else if hasB (jz r ar c) (-1)=true then[] else jz r ar c
@[simp] theorem arS (r:Realm)(x:Int):sK (bH r) x=jy r x:=by
  unfold sK jy aC;by_cases h:0≤x∧x<(r.cities.length:Int)
  ·have hx:x.toNat<r.cities.length:=by omega
   rw[if_pos (by simpa using h),if_pos (by simpa using h)];simp[hx]
  ·rw[if_neg (by simpa using h),if_neg (by simpa using h)]
theorem UH (r:Realm)(ar:Int)(c:Case)(h1:c.sign.toNat<c.file.signs.length):Ky [bH r,.int ar,dP c]=ints (gH r ar c):=by
 have hs:dx c.file c.sign=c.file.signs[c.sign.toNat]:=by simp[dx,h1]
 unfold Ky gH;simp[h1];by_cases hb:mf r ar c
 ·rw[if_pos (by simpa [mf,hs] using hb),if_pos hb];rfl
 ·rw[if_neg (by simpa [mf,hs] using hb),if_neg hb];have Ct:(dx c.file c.sign).who.toNat<r.firms.length:=by unfold mf at hb;omega
  have QQ:c.file.signs[c.sign.toNat].who.toNat<r.firms.length:=by rw[←hs];exact Ct
  have gA:jz r ar c=[ar,jy r c.file.signs[c.sign.toNat].city,jy r c.file.bill.pay,jy r c.file.bill.city,jy r r.firms[c.file.signs[c.sign.toNat].who.toNat].city]:=by
   simp[jz,hs,QQ]
  have cA:∀l:List Int,hasB l (-1)=true↔-1∈l:=fun l=>by simp[hasB]
  rw[gA];simp[QQ];split
  ·rename_i h;rw[if_pos ((cA _).mpr (by simpa using h))];rfl
  ·rename_i h;rw[if_neg (fun h'=>h (by simpa using(cA _).mp h'))]
theorem alw (r:Realm)(ar:Int)(c:Case)(h1:0≤c.sign∧c.sign<c.file.signs.length):au T aj8 [bH r,.int ar,dP c] (ints (gH r ar c)):=by
 have cE:c.sign.toNat<c.file.signs.length:=by omega
 rw[←UH r ar c cE];have hs:dx c.file c.sign=c.file.signs[c.sign.toNat]:=by simp[dx,cE]
 refine au.of_nsl rfl ans ant ?_;rw[UH r ar c cE];by_cases hb:mf r ar c
 ·refine .inr ⟨by simp[gH,hb];rfl,?_⟩;have eF:=hb;simp[mf,hs] at eF;simp[FD,h1,cE]
  intros;omega
 have my:gH r ar c=if hasB (jz r ar c) (-1)=true then[] else jz r ar c:=by unfold gH;rw[if_neg hb]
 have eF:=hb;simp[mf,hs] at eF;have hw:c.file.signs[c.sign.toNat].who.toNat<r.firms.length:=by omega
 have hC:=Ae (jz r ar c) (-1) (by simp[jz]);cases hh:hasB (jz r ar c) (-1)<;>rw[hh] at hC<;>simp[jz,ints,hs,hw] at hC
 ·refine .inl ⟨(jz r ar c).map .int,by simp[jz],by rw[my,hh];rfl,?_⟩;simp[L4,h1,cE,hw];rw[if_neg (by omega)];refine⟨_,m0 r _,_,m0 r _,_,m0 r _,by omega,_,m0 r _,_,by simpa using hC,?_⟩;simp[jz,hs,hw]
 ·refine .inr ⟨by rw[my,hh];rfl,?_⟩;simp[FD,h1,cE,hw]
  intros
  refine⟨_,m0 r _,_,m0 r _,_,m0 r _,by omega,_,m0 r _,_,by simpa using hC,?_⟩;simp
end Rm
namespace Rm
open Go Go.Proofs Cx
structure Right (r:Realm):Prop where
 by_:va r
 len:r.orders.length≤100000
 ok:∀o,o∈r.orders→o.OK∧o.rules.length≤100000
structure FewS (f:File):Prop where
 signs:f.signs.length≤1000
 alters:f.alters.length≤1000
 acts:f.acts.length≤1000
 facts:f.facts.length≤1000
theorem Wm {α:Type}(p:α→Bool)(l:List α):(l.takeWhile p).length≤l.length:=by
 obtain⟨m,h1,h2,_⟩:=FH p l;rw[h2,List.length_take];omega
theorem FewS.at_ {f:File}(h:FewS f)(day:Int):FewS (qD f day):=
 ⟨Nat.le_trans (Wm _ _) h.1,Nat.le_trans (List.length_filter_le _ _) h.2,Nat.le_trans (Wm _ _) h.3,Nat.le_trans (List.length_filter_le _ _) h.4⟩
def fw (c:Case):Case:={c with file:=qD c.file c.day}
@[simp] theorem arK (x:File)(a0 a1 a2 a3 a4 a5 a6 a7 a8 a9 qx qy qz qA qB vc vd ve vf:D)(s h d u y:Int):jc 24 (D.agg (dL [a0,a1,a2,a3,a4,a5,a6,a7,a8,a9,qx,qy,qz,qA,qB,vc,vd,ve,vf,.int s,.int h,.int d,.int u,.int y] 0 [.int x.bill.drawer,.int x.bill.drawee,.int x.bill.payee,.int x.bill.sum,.int x.bill.currency,.int x.bill.tenor.kind,.int x.bill.tenor.n,.int x.bill.tenor.unit,.int x.bill.day,.int x.bill.city,.int x.bill.pay,.int x.bill.need,.int x.bill.rate,.int x.bill.flags,.int x.bill.parts,signs x.signs,alters x.alters,acts x.acts,facts x.facts]))=dP ⟨x,s,h,d,u,y⟩:=_root_.id rfl
theorem Xd (r:Realm)(c:Case)(hf:FewS c.file):au T RT [bH r,dP c] (.tup [dP (fw c),cells (gM r (fw c))]):=by
 refine .of_tree rfl Xi anr ?_;simp[L3];have h1:=hf.1;have h2:=hf.2;have h3:=hf.3;have h4:=hf.4;refine⟨_,amu c.file c.day (by omega) (by omega) (by omega) (by omega),?_⟩;have BZ:=hf.at_ c.day;have h5:=BZ.4;have h6:=BZ.2;simp;exact⟨amv r (fw c) (by show(qD c.file c.day).facts.length≤_;omega) (by show(qD c.file c.day).alters.length≤_;omega),(congrArg (jc 24) (ald (fw c) _ _ _ _ _ _ _ _ _ _ _ _ _ _ _ _ _ _ _ _ _ _ _ _)).trans (W5 (fw c))⟩
theorem aph {r:Realm}{c:Case}(h:gM r c≠[]):0≤c.sign∧c.sign<c.file.signs.length:=by
 unfold gM at h;split at h
 ·rename_i hh;have h1:=hh.1;unfold oG at h1;simp[aC] at h1;omega
 ·exact absurd rfl h
theorem Re (r:Realm)(lC:va r)(q:Int)(l:List Int)(hl:l.length≤100000)(th:∀b:Int,0≤b→b<r.orders.length→jf r b q l=true):∀(n:Nat) (p:List Int),p≠[]→(∀x,x∈p→0≤x∧x<(r.orders.length:Int))→
 (il r q l n p).1≠[]∧∀x,x∈(il r q l n p).1→0≤x∧x<(r.orders.length:Int)
 |0,p,av,hp=>⟨av,hp⟩
 |n+1,p,av,hp=>by
  have ae:p.length-1<p.length:=by have:=List.length_pos_iff.mpr av;omega
  have hZ:cF p=p[p.length-1]:=by simp[cF,ae]
  have q7:=hp _ (List.getElem_mem ae);rw[←hZ] at q7;obtain⟨_,ht⟩:=NI r lC (cF p) q l hl (th _ q7.1 q7.2)
  have aN:∀x,x∈p++[(eu r (cF p) q l).1]→0≤x∧x<(r.orders.length:Int):=fun x hx=>by
   rcases List.mem_append.mp hx with h|h
   ·exact hp x h
   ·simp at h;subst h;exact ht
  rw[IZ];split
  ·exact⟨av,hp⟩
  split
  ·exact⟨by simp,aN⟩
  split
  ·exact⟨by simp,aN⟩
  ·exact Re r lC q l hl th n _ (by simp) aN
theorem Rd {r:Realm}(hr:Right r){a q:Int}{l:List Int}(hl:l.length≤100000)(h:(fQ r a q l).2=0):(fQ r a q l).1≠[]∧0≤cF (fQ r a q l).1∧cF (fQ r a q l).1<r.orders.length:=by
 unfold fQ at h ⊢;split at h
 ·rename_i hh;rw[if_pos hh];obtain⟨ha,Qe,hx,th⟩:=G4 hh.1;obtain⟨h1,h2⟩:=Re r hr.by_ q l hl th r.orders.length [a] (by simp) (fun x hx=>by simp at hx;subst hx;exact ha);refine⟨h1,?_⟩;have ae:(il r q l r.orders.length [a]).1.length-1<(il r q l r.orders.length [a]).1.length:=by have:=List.length_pos_iff.mpr h1;omega
  have hZ:cF (il r q l r.orders.length [a]).1=(il r q l r.orders.length [a]).1[(il r q l r.orders.length [a]).1.length-1]:=by simp[cF,ae]
  rw[hZ];exact h2 _ (List.getElem_mem ae)
 ·cases h
theorem Rf (r:Realm)(q:Int)(l:List Int):∀(n:Nat) (p:List Int),(il r q l n p).1.length≤p.length+n
 |0,p=>by simp[il]
 |n+1,p=>by
  rw[IZ];split
  ·simp
  split
  ·simp
  split
  ·simp
  ·have:=Rf r q l n (p++[(eu r (cF p) q l).1]);simp at this;omega
theorem ahU (r:Realm)(a q:Int)(l:List Int):(fQ r a q l).1.length≤1+r.orders.length:=by
 unfold fQ;split
 ·exact Rf r q l _ [a]
 ·simp
@[simp] theorem avi (a b c d e x:D):dL [a,b,c,d,e] 2 [x]=[a,b,x,d,e]:=_root_.id rfl
@[simp] theorem avj (a b c d e x:D):dL [a,b,c,d,e] 3 [x]=[a,b,c,x,e]:=_root_.id rfl
@[simp] theorem avk (a b c d e x:D):dL [a,b,c,d,e] 4 [x]=[a,b,c,d,x]:=_root_.id rfl
def JF:Said:=⟨dm,-1,[],1⟩
def fD (r:Realm)(ar q:Int)(c:Case):Said×List Cell:=
 if gM r (fw c)=[] then(JF,[]) else if(jG q).2=false then(JF,[]) else if gH r ar (fw c)=[] then(JF,[]) else
    (⟨dm,if(fQ r ar q (gH r ar (fw c))).2=0 then cF (fQ r ar q (gH r ar (fw c))).1 else-1,(fQ r ar q (gH r ar (fw c))).1,(fQ r ar q (gH r ar (fw c))).2⟩,gM r (fw c))
theorem UI (r:Realm)(ar:Int)(c:Case):(gH r ar c).length≤5:=by
 unfold gH;split
 ·simp
 split<;>simp[jz]
theorem Xc (r:Realm)(hr:Right r)(ar q:Int)(c:Case)(hf:FewS c.file):au T RS [bH r,.int ar,.int q,dP c] (.tup [Bo (fD r ar q c).1,cells (fD r ar q c).2]):=by
 refine .of_tree rfl Xh anq ?_;simp[L2];refine⟨_,Xd r c hf,?_⟩;by_cases hv:gM r (fw c)=[]
 ·simp[hv,fD];exact⟨rfl,rfl⟩
 simp[hv,fD];refine⟨_,J9 q,?_⟩;cases hq:(jG q).2
 ·simp[hq];exact⟨rfl,rfl⟩
 simp[hq];refine⟨_,alw r ar (fw c) (aph hv),?_⟩;by_cases hp:gH r ar (fw c)=[]
 ·simp[hp];exact⟨rfl,rfl⟩
 have dS:=UI r ar (fw c);have av:ints (gH r ar (fw c))≠.list []:=fun e=>hp (by simpa [ints] using e);simp[hp];generalize gH r ar (fw c)=l at*;refine⟨_,WJ r hr.by_ hr.len ar q l (by omega),?_⟩;have hlen:=ahU r ar q l;have xT:=Rd hr (a:=ar) (q:=q) (l:=l) (by omega);have H7:=hr.len;generalize fQ r ar q l=L at*;obtain⟨path,err⟩:=L;simp only at*;by_cases he:err=0
 ·obtain⟨h1,h2⟩:=xT he;have agQ:=List.length_pos_iff.mpr h1;have IJ:IntKind.i64.wrap ((path.length:Int)-1)=(path.length:Int)-1:=cd (by omega);have HN:((path.length:Int)-1).toNat=path.length-1:=by omega
  have ae:path.length-1<path.length:=by omega
  have hZ:cF path=path[path.length-1]:=by simp[cF,ae]
  simp[he,IJ,HN,ae,←hZ];exact⟨by omega,rfl⟩
 ·simp[he];rfl
def jd (r:Realm)(ar q:Int)(c:Case):Said:=
 if(fD r ar q c).1.order=-1 then(fD r ar q c).1
 else⟨(me (kH r (fD r ar q c).1.order) q (fD r ar q c).2).1,(fD r ar q c).1.order,(fD r ar q c).1.path,(me (kH r (fD r ar q c).1.order) q (fD r ar q c).2).2⟩
theorem Xb {r:Realm}(hr:Right r)(ar q:Int)(c:Case):(fD r ar q c).1.order=-1∨(0≤(fD r ar q c).1.order∧(fD r ar q c).1.order<r.orders.length):=by
 unfold fD;split
 ·exact .inl rfl
 split
 ·exact .inl rfl
 split
 ·exact .inl rfl
 ·have dS:=UI r ar (fw c);have xT:=Rd hr (a:=ar) (q:=q) (l:=gH r ar (fw c)) (by omega);show(if _ then _ else _)=_∨_;split
  ·rename_i h;exact .inr (xT h).2
  ·exact .inl rfl
theorem NU (r:Realm)(hr:Right r)(ar q:Int)(c:Case)(hf:FewS c.file):au T RQ [bH r,.int ar,.int q,dP c] (Bo (jd r ar q c)):=by
 refine .of_tree rfl Xf ano ?_;simp[LZ];refine⟨_,Xc r hr ar q c hf,?_⟩;have ho:=Xb hr ar q c;unfold jd;generalize fD r ar q c=S at*;obtain⟨s,cs⟩:=S;simp only at*;by_cases h:s.order=-1
 ·obtain⟨⟨kn,n⟩,o,pth,e⟩:=s;simp only at h;subst h;simp;rfl
 ·have h1:0≤s.order∧s.order<r.orders.length:=by omega
  have h2:s.order.toNat<r.orders.length:=by omega
  have h3:kH r s.order=r.orders[s.order.toNat]:=by simp[kH,h2]
  obtain⟨aw,hlen⟩:=hr.ok _ (List.getElem_mem h2);simp[h,h1,h2,h3];refine⟨_,ak9 _ q cs aw (by omega),?_⟩;simp;rfl
def nZ (s:Said):Int:=if s.err≠0∨s.cell.known=false then-1 else s.cell.n
theorem NV (s:Said):au T RR [Bo s] (.int (nZ s)):=by
 refine .of_tree rfl Xg anp ?_;unfold nZ;by_cases h1:s.err=0<;>cases h2:s.cell.known<;>simp[L1,h1,h2]
end Rm
namespace Rm
open Go Go.Proofs Cx
end Rm
namespace Rm
open Go Go.Proofs Cx
theorem WQ (r:Realm)(fr to:Int)(hl:r.usances.length≤100000):∃n e:Int,au T SB [bH r,.int fr,.int to] (.tup [.int n,.int e])∧(e=0→∃u,u∈r.usances∧n=u.days)∧(e=0↔∃u,u∈r.usances∧u.fr=fr∧u.to=to):=by
 let p:Usance→Bool:=fun u=>decide (u.fr=fr)&&decide (u.to=to)
 refine⟨match r.usances.find? p with|some u=>u.days|none=>0,match r.usances.find? p with|some u=>0|none=>4,?_,?_⟩
 ·refine .of_tree rfl X5 aoi ?_;simp[MC];refine aU.scan r.usances.length (fun k=>p (r.usances.getD k default)=false) (fun k=>[.int 0,.int 0,.int k]) (fun _=>[]) ?_ (fun k hk hj aw=>?_) (fun k hk hj aw=>?_) (fun hj=>?_)
  ·simp
  ·have hw:=bM hk (by omega);have hn:¬(r.usances[k].fr=fr∧r.usances[k].to=to):=by simpa [p,hk] using aw
   simp[K7,zk,hk,hw,hn]
  ·have kq:=Bv hk (by simpa [hk] using aw) (fun j cL=>by have:=hj j cL;simpa [show j<r.usances.length by omega] using this);have hc:r.usances[k].fr=fr∧r.usances[k].to=to:=by simpa [p,hk] using aw
   rw[kq];simp[K7,zk,hk,hc]
  ·have kq:=G3 (l:=r.usances) (p:=p) (fun j cL=>by have:=hj j cL;simpa [cL] using this);rw[kq];simp[K7,zk]
 ·cases h:r.usances.find? p with
  |none=>
   refine⟨fun h=>(by cases h),fun h=>(by cases h),fun⟨u,hu,h1,h2⟩=>?_⟩;have:=List.find?_eq_none.1 h u hu;simp[p,h1,h2] at this
  |some u=>
   have h2:u.fr=fr∧u.to=to:=by simpa [p] using List.find?_some h
   exact⟨fun _=>⟨u,List.mem_of_find?_eq_some h,rfl⟩,fun _=>⟨u,List.mem_of_find?_eq_some h,h2⟩,fun _=>rfl⟩
end Rm
namespace Rm
open Go Go.Proofs Cx
end Rm
namespace Rm
open Go Go.Proofs Cx
end Rm
namespace Rm
open Go Go.Proofs Cx
end Rm
namespace Rm
open Go Go.Proofs Cx
end Rm
namespace Rm
open Go Go.Proofs Cx
def NH (r:Realm):Prop:=r.halts.length≤100000∧∀h,h∈r.halts→0≤h.fr∧h.to≤100000
end Rm
namespace Rm
open Go Go.Proofs Cx
structure RightD (r:Realm):Prop where
 small:Small r
 halts:NH r
theorem au.ex_of_tree {tab:Nat→Option PC}{ext:Nat→Option (aO→List D→Option D)}{f:Nat}{pc:PC}{t:PT}{ds:List D}{P:D→Prop}(hx:ext f=none)(ht:tab f=some pc)(he:tree pc=t)
 (h:ax (cr tab ext) t (gR ds) (fun x=>∃d,x=.ret d∧P d)):∃d,au (cr tab ext) f ds d∧P d:=by
 subst he;obtain⟨x,⟨d,rfl,hd⟩,n0,hn⟩:=Wl (Ey ⟨fun _ _ _ h=>(by obtain⟨_,h,_⟩:=h;cases h),fun _ _ _ _ _ _ h=>(by obtain⟨_,h,_⟩:=h;cases h),fun _ h=>h⟩ h);exact⟨d,.of_pc hx ht ⟨.ret d,rfl,n0,hn⟩,hd⟩
end Rm
namespace Rm
open Go Go.Proofs Cx
end Rm
namespace Rm
open Go Go.Proofs Cx
theorem G5 {n:Nat}{f:Nat→Int}(h:dQ n f=0)(k:Nat)(hk:k<n):f k=0:=O9.1 h k hk
theorem aa6 {r:Realm}(h:ld r=0)(k:Nat)(hk:k<r.orders.length):pJ r.orders[k]=true:=by
 unfold ld at h;rw[LM] at h;have h1:=h (kl (nU r) 20 (rS r)) (by simp);unfold kl at h1;split at h1
 ·cases h1
 have h2:=G5 h1 k (by simpa [nU] using hk);have h3:=(acL h2).2;unfold rS at h3;simpa [hk] using h3
theorem aeI {r:Realm}(hs:Small r)(h:ld r=0):va r:=by
 intro o ho;obtain⟨k,hk,rfl⟩:=List.getElem_of_mem ho;have h1:=aa6 h k hk;obtain⟨hc,_⟩:=hs.order _ ho;refine⟨by omega,fun ch mz=>?_⟩;unfold pJ at h1;simp only[Bool.and_eq_true] at h1;obtain⟨j,hj,rfl⟩:=List.getElem_of_mem mz;have h2:=Ai.1 h1.1 j hj;simpa [aC,hj] using h2
theorem aeJ {r:Realm}(hs:Small r)(h:ld r=0):NH r:=by
 refine⟨by have:=hs.halts;omega,fun x hx=>?_⟩;obtain⟨k,hk,rfl⟩:=List.getElem_of_mem hx;unfold ld at h;rw[LM] at h;have h1:=h (p9 r) (by simp);unfold p9 at h1;split at h1
 ·cases h1
 split at h1
 ·cases h1
 split at h1
 ·cases h1
 split at h1
 ·rename_i aJ;have h2:=Ai.1 aJ k hk;simp[xz,wi,aC,hk] at h2;omega
 ·cases h1
structure Good (r:Realm) (f:File):Prop where
 right:Right r
 au0:RightD r
 few:FewS f
theorem aeK {r:Realm}{f:File}(hr:r.OK)(h:BA r f=true):Good r f:=by
 unfold BA ny at h;simp only[Bool.and_eq_true,decide_eq_true_eq] at h;obtain⟨⟨⟨h1,h2⟩,h3⟩,h4⟩:=h;have hs:=G1 hr h1;refine⟨⟨aeI hs h4,by have:=hs.orders;omega,fun o ho=>?_⟩,⟨hs,aeJ hs h4⟩,?_⟩
 ·have:=hs.order o ho;refine⟨?_,by omega⟩;exact hr.2.2.2.2.1.2 o ho
 ·simp[w8] at h2;exact⟨by omega,by omega,by omega,by omega⟩
end Rm
namespace Rm
open Go Go.Proofs Cx
end Rm
namespace Rm
open Go Go.Proofs Cx
end Rm
namespace Rm
open Go Go.Proofs Cx
end Rm
namespace Rm
open Go Go.Proofs Cx
end Rm
namespace Rm
open Go Cx
structure Estate where
 firm:Int
 day:Int
 pot:Int
 deriving DecidableEq,Inhabited
def oM (x:Estate):D:=.agg [.int x.firm,.int x.day,.int x.pot]
@[simp] theorem aqk (x:Estate):(oM x).cells=[.int x.firm,.int x.day,.int x.pot]:=_root_.id rfl
@[simp] theorem auv (x:Estate):D.agg [.int x.firm,.int x.day,.int x.pot]=oM x:=_root_.id rfl
@[simp] theorem aqh (x:Estate):(oM x).c 0=.int x.firm:=_root_.id rfl
@[simp] theorem aqi (x:Estate):(oM x).c 1=.int x.day:=_root_.id rfl
@[simp] theorem aqj (x:Estate):(oM x).c 2=.int x.pot:=_root_.id rfl
abbrev ao0:Ty:=.agg [.int .i64,.int .i64,.int .i64]
def Estate.OK (x:Estate):Prop:=aR x.firm∧aR x.day∧aR x.pot
theorem acu {d:D}(h:DTy ao0 d):∃x:Estate,d=oM x∧x.OK:=by
 obtain⟨ds,rfl,hs⟩:=h.agg_inv;obtain⟨d0,ds,rfl,h0,hs⟩:=hs.cons_inv;obtain⟨d1,ds,rfl,h1,hs⟩:=hs.cons_inv;obtain⟨d2,ds,rfl,h2,hs⟩:=hs.cons_inv;obtain rfl:=hs.nil_inv;obtain⟨n0,rfl,b0⟩:=h0.i64_inv;obtain⟨n1,rfl,b1⟩:=h1.i64_inv;obtain⟨n2,rfl,b2⟩:=h2.i64_inv;exact⟨⟨n0,n1,n2⟩,rfl,⟨b0,b1,b2⟩⟩
end Rm
namespace Rm
open Go Go.Proofs Cx
theorem W8 (o:Order)(q:Int)(cs:List Cell)(hq:(jG q).1=0)(hk:(me o q cs).1.known=true):0≤(me o q cs).1.n∧(me o q cs).1.n≤20000:=by
 unfold me at hk ⊢;split at hk
 ·cases hk
 ·rename_i h;rw[if_neg h];simp only at hk ⊢;split at hk
  ·rename_i h2;rw[if_pos h2];simp only;omega
  ·rename_i h2;exact absurd ⟨hq,hk⟩ h2
theorem Xe (r:Realm)(ar q:Int)(c:Case)(hq:(jG q).1=0)(hk:(jd r ar q c).cell.known=true):0≤(jd r ar q c).cell.n∧(jd r ar q c).cell.n≤20000:=by
 unfold jd at hk ⊢;split at hk
 ·rename_i h;exfalso;have:(fD r ar q c).1.cell=dm:=by
   unfold fD
   repeat' split
   all_goals rfl
  rw[this] at hk;cases hk
 ·rename_i h;rw[if_neg h];exact W8 _ _ _ hq hk
theorem ake (r:Realm)(ar q:Int)(c:Case)(hq:(jG q).1=0):nZ (jd r ar q c)=-1∨(0≤nZ (jd r ar q c)∧nZ (jd r ar q c)≤20000):=by
 unfold nZ;split
 ·exact .inl rfl
 ·rename_i h;refine .inr (Xe r ar q c hq ?_);cases e:(jd r ar q c).cell.known
  ·exact absurd (.inr e) h
  ·rfl
end Rm
namespace Rm
open Go Go.Proofs Cx
@[simp] theorem auN:D.none.b=false:=_root_.id rfl
theorem dw (n a b:Int):au T yK [.int n,.int a,.int b] (.bool (wi n a b)):=by
 refine .of_tree rfl XP an2 ?_;simp[Mo];by_cases h:a≤n<;>simp[wi,h]
theorem ke (n m:Int):au T Tn [.int n,.int m] (.bool (aC n m)):=by
 refine .of_tree rfl YK aoX ?_;simp[Nh];by_cases h:0≤n<;>simp[aC,h]
def Fz (b:Bill):Bool:=
 if b.tenor.kind=0∨b.tenor.kind=4 then decide (b.tenor.n=0)&&decide (b.tenor.unit=0)
 else if b.tenor.kind=1∨b.tenor.kind=2 then(decide (1≤b.tenor.n)&&decide (b.tenor.n≤400))&&(decide (b.tenor.unit=0)||decide (b.tenor.unit=1))
 else if b.tenor.kind=3 then(decide (b.day≤b.tenor.n)&&decide (b.tenor.n≤100000))&&decide (b.tenor.unit=0)
 else false
theorem apn (b:Bill):au T To [ed b] (.bool (Fz b)):=by
 refine .of_tree rfl YL aoY ?_;unfold Fz;simp[Ni];by_cases h0:b.tenor.kind=0
 ·by_cases h1:b.tenor.n=0<;>simp[h0,h1]
 by_cases h4:b.tenor.kind=4
 ·by_cases h1:b.tenor.n=0<;>simp[h4,h1]
 simp[h0,h4];by_cases k1:b.tenor.kind=1
 ·by_cases h1:1≤b.tenor.n<;>by_cases h2:b.tenor.n≤400<;>by_cases h3:b.tenor.unit=0<;>simp[k1,h1,h2,h3]
 by_cases k2:b.tenor.kind=2
 ·by_cases h1:1≤b.tenor.n<;>by_cases h2:b.tenor.n≤400<;>by_cases h3:b.tenor.unit=0<;>simp[k2,h1,h2,h3]
 simp[k1,k2];by_cases k3:b.tenor.kind=3
 ·by_cases h1:b.day≤b.tenor.n<;>by_cases h2:b.tenor.n≤100000<;>simp[k3,h1,h2]
 simp[k3]
def nV (n m:Int):Bool:=decide (n=-1)||aC n m
def sA (r:Realm)(b:Bill):Bool:=((aC b.drawer r.firms.length&&aC b.drawee r.firms.length)&&nV b.payee r.firms.length)&&nV b.need r.firms.length
def qu (r:Realm)(b:Bill):Bool:=(aC b.currency r.currencies.length&&aC b.city r.cities.length)&&aC b.pay r.cities.length
def uL (b:Bill):Prop:=((((1≤b.sum∧b.sum≤1099511627776)∧0≤b.day)∧b.day≤100000)∧0≤b.rate)∧b.rate≤1000
def Hb (b:Bill):Prop:=((0≤b.flags∧b.flags≤7)∧(cI .and .i64 b.flags 4=0∨¬b.payee=-1))∧Fz b=true
structure BillOK (r:Realm) (b:Bill):Prop where
 realm:ld r=0
 who:sA r b=true
 where_:qu r b=true
 range:uL b
 parts:1≤b.parts∧b.parts≤4
 form:Hb b
 usance:b.tenor.kind=4→∃u,u∈r.usances∧u.fr=b.city∧u.to=b.pay
def lb (P:Prop)(d:D):Prop:=∃e:Int,d=.int e∧(e=0↔P)
theorem lb.no {P:Prop}{e:Int}(h:¬P)(he:e≠0):lb P (.int e):=⟨e,rfl,fun x=>absurd x he,fun x=>absurd x h⟩
theorem lb.ok {P:Prop}(h:P):lb P (.int 0):=⟨0,rfl,fun _=>h,fun _=>rfl⟩
theorem apm (r:Realm)(hs:Small r)(b:Bill):∃d,au T Tl [bH r,ed b] d∧lb (BillOK r b) d:=by
 refine au.ex_of_tree rfl YJ aoW ?_;simp[Ng];refine⟨_,VC r hs,?_⟩;by_cases h0:ld r=0
 case neg=>
  simp[h0];exact .no (fun h=>h0 h.realm) h0
 simp[h0];refine⟨_,ke _ _,?_⟩;cases h1:aC b.drawer r.firms.length
 ·simp;exact .no (fun h=>by simpa [sA,h1] using h.who) (by decide)
 simp;refine⟨_,ke _ _,?_⟩;cases h2:aC b.drawee r.firms.length
 ·simp;exact .no (fun h=>by simpa [sA,h2] using h.who) (by decide)
 by_cases h3:nV b.payee r.firms.length=true
 case neg=>
  have iN:¬b.payee=-1∧aC b.payee r.firms.length=false:=by simpa [nV] using h3
  simp[iN.1];refine⟨_,ke _ _,?_⟩;simp[iN.2];exact .no (fun h=>h3 (by have:=h.who;simp[sA] at this;exact this.1.2)) (by decide)
 by_cases h4:nV b.need r.firms.length=true
 case neg=>
  have nC:¬b.need=-1∧aC b.need r.firms.length=false:=by simpa [nV] using h4
  have eG:lb (BillOK r b) (.int 1):=.no (fun h=>h4 (by have:=h.who;simp[sA] at this;exact this.2)) (by decide);by_cases hp:b.payee=-1
  ·simp[hp,nC.1];refine⟨_,ke _ _,?_⟩;simp[nC.2];exact eG
  ·have iN:aC b.payee r.firms.length=true:=by simpa [nV,hp] using h3
   simp[hp];refine⟨_,ke _ _,?_⟩;simp[iN,nC.1];refine⟨_,ke _ _,?_⟩;simp[nC.2];exact eG
 have Ct:sA r b=true:=by simp[sA,h1,h2,h3,h4]
 have hp:b.payee=-1∨(¬b.payee=-1∧aC b.payee r.firms.length=true):=by
  by_cases e:b.payee=-1
  ·exact .inl e
  ·exact .inr ⟨e,by simpa [nV,e] using h3⟩
 have hn:b.need=-1∨(¬b.need=-1∧aC b.need r.firms.length=true):=by
  by_cases e:b.need=-1
  ·exact .inl e
  ·exact .inr ⟨e,by simpa [nV,e] using h4⟩
 have bad:¬qu r b=true→lb (BillOK r b) (.int 1):=fun h=>.no (fun k=>h k.where_) (by decide);have fin:∀u:Int,(u=0↔∃u,u∈r.usances∧u.fr=b.city∧u.to=b.pay)→uL b→(1≤b.parts∧b.parts≤4)→Hb b→qu r b=true→lb (BillOK r b) (if b.tenor.kind=4 then .int u else .int 0):=by
  intro u hu h6 h7 h8 h9;by_cases e:b.tenor.kind=4
  ·rw[if_pos e];exact⟨u,rfl,fun h=>⟨h0,Ct,h9,h6,h7,h8,fun _=>hu.1 h⟩,fun h=>hu.2 (h.usance e)⟩
  ·rw[if_neg e];exact .ok ⟨h0,Ct,h9,h6,h7,h8,fun h=>absurd h e⟩
 obtain⟨un,ue,hu1,_,hu2⟩:=WQ r b.city b.pay (by have:=hs.us;omega);rcases hp with hp|⟨hp,dF⟩<;>rcases hn with hn|⟨hn,lF⟩
 case' inl.inl=>simp[hp,hn]
 case' inl.inr=>simp[hp,hn];refine⟨_,ke _ _,?_⟩;simp[lF]
 case' inr.inl=>simp[hp,hn];refine⟨_,ke _ _,?_⟩;simp[dF]
 case' inr.inr=>simp[hp,hn];refine⟨_,ke _ _,?_⟩;simp[dF];refine⟨_,ke _ _,?_⟩;simp[lF]
 all_goals
  refine⟨_,ke _ _,?_⟩;cases h5:aC b.currency r.currencies.length
  ·simp;exact bad (by simp[qu,h5])
  simp;refine⟨_,ke _ _,?_⟩;cases h6:aC b.city r.cities.length
  ·simp;exact bad (by simp[qu,h6])
  simp;refine⟨_,ke _ _,?_⟩;cases h7:aC b.pay r.cities.length
  ·simp;exact bad (by simp[qu,h7])
  have yw:qu r b=true:=by simp[qu,h5,h6,h7]
  simp;by_cases h8:uL b
  case neg=>
   have Hi:((((b.sum<1∨1099511627776<b.sum)∨b.day<0)∨100000<b.day)∨b.rate<0)∨1000<b.rate:=by unfold uL at h8;omega
   rw[if_pos Hi];exact .no (fun k=>h8 k.range) (by decide)
  have Hi:¬(((((b.sum<1∨1099511627776<b.sum)∨b.day<0)∨100000<b.day)∨b.rate<0)∨1000<b.rate):=by unfold uL at h8;omega
  rw[if_neg Hi];by_cases h9:1≤b.parts∧b.parts≤4
  case neg=>
   rw[if_pos (by omega)];exact .no (fun k=>h9 k.parts) (by decide)
  rw[if_neg (by omega)];have F1:¬Hb b→lb (BillOK r b) (.int 2):=fun h=>.no (fun k=>h k.form) (by decide);by_cases g1:0≤b.flags∧b.flags≤7
  case neg=>
   have ga:b.flags<0∨7<b.flags:=by omega
   simp[g1,ga];exact F1 (fun h=>g1 h.1.1)
  have ga:¬(b.flags<0∨7<b.flags):=by omega
  by_cases g2:cI .and .i64 b.flags 4=0∨¬b.payee=-1
  case neg=>
   have oP:¬cI .and .i64 b.flags 4=0∧b.payee=-1:=by simpa using g2
   first
        |exact absurd oP.2 hp
        |(simp[g1,ga,oP]
          exact F1 (fun h=>g2 h.1.2))
  have g3:(b.payee=-1→cI .and .i64 b.flags 4=0):=fun e=>g2.resolve_right (fun h=>h e);simp[g1,ga,hp,g3];refine⟨_,apn b,?_⟩;cases km:Fz b
  ·simp;exact F1 (fun h=>by have:=h.2;rw[km] at this;cases this)
  have hf:=fin ue hu2 h8 h9 ⟨⟨g1,g2⟩,km⟩ yw;simp;by_cases e:b.tenor.kind=4
  ·simp[e] at hf ⊢;exact⟨_,hu1,hf⟩
  ·simp[e] at hf ⊢;exact hf
end Rm
namespace Rm
open Go Go.Proofs Cx
def uY (f:File)(i part:Int):Bool:=decide (i=0)||decide ((dx f i).part=part)
theorem UC (f:File)(i part:Int)(h:i=0∨(0≤i∧i<f.signs.length)):au T Sp [cW f,.int i,.int part] (.bool (uY f i part)):=by
 refine .of_tree rfl XR an4 ?_;unfold uY;by_cases h0:i=0
 ·simp[FE,h0]
 ·obtain⟨h1,h2⟩:=h.resolve_left h0;have h3:i.toNat<f.signs.length:=by omega
  simp[FE,h0,h1,h2,h3,dx]
def An (f:File)(i:Int)(kinds:List Int):Bool:=wi (dx f i).for_ 0 (i-1)&&(uY f (dx f i).for_ (dx f i).part&&hasB kinds (dx f (dx f i).for_).kind)
theorem alo (f:File)(i:Int)(kinds:List Int)(h:0≤i∧i<f.signs.length)(hl:f.signs.length≤100000)(hk:kinds.length≤100):au T Sl [cW f,.int i,ints kinds] (.bool (An f i kinds)):=by
 refine .of_tree rfl XM anZ ?_;have h1:i.toNat<f.signs.length:=by omega
 have hw:IntKind.i64.wrap (i-1)=i-1:=cd (by omega);have hs:dx f i=f.signs[i.toNat]:=by simp[dx,h1]
 unfold An;rw[hs];simp[Ml,h,h1,hw];refine⟨_,dw _ _ _,?_⟩;cases hb:wi f.signs[i.toNat].for_ 0 (i-1)
 ·simp
 ·have bq:0≤f.signs[i.toNat].for_∧f.signs[i.toNat].for_<f.signs.length:=by
   simp[wi] at hb;omega
  have h2:f.signs[i.toNat].for_.toNat<f.signs.length:=by omega
  have dG:dx f f.signs[i.toNat].for_=f.signs[f.signs[i.toNat].for_.toNat]:=by simp[dx,h2]
  rw[dG];simp;refine⟨_,UC f _ _ (.inr bq),?_⟩;cases cv:uY f f.signs[i.toNat].for_ f.signs[i.toNat].part
  ·simp
  simp[bq,h2];exact Ae kinds _ (by omega)
def Pc (r:Realm)(b:Bill)(s:Sign)(B:List Int→Bool):Bool:=
 if s.kind=0 then((((decide (s.who=b.drawer)&&decide (s.sum=0))&&decide (cI .or .i64 s.flags 1=1))&&decide (s.part=0))&&decide (s.day=b.day))&&decide (s.city=b.city)
 else if s.kind=1 then decide (s.who=b.drawee)&&(wi s.sum 1 1099511627776&&decide (s.flags=0))
 else if s.kind=2 then((wi s.to (-1) ((r.firms.length:Int)-1)&&decide (s.sum=0))&&wi s.flags 0 7)&&decide (cI .and .i64 s.flags 6≠6)
 else if s.kind=3 then(decide (s.sum=0)&&decide (s.flags=0))&&B [0,1,2,4]
 else if s.kind=4 then((wi s.sum 1 1099511627776&&decide (s.flags=0))&&decide (s.who≠b.drawee))&&B [0,2]
 else false
def G8 (r:Realm)(b:Bill)(i:Nat)(s:Sign)(B:List Int→Bool):Bool:=
 if ¬(i=0↔s.kind=0)∨(¬s.kind=2∧¬s.to=-1) then false
 else if(¬s.kind=3∧¬s.kind=4)∧¬s.for_=-1 then false
 else Pc r b s B
def xe (r:Realm)(f:File)(i:Nat):Bool:=G8 r f.bill i (f.signs.getD i default) (An f i)
theorem alq (r:Realm)(hr:Small r)(f:File)(i:Nat)(h:i<f.signs.length)(hl:f.signs.length≤100000):au T Sn [bH r,cW f,.int i] (.bool (xe r f i)):=by
 refine .of_tree rfl XO an1 ?_;have kq:=hr.firms;have hw:IntKind.i64.wrap ((r.firms.length:Int)-1)=(r.firms.length:Int)-1:=cd (by omega);have hs:f.signs.getD i default=f.signs[i]:=by simp[h]
 have Hp:=fun ks hk=>alo f i ks ⟨by omega,by omega⟩ hl hk;unfold xe;rw[hs];generalize hB:An f i=B at Hp ⊢;generalize hX:G8 r f.bill i f.signs[i] B=X;simp[Mn,h];generalize f.signs[i]=s at*;unfold G8 at hX;by_cases h1:¬(i=0↔s.kind=0)∨(¬s.kind=2∧¬s.to=-1)
 ·rw[if_pos h1] at hX ⊢;exact hX.symm
 rw[if_neg h1] at hX ⊢;by_cases h2:(¬s.kind=3∧¬s.kind=4)∧¬s.for_=-1
 ·rw[if_pos h2] at hX ⊢;exact hX.symm
 rw[if_neg h2] at hX ⊢;refine⟨_,dw _ _ _,?_⟩;unfold Pc at hX;by_cases k0:s.kind=0
 ·rw[if_pos k0] at hX ⊢;rw[←hX];by_cases a:(((s.who=f.bill.drawer∧s.sum=0)∧cI BinOp.or IntKind.i64 s.flags 1=1)∧s.part=0)∧s.day=f.bill.day
  ·simp[a]
  ·rw[if_neg a]
   congr 1
   rw[eq_comm,Bool.eq_false_iff];intro e;simp at e;exact a e.1
 rw[if_neg k0] at hX ⊢;by_cases k1:s.kind=1
 ·rw[if_pos k1] at hX ⊢;rw[←hX];by_cases a:s.who=f.bill.drawee<;>cases wi s.sum 1 1099511627776<;>simp[a]
 rw[if_neg k1] at hX ⊢;by_cases k2:s.kind=2
 ·rw[if_pos k2] at hX ⊢;rw[←hX,hw];refine⟨_,dw _ _ _,?_⟩;cases wi s.to (-1) ((r.firms.length:Int)-1)
  ·simp
  by_cases a:s.sum=0
  case neg=>simp[a]
  simp[a];refine⟨_,dw _ _ _,?_⟩;cases wi s.flags 0 7<;>simp
 rw[if_neg k2] at hX ⊢;by_cases k3:s.kind=3
 ·rw[if_pos k3] at hX ⊢;rw[←hX];by_cases a:s.sum=0∧s.flags=0
  case neg=>
   rw[if_neg a,if_neg a]
   congr 1
   rw[eq_comm,Bool.eq_false_iff];intro e;simp at e;exact a e.1
  rw[if_pos a];refine⟨_,Hp [0,1,2,4] (by decide),?_⟩;simp[a]
 rw[if_neg k3] at hX ⊢;by_cases k4:s.kind=4
 ·rw[if_pos k4] at hX ⊢;rw[←hX];cases wi s.sum 1 1099511627776
  ·simp
  by_cases a:s.flags=0∧¬s.who=f.bill.drawee
  case neg=>
   simp[a]
  simp[a];exact Hp [0,2] (by decide)
 rw[if_neg k4] at hX ⊢;exact hX.symm
end Rm
