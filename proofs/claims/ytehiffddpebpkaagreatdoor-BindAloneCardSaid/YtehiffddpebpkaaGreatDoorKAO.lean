/-
  Shared texts of this claim.
-/
import Derived.Test.YtehiffddpebpkaaGreatDoorKAN
import Derived.Lib.Mul64
set_option linter.unusedSimpArgs false
set_option linter.unusedVariables false
namespace Rm
open Go Go.Proofs Cx
abbrev u (n:Nat):D:=.v (.int .u64 n)
theorem Tg (n:Int):IntKind.u64.wrap n=n%18446744073709551616:=rfl
theorem Zs {n:Int} (h:0≤n∧n<18446744073709551616):IntKind.u64.wrap n=n:=by
 rw[Tg];omega
theorem rJ {n:Nat} (h:n<18446744073709551616):IntKind.u64.wrap (n:Int)=n:=Zs (by omega)
theorem ZJ (a s:Nat) (h:s≤64):arI .shr .u64 a s=((a/2^s:Nat):Int):=by
 show Int.fdiv (a:Int) (2^(min (s:Int).toNat 64))=_
 have:min (s:Int).toNat 64=s:=by simp;omega
 rw[this,Int.fdiv_eq_ediv_of_nonneg _ (Int.le_of_lt (Int.pow_pos (by decide)))]
 rw[Int.natCast_ediv,Int.natCast_pow];rfl
theorem RD (a:Nat) (h:a<18446744073709551616):arI .and .u64 a 4294967295=((a%4294967296:Nat):Int):=by
 show IntKind.u64.wrap ((BitVec.ofInt 64 (a:Int)&&& BitVec.ofInt 64 4294967295).toNat:Nat)=_
 have e:(BitVec.ofInt 64 (a:Int)&&& BitVec.ofInt 64 4294967295).toNat=a%4294967296:=by
  rw[BitVec.toNat_and]
  have e1:(BitVec.ofInt 64 (a:Int)).toNat=a:=by simp[BitVec.ofInt,BitVec.toNat_ofNat];omega
  have e2:(BitVec.ofInt 64 4294967295).toNat=2^32-1:=by decide
  rw[e1,e2,Nat.and_two_pow_sub_one_eq_mod]
 rw[e,rJ (by omega)]
@[simp] theorem Qb (a:Nat):arI .shr .u64 a 32=((a/4294967296:Nat):Int):=ZJ a 32 (by decide)
set_option maxHeartbeats 2000000 in
theorem VS (a b:Nat) (ha:a<18446744073709551616) (hb:b<18446744073709551616):Runs T Df [u a,u b] (.tup [u (a*b/18446744073709551616),u (a*b%18446744073709551616)]):=by
 refine .of_tree rfl OP E9 ?_
 obtain⟨h1,h2,h3,h4⟩:=Go.Lib.mul64_hi a b ha hb
 have elo:IntKind.u64.wrap ((a:Int)*(b:Int))=((a*b%18446744073709551616:Nat):Int):=by rw[Tg,Int.natCast_emod,Int.natCast_mul];rfl
 have ea1:arI .shr .u64 (a:Int) 32=((a/4294967296:Nat):Int):=Qb a
 have ea0:arI .and .u64 (a:Int) 4294967295=((a%4294967296:Nat):Int):=RD a ha
 have eb1:arI .shr .u64 (b:Int) 32=((b/4294967296:Nat):Int):=Qb b
 have eb0:arI .and .u64 (b:Int) 4294967295=((b%4294967296:Nat):Int):=RD b hb
 have hm11:=Go.Lib.half_mul_le (a:=a/4294967296) (b:=b/4294967296) (by omega) (by omega)
 have hm10:=Go.Lib.half_mul_le (a:=a/4294967296) (b:=b%4294967296) (by omega) (by omega)
 have hm01:=Go.Lib.half_mul_le (a:=a%4294967296) (b:=b/4294967296) (by omega) (by omega)
 have hm00:=Go.Lib.half_mul_le (a:=a%4294967296) (b:=b%4294967296) (by omega) (by omega)
 have hhi:a*b/18446744073709551616<18446744073709551616:=by
  have:a*b<18446744073709551616*18446744073709551616:=Nat.mul_lt_mul'' ha hb
  exact Nat.div_lt_of_lt_mul this
 simp only[tV]
 generalize a/4294967296=a1 at*
 generalize a%4294967296=a0 at*
 generalize b/4294967296=b1 at*
 generalize b%4294967296=b0 at*
 have p11:IntKind.u64.wrap ((a1:Int)*(b1:Int))=((a1*b1:Nat):Int):=by rw[←Int.natCast_mul];exact rJ (by omega)
 have p10:IntKind.u64.wrap ((a1:Int)*(b0:Int))=((a1*b0:Nat):Int):=by rw[←Int.natCast_mul];exact rJ (by omega)
 have p01:IntKind.u64.wrap ((a0:Int)*(b1:Int))=((a0*b1:Nat):Int):=by rw[←Int.natCast_mul];exact rJ (by omega)
 have p00:IntKind.u64.wrap ((a0:Int)*(b0:Int))=((a0*b0:Nat):Int):=by rw[←Int.natCast_mul];exact rJ (by omega)
 rw[←h4] at hhi ⊢
 generalize a1*b1=P at*
 generalize a1*b0=Q at*
 generalize a0*b1=R at*
 generalize a0*b0=S at*
 have s1:arI .shr .u64 (S:Int) 32=((S/4294967296:Nat):Int):=Qb S
 have s2:IntKind.u64.wrap ((Q:Int)+((S/4294967296:Nat):Int))=((Q+S/4294967296:Nat):Int):=by rw[Zs (by omega)];omega
 generalize S/4294967296=S1 at*
 generalize hT:Q+S1=TT at*
 have s3:arI .shr .u64 (TT:Int) 32=((TT/4294967296:Nat):Int):=Qb TT
 have s4:arI .and .u64 (TT:Int) 4294967295=((TT%4294967296:Nat):Int):=RD TT (by omega)
 have s5:IntKind.u64.wrap (((TT%4294967296:Nat):Int)+(R:Int))=((TT%4294967296+R:Nat):Int):=by rw[Zs (by omega)];omega
 generalize hU:TT%4294967296+R=U at*
 have s6:arI .shr .u64 (U:Int) 32=((U/4294967296:Nat):Int):=Qb U
 have s7:IntKind.u64.wrap ((P:Int)+((TT/4294967296:Nat):Int))=((P+TT/4294967296:Nat):Int):=by rw[Zs (by omega)];omega
 have s8:IntKind.u64.wrap (((P+TT/4294967296:Nat):Int)+((U/4294967296:Nat):Int))=((P+TT/4294967296+U/4294967296:Nat):Int):=by rw[Zs (by omega)];omega
 simp[-Qb,-Int.natCast_add,-Int.natCast_mul,-Int.natCast_ediv,-Int.natCast_emod,elo,ea1,ea0,eb1,eb0,p11,p10,p01,p00,s1,s2,s3,s4,s5,s6,s7,s8]
def EK (m:Nat):Int:=if m<1099511627776 then m else 1099511627776
def P6 (a b:Int):Int:=if(decide (a<0)!=decide (b<0))=true then-EK (a.natAbs*b.natAbs) else EK (a.natAbs*b.natAbs)
theorem V6 (m:Nat):0≤EK m∧EK m≤1099511627776:=by unfold EK;split<;>omega
set_option maxHeartbeats 1000000 in
theorem CT (a b:Int) (ha:-1099511627776≤a∧a≤1099511627776) (hb:-1099511627776≤b∧b≤1099511627776):Runs T xU [.int a,.int b] (.int (P6 a b)):=by
 refine .of_tree rfl Jr B0 ?_
 have wa:IntKind.u64.wrap (a.natAbs:Int)=a.natAbs:=rJ (by omega)
 have wb:IntKind.u64.wrap (b.natAbs:Int)=b.natAbs:=rJ (by omega)
 have w0a:IntKind.i64.wrap (0-a)=-a:=by rw[aD (by omega)];omega
 have w0b:IntKind.i64.wrap (0-b)=-b:=by rw[aD (by omega)];omega
 have w0a':IntKind.i64.wrap (-a)=-a:=aD (by omega)
 have w0b':IntKind.i64.wrap (-b)=-b:=aD (by omega)
 have ea:(if a< -a then D.int (-a) else D.int a)=D.int a.natAbs:=by split<;>congr 1<;>omega
 have eb:(if b< -b then D.int (-b) else D.int b)=D.int b.natAbs:=by split<;>congr 1<;>omega
 have ea':(if a< -a then-a else a)=(a.natAbs:Int):=by split<;>omega
 have eb':(if b< -b then-b else b)=(b.natAbs:Int):=by split<;>omega
 simp[oN,w0a',w0b',ea,eb,ea',eb']
 rw[wa,wb]
 refine⟨_,VS a.natAbs b.natAbs (by omega) (by omega),?_⟩
 unfold P6
 generalize a.natAbs*b.natAbs=m
 have hs:(decide (a<0)!=decide (b<0))=false↔(a<0↔b<0):=by
  by_cases h1:a<0<;>by_cases h2:b<0<;>simp[h1,h2]
 have key:((if((m/18446744073709551616:Nat):Int)=0∧((m%18446744073709551616:Nat):Int)<1099511627776 then IntKind.i64.wrap ((m%18446744073709551616:Nat):Int) else 1099511627776):Int)=EK m:=by
  unfold EK
  by_cases hm:m<1099511627776
  ·have h1:m/18446744073709551616=0:=by omega
   have h2:m%18446744073709551616=m:=by omega
   rw[h1,h2,if_pos ⟨rfl,by omega⟩,if_pos hm,aD (by omega)]
  ·rw[if_neg hm,if_neg]
   rintro⟨h1,h2⟩
   omega
 have hb':=V6 m
 have keyD:(if((m/18446744073709551616:Nat):Int)=0∧((m%18446744073709551616:Nat):Int)<1099511627776 then D.int (IntKind.i64.wrap ((m%18446744073709551616:Nat):Int)) else D.int 1099511627776)=D.int (EK m):=by
  rw[←key];split<;>rfl
 show(if a<0↔b<0 then(if((m/18446744073709551616:Nat):Int)=0∧((m%18446744073709551616:Nat):Int)<1099511627776 then D.int (IntKind.i64.wrap ((m%18446744073709551616:Nat):Int)) else D.int 1099511627776)=_ else
  IntKind.i64.wrap (-(if((m/18446744073709551616:Nat):Int)=0∧((m%18446744073709551616:Nat):Int)<1099511627776 then IntKind.i64.wrap ((m%18446744073709551616:Nat):Int) else 1099511627776))=_)
 rw[keyD,key]
 generalize EK m=n at*
 split
 ·rename_i h;rw[hs.2 h];simp
 ·rename_i h
  have:(decide (a<0)!=decide (b<0))=true:=by
   cases e:(decide (a<0)!=decide (b<0)) with
   |true=>rfl
   |false=>exact absurd (hs.1 e) h
  rw[this,aD (by omega)];simp
def G4 (op a b:Int):Int:=if op=9 then Kp (a+b) else if op=10 then Kp (a-b) else if op=11 then P6 a b else if op=12 then min a b else max a b
theorem y9 (op a b:Int) (ha:-1099511627776≤a∧a≤1099511627776) (hb:-1099511627776≤b∧b≤1099511627776):Runs T sT [.int op,.int a,.int b] (.int (G4 op a b)):=by
 refine .of_tree rfl BC wX ?_
 have w1:IntKind.i64.wrap (a+b)=a+b:=aD (by omega)
 have w2:IntKind.i64.wrap (a-b)=a-b:=aD (by omega)
 simp[kc,G4,w1,w2]
 by_cases h1:op=9
 ·simp[h1];exact mZ _
 by_cases h2:op=10
 ·simp[h1,h2];exact mZ _
 by_cases h3:op=11
 ·simp[h1,h2,h3];exact CT a b ha hb
 by_cases h4:op=12
 ·simp[h1,h2,h3,h4]
  by_cases h5:b<a<;>simp[h5]<;>omega
 simp[h1,h2,h3,h4]
 by_cases h5:b>a<;>simp[h5]<;>omega
def qL (b:Bool):Cell:=if b then⟨true,1⟩ else⟨true,0⟩
theorem cU (b:Bool):Runs T MD [.bool b] (aG (qL b)):=by
 refine .of_tree rfl R8 MC ?_
 cases b<;>simp[xn,qL]<;>rfl
def noC:Cell:=⟨false,0⟩
@[simp] theorem afH:D.agg [.bool false,.int 0]=aG noC:=_root_.id rfl
@[simp] theorem agA:noC.known=false:=rfl
@[simp] theorem agw:noC.n=0:=rfl
def cellAt (cs:List Cell) (v:Int):Cell:=cs.getD v.toNat default
def kl (cs:List Cell) (v:Int):Cell:=if cs.length≤v.toNat∨(cellAt cs v).known=false then noC else if(DO v).1=1 then qL (decide ((cellAt cs v).n≠0)) else⟨true,Kp (cellAt cs v).n⟩
abbrev aaY (cs:List Cell):D:=.agg [cells cs]
theorem JG (cs:List Cell) (v:Int) (hv:0≤v):Runs T nK [aaY cs,.int v] (aG (kl cs v)):=by
 refine .of_tree rfl w7 tO ?_
 obtain⟨k,rfl⟩:=Int.eq_ofNat_of_zero_le hv
 simp[fK,kl,cellAt]
 by_cases h1:cs.length≤k
 ·simp[h1]
 have h1':k<cs.length:=by omega
 simp[h1,h1']
 cases h2:cs[k].known
 ·simp[h2]
 simp[h2]
 refine⟨_,sq _,?_⟩
 by_cases h3:(DO k).1=1
 ·simp[h3,h1']
  refine⟨_,cU _,?_⟩
  simp
  rfl
 ·simp[h3,h1']
  refine⟨_,mZ _,?_⟩
  simp
  rfl
@[simp] theorem ae0 (a b:Int):(a==b)=decide (a=b):=_root_.id rfl
@[simp] theorem aec (a b:Int):(a !=b)= !decide (a=b):=_root_.id rfl
def aR (l:List Cell) (k:Nat):Cell:=l.getD k default
def bk (op:Int) (l:List Cell):Cell:=
 if op=3 then(if(aR l 0).known=true then qL (decide ((aR l 0).n=0)) else noC)
 else if(op=4∨op=5)∧(aR l 0=qL (decide (op=5))∨aR l 1=qL (decide (op=5))) then qL (decide (op=5))
 else if op=6 then(if(aR l 1).known=true∧aR l 1=aR l 2 then aR l 1 else noC)
 else if(aR l 0).known=false∨(aR l 1).known=false then noC
 else if op=4∨op=5 then qL (decide (op=4))
 else if op=7 then qL (decide ((aR l 0).n<(aR l 1).n)) else if op=8 then qL (decide ((aR l 0).n=(aR l 1).n)) else⟨true,G4 op (aR l 0).n (aR l 1).n⟩
theorem Z1 (a b:Cell):a=b↔a.known=b.known∧a.n=b.n:=by cases a;cases b;simp
theorem DI (op:Int) (l:List Cell) (h1:1≤l.length) (h2:op≠3→2≤l.length) (h3:op=6→3≤l.length)
 (hb:9≤op→(-1099511627776≤(aR l 0).n∧(aR l 0).n≤1099511627776)∧(-1099511627776≤(aR l 1).n∧(aR l 1).n≤1099511627776)) (h9:op<3∨8<op→9≤op):
 Runs T yL [.int op,cells l] (aG (bk op l)):=by
 refine .of_tree rfl JA Cm ?_
 have g0:0<l.length:=by omega
 have gg0:l[0]=aR l 0:=by simp[aR,g0]
 simp[oD]
 unfold bk
 by_cases o3:op=3
 ·simp[o3,g0,gg0]
  cases e:(aR l 0).known
  ·simp
  ·simp[g0]
   refine⟨_,cU _,?_⟩
   simp
 have g1:1<l.length:=by have:=h2 o3;omega
 have gg1:l[1]=aR l 1:=by simp[aR,g1]
 have g1':(1:Int)<l.length:=by omega
 simp[o3]
 have fin:∀a b:Cell,(a=b)=(a.known=b.known∧a.n=b.n):=fun a b=>propext (Z1 a b)
 rcases Classical.em (op=4) with o4|o4
 ·subst o4
  simp
  refine⟨_,cU _,?_⟩
  simp[g0,g1,g1',gg0,gg1,fin]
  split
  ·rfl
  ·split
   ·rfl
   ·refine⟨_,cU _,?_⟩
    simp
 rcases Classical.em (op=5) with o5|o5
 ·subst o5
  simp
  refine⟨_,cU _,?_⟩
  simp[g0,g1,g1',gg0,gg1,fin]
  split
  ·rfl
  ·split
   ·rfl
   ·refine⟨_,cU _,?_⟩
    simp
 rcases Classical.em (op=6) with o6|o6
 ·subst o6
  have g2:2<l.length:=by have:=h3 rfl;omega
  have gg2:l[2]=aR l 2:=by simp[aR,g2]
  have g2':(2:Int)<l.length:=by omega
  simp[g1,g2,g1',g2',gg1,gg2,fin]
  cases e1:(aR l 1).known
  ·simp
  by_cases e2:(aR l 1).known=(aR l 2).known∧(aR l 1).n=(aR l 2).n
  ·rw[e1] at e2
   simp[e1,e2]
  ·rw[e1] at e2
   have e2':¬((aR l 2).known=true∧(aR l 1).n=(aR l 2).n):=fun h=>e2 ⟨h.1.symm,h.2⟩
   simp only[e1,true_and,if_true]
   first|(rw[if_neg e2',if_neg e2'])|(simp[e2'])
 simp[o4,o5,o6,g0,g1,g1',gg0,gg1]
 cases e1:(aR l 0).known
 ·simp
 cases e2:(aR l 1).known
 ·simp
 simp[g1,g1',gg1]
 rcases Classical.em (op=7) with o7|o7
 ·subst o7
  simp
  refine⟨_,cU _,?_⟩
  simp
 rcases Classical.em (op=8) with o8|o8
 ·subst o8
  simp
  refine⟨_,cU _,?_⟩
  simp
 simp[o7,o8]
 obtain⟨b1,b2⟩:=hb (h9 (by omega))
 refine⟨_,y9 op _ _ b1 b2,?_⟩
 simp
 rfl
end Rm
set_option linter.unusedSimpArgs false
set_option linter.unusedVariables false
namespace Rm
open Go Go.Proofs Cx
def aP:Nat→List Cell→Tm→Cell
 |0,_,_=>noC
 |L+1,cs,t=>if t.op=0∨t.op=1 then⟨true,t.n⟩ else if t.op=2 then kl cs t.n else
   if t.op=6∧(aR (t.args.map (aP L cs)) 0).known=true then aR (t.args.map (aP L cs)) (2-(aR (t.args.map (aP L cs)) 0).n).toNat else bk t.op (t.args.map (aP L cs))
def bz:Nat→List Cell→Tm→List Int
 |0,_,_=>[]
 |L+1,cs,t=>if t.op=0∨t.op=1 then[] else if t.op=2 then(if(kl cs t.n).known=true then[] else[t.n]) else
   if t.op=6∧(aR (t.args.map (aP L cs)) 0).known=true then(t.args.map (bz L cs)).getD (2-(aR (t.args.map (aP L cs)) 0).n).toNat [] else
   if(bk t.op (t.args.map (aP L cs))).known=true then[] else(t.args.map (bz L cs)).flatten
theorem vw (L:Nat) (cs:List Cell) (t:Tm):aP (L+1) cs t=if t.op=0∨t.op=1 then⟨true,t.n⟩ else if t.op=2 then kl cs t.n else
 if t.op=6∧(aR (t.args.map (aP L cs)) 0).known=true then aR (t.args.map (aP L cs)) (2-(aR (t.args.map (aP L cs)) 0).n).toNat else bk t.op (t.args.map (aP L cs)):=rfl
theorem sD (L:Nat) (cs:List Cell) (t:Tm):bz (L+1) cs t=if t.op=0∨t.op=1 then[] else if t.op=2 then(if(kl cs t.n).known=true then[] else[t.n]) else
 if t.op=6∧(aR (t.args.map (aP L cs)) 0).known=true then(t.args.map (bz L cs)).getD (2-(aR (t.args.map (aP L cs)) 0).n).toNat [] else
 if(bk t.op (t.args.map (aP L cs))).known=true then[] else(t.args.map (bz L cs)).flatten:=rfl
theorem Cw {L:Nat} {t:Tm} {k:Int} (h:aL (L+1) t=(k,0)):(∀a,a∈t.args→(aL L a).2=0)∧NI t (t.args.map fun a=>(aL L a).1)=(k,0):=by
 rw[yM] at h
 by_cases e:ki t.args.length (fun k=>(aL L (t.args.getD k default)).2)=0
 ·rw[if_neg (by simpa using e)] at h
  refine⟨fun a ha=>?_,h⟩
  obtain⟨j,hj,rfl⟩:=List.getElem_of_mem ha
  have:=firstE_iff.1 e j hj
  simpa [hj] using this
 ·rw[if_pos e] at h
  injection h with _ h
  exact absurd h e
inductive Node (ks:List Int) (t:Tm):Int→Prop where
 |int (h:t.op=0) (ha:t.args=[]) (hn:-1099511627776≤t.n∧t.n≤1099511627776):Node ks t 0
 |bool (h:t.op=1) (ha:t.args=[]) (hn:t.n=0∨t.n=1):Node ks t 1
 |var (h:t.op=2) (ha:t.args=[]) (hn:0≤t.n∧t.n≤19):Node ks t (DO t.n).1
 |not (h:t.op=3) (hk:ks=[1]):Node ks t 1
 |log (h:t.op=4∨t.op=5) (hk:ks=[1,1]):Node ks t 1
 |ite (k:Int) (h:t.op=6) (hk:ks=[1,k,k]):Node ks t k
 |less (h:t.op=7) (hk:ks=[0,0]):Node ks t 1
 |equal (k:Int) (h:t.op=8) (hk:ks=[k,k]):Node ks t 1
 |num (h:9≤t.op∧t.op≤13) (hk:ks=[0,0]):Node ks t 0
theorem ZY (v:Int):(DO v).1=0∨(DO v).1=1:=by
 unfold DO;repeat' split
 all_goals simp
theorem ZH {t:Tm} {ks:List Int} {k:Int} (hl:ks.length=t.args.length) (h01:∀x,x∈ks→x=0∨x=1) (h:NI t ks=(k,0)):Node ks t k:=by
 unfold NI at h
 split at h
 ·injection h with _ h;cases h
 rename_i hop
 split at h
 ·rename_i h3
  unfold TB at h
  split at h
  ·injection h with _ h;cases h
  rename_i ha0
  have ha:t.args=[]:=List.eq_nil_of_length_eq_zero (by omega)
  split at h
  ·rename_i h0
   split at h
   ·injection h with _ h;cases h
   ·rename_i hc
    injection h with h _
    subst h
    refine .int h0 ha ?_
    unfold Kp at hc;omega
  split at h
  ·rename_i h0
   split at h
   ·injection h with _ h;cases h
   ·rename_i hc
    injection h with h _
    subst h
    exact .bool h0 ha (by omega)
  split at h
  ·injection h with _ h;cases h
  ·rename_i g0 g1 hc
   injection h with h _
   subst h
   refine .var (by omega) ha ?_
   unfold DO at hc
   split at hc
   ·simp at hc
   ·omega
 rename_i h3
 split at h
 ·injection h with _ h;cases h
 rename_i hlen
 have hlen':ks.length=(bR t.op).1.length:=by
  refine Classical.byContradiction fun hh=>hlen (.inl hh)
 split at h
 ·injection h with _ h;cases h
 rename_i hok
 have hok':∀j,j<(bR t.op).1.length→kOK (bR t.op).1 ks j=true:=allB_iff.1 (by simpa using hok)
 have two:∀{n:Nat},ks.length=2→∃a b,ks=[a,b]:=fun h=>by
  match ks,h with
  |[a,b],_=>exact⟨a,b,rfl⟩
 by_cases o3:t.op=3
 ·have e:bR t.op=([1],1):=by simp[bR,o3]
  rw[e] at hlen' hok' h
  match ks,hlen' with
  |[a],_=>
   have:=hok' 0 (by simp)
   simp[kOK] at this
   simp at h
   subst h this
   exact .not o3 rfl
 by_cases o45:t.op=4∨t.op=5
 ·have e:bR t.op=([1,1],1):=by simp[bR,o3,o45]
  rw[e] at hlen' hok' h
  match ks,hlen' with
  |[a,b],_=>
   have t1:=hok' 0 (by simp)
   have t2:=hok' 1 (by simp)
   simp[kOK] at t1 t2
   simp at h
   subst h t1 t2
   exact .log o45 rfl
 by_cases o6:t.op=6
 ·have e:bR t.op=([1,-1,-1],-1):=by simp[bR,o6]
  rw[e] at hlen' hok' h
  match ks,hlen',h01 with
  |[a,b,c],_,h01=>
   have t1:=hok' 0 (by simp)
   have t3:=hok' 2 (by simp)
   have hb:=h01 b (by simp)
   have hbn:¬b=-1:=by omega
   simp[kOK] at t1
   simp[kOK,kAt,hbn] at t3
   simp[kAt,hbn] at h
   subst h t1 t3
   exact .ite _ o6 rfl
 by_cases o7:t.op=7
 ·have e:bR t.op=([0,0],1):=by simp[bR,o7]
  rw[e] at hlen' hok' h
  match ks,hlen' with
  |[a,b],_=>
   have t1:=hok' 0 (by simp)
   have t2:=hok' 1 (by simp)
   simp[kOK] at t1 t2
   simp at h
   subst h t1 t2
   exact .less o7 rfl
 by_cases o8:t.op=8
 ·have e:bR t.op=([-1,-1],1):=by simp[bR,o8]
  rw[e] at hlen' hok' h
  match ks,hlen',h01 with
  |[a,b],_,h01=>
   have t2:=hok' 1 (by simp)
   have ha:=h01 a (by simp)
   have han:¬a=-1:=by omega
   simp[kOK,kAt,han] at t2
   simp at h
   subst h t2
   exact .equal _ o8 rfl
 have e:bR t.op=([0,0],0):=by simp[bR,o3,o45,o6,o7,o8]
 rw[e] at hlen' hok' h
 match ks,hlen' with
 |[a,b],_=>
  have t1:=hok' 0 (by simp)
  have t2:=hok' 1 (by simp)
  simp[kOK] at t1 t2
  simp at h
  subst h t1 t2
  exact .num (by omega) rfl
theorem Bv:∀{L:Nat} {t:Tm} {k:Int},aL (L+1) t=(k,0)→Node (t.args.map fun a=>(aL L a).1) t k∧(k=0∨k=1)
 |L,t,k,h=>by
  obtain⟨h1,h2⟩:=Cw h
  have h01:∀x,x∈(t.args.map fun a=>(aL L a).1)→x=0∨x=1:=by
   intro x hx
   obtain⟨a,ha,rfl⟩:=List.mem_map.1 hx
   cases L with
   |zero=>exact .inl rfl
   |succ L=>exact(Bv (L:=L) (t:=a) (k:=(aL (L+1) a).1) (by rw[←h1 a ha])).2
  have hn:=ZH (by simp) h01 h2
  refine⟨hn,?_⟩
  cases hn with
  |int=>simp
  |bool=>simp
  |var=>exact ZY _
  |not=>simp
  |log=>simp
  |ite k _ hk=>exact h01 k (by rw[hk];simp)
  |less=>simp
  |equal=>simp
  |num=>simp
end Rm
set_option linter.unusedSimpArgs false
set_option linter.unusedVariables false
namespace Rm
open Go Go.Proofs Cx
def Rng (k:Int) (c:Cell):Prop:=(c.known=false→c=noC)∧(c.known=true→(k=1→c.n=0∨c.n=1)∧(k=0→-1099511627776≤c.n∧c.n≤1099511627776))
theorem xR (k:Int):Rng k noC:=⟨fun _=>rfl,fun h=>by cases h⟩
theorem zg (b:Bool):Rng 1 (qL b):=⟨fun h=>(by cases b<;>cases h),fun _=>⟨fun _=>(by cases b<;>simp[qL]),fun h=>by cases h⟩⟩
theorem Re (n:Int):-1099511627776≤Kp n∧Kp n≤1099511627776:=by unfold Kp;omega
theorem WC (cs:List Cell) (v:Int) (hv:0≤v∧v≤19):Rng (DO v).1 (kl cs v):=by
 unfold kl
 split
 ·exact xR _
 ·split
  ·rename_i h;rw[h];exact zg _
  ·rename_i h
   refine⟨fun h=>(by cases h),fun _=>⟨fun h'=>absurd h' h,fun _=>Re _⟩⟩
theorem YP (a b:Int):-1099511627776≤P6 a b∧P6 a b≤1099511627776:=by
 unfold P6
 have:=V6 (a.natAbs*b.natAbs)
 split<;>omega
theorem XF (op a b:Int) (ha:-1099511627776≤a∧a≤1099511627776) (hb:-1099511627776≤b∧b≤1099511627776):-1099511627776≤G4 op a b∧G4 op a b≤1099511627776:=by
 unfold G4
 split
 ·exact Re _
 split
 ·exact Re _
 split
 ·exact YP _ _
 split<;>omega
theorem afJ {α β:Type} {f:α→β} {l:List α} {x:β} (h:l.map f=[x]):∃a,l=[a]∧f a=x:=by
 match l,h with
 |[a],h=>exact⟨a,rfl,by simpa using h⟩
theorem WG {α β:Type} {f:α→β} {l:List α} {x y:β} (h:l.map f=[x,y]):∃a b,l=[a,b]∧f a=x∧f b=y:=by
 match l,h with
 |[a,b],h=>exact⟨a,b,rfl,by simpa using h⟩
theorem abx {α β:Type} {f:α→β} {l:List α} {x y z:β} (h:l.map f=[x,y,z]):∃a b c,l=[a,b,c]∧f a=x∧f b=y∧f c=z:=by
 match l,h with
 |[a,b,c],h=>exact⟨a,b,c,rfl,by simpa using h⟩
theorem Tz:∀{L:Nat} {t:Tm} {k:Int} (cs:List Cell),aL L t=(k,0)→Rng k (aP L cs t)
 |0,t,k,cs,h=>xR _
 |L+1,t,k,cs,h=>by
  obtain⟨hn,hk⟩:=Bv h
  obtain⟨ha,_⟩:=Cw h
  have ih:∀a,a∈t.args→Rng (aL L a).1 (aP L cs a):=fun a hm=>Tz cs (show aL L a=((aL L a).1,0) by rw[←ha a hm])
  rw[vw]
  cases hn with
  |int h0 ha hn=>rw[if_pos (.inl h0)];exact⟨fun h=>(by cases h),fun _=>⟨fun h=>(by cases h),fun _=>hn⟩⟩
  |bool h0 ha hn=>rw[if_pos (.inr h0)];exact⟨fun h=>(by cases h),fun _=>⟨fun _=>hn,fun h=>by cases h⟩⟩
  |var h0 ha hn=>rw[if_neg (by omega),if_pos h0];exact WC cs _ hn
  |not h0 hk=>
   rw[if_neg (by omega),if_neg (by omega),if_neg (by omega)]
   unfold bk
   rw[if_pos h0]
   split
   ·exact zg _
   ·exact xR _
  |log h0 hk=>
   rw[if_neg (by omega),if_neg (by omega),if_neg (by omega)]
   unfold bk
   rw[if_neg (by omega)]
   split
   ·exact zg _
   rw[if_neg (by omega)]
   split
   ·exact xR _
   exact zg _
  |ite k h0 hk2=>
   obtain⟨a,b,c,hl,e1,e2,e3⟩:=abx hk2
   rw[hl] at ih ⊢
   have r1:=ih a (by simp)
   have r2:=ih b (by simp)
   have r3:=ih c (by simp)
   rw[e1] at r1;rw[e2] at r2;rw[e3] at r3
   rw[if_neg (by omega),if_neg (by omega)]
   simp only[List.map_cons,List.map_nil,aR,List.getD_cons_zero]
   split
   ·rename_i hh
    rcases(r1.2 hh.2).1 rfl with h1|h1<;>rw[h1]
    ·exact r3
    ·exact r2
   ·unfold bk
    rw[if_neg (by omega),if_neg (by omega),if_pos h0]
    simp only[aR,List.getD_cons_zero,List.getD_cons_succ]
    split
    ·exact r2
    ·exact xR _
  |less h0 hk=>
   rw[if_neg (by omega),if_neg (by omega),if_neg (by omega)]
   unfold bk
   rw[if_neg (by omega),if_neg (by omega),if_neg (by omega)]
   split
   ·exact xR _
   repeat' split
   all_goals exact zg _
  |equal k h0 hk=>
   rw[if_neg (by omega),if_neg (by omega),if_neg (by omega)]
   unfold bk
   rw[if_neg (by omega),if_neg (by omega),if_neg (by omega)]
   split
   ·exact xR _
   repeat' split
   all_goals exact zg _
  |num h0 hk2=>
   obtain⟨a,b,hl,e1,e2⟩:=WG hk2
   rw[hl] at ih ⊢
   have r1:=ih a (by simp)
   have r2:=ih b (by simp)
   rw[e1] at r1;rw[e2] at r2
   rw[if_neg (by omega),if_neg (by omega),if_neg (by omega)]
   unfold bk
   rw[if_neg (by omega),if_neg (by omega),if_neg (by omega)]
   simp only[List.map_cons,List.map_nil,aR,List.getD_cons_zero,List.getD_cons_succ]
   split
   ·exact xR _
   rename_i hkn
   rw[if_neg (by omega),if_neg (by omega),if_neg (by omega)]
   have k1:(aP L cs a).known=true:=by
    cases e:(aP L cs a).known with
    |true=>rfl
    |false=>exact absurd (.inl e) hkn
   have k2:(aP L cs b).known=true:=by
    cases e:(aP L cs b).known with
    |true=>rfl
    |false=>exact absurd (.inr e) hkn
   exact⟨fun h=>(by cases h),fun _=>⟨fun h=>(by cases h),fun _=>XF _ _ _ ((r1.2 k1).2 rfl) ((r2.2 k2).2 rfl)⟩⟩
theorem PM:∀(L:Nat) (cs:List Cell) (t:Tm),bA L t≤60→((bz L cs t).length:Int)≤bA L t
 |0,cs,t,h=>by simp[bA] at h
 |L+1,cs,t,h=>by
  have h1:=rA (L+1) t
  obtain⟨hl,hp⟩:=CJ h
  have hs:∀(l:List Tm) (n:Int),(∀a,a∈l→bA L a≤60)→fp (bA L) l n≤60→((l.map (bz L cs)).flatten.length:Int)+n≤fp (bA L) l n∧∀j,(((l.map (bz L cs)).getD j []).length:Int)+n≤fp (bA L) l n:=by
   intro l
   induction l with
   |nil=>intro n _ _;simp[fp]
   |cons a l ih=>
    intro n hp hm
    have ha:=PM L cs a (hp a (by simp))
    unfold fp at hm ⊢
    split at hm
    ·omega
    ·rename_i h60
     rw[if_neg h60]
     obtain⟨i1,i2⟩:=ih (n+bA L a) (fun b hb=>hp b (by simp[hb])) hm
     refine⟨by rw[List.map_cons,List.flatten_cons,List.length_append];omega,fun j=>?_⟩
     cases j with
     |zero=>simp;omega
     |succ j=>have:=i2 j;simp at this ⊢;omega
  obtain⟨hs1,hs2⟩:=hs t.args 1 hp h
  rw[sD]
  split
  ·simp;omega
  split
  ·split<;>simp<;>omega
  split
  ·have:=hs2 (2-(aR (t.args.map (aP L cs)) 0).n).toNat
   show _≤fp _ _ _
   omega
  split
  ·simp;omega
  ·show _≤fp _ _ _
   omega
@[simp] theorem ZE (x y:List Int):rY (ints x) 0 (ints y)=ints y:=_root_.id rfl
@[simp] theorem RV (x y:Cell):rY (aG x) 0 (aG y)=aG y:=_root_.id rfl
@[simp] theorem adk (a b:List Int):D.list (a.map D.int++b.map D.int)=ints (a++b):=by simp[ints]
def lists (l:List (List Int)):D:=.list (l.map ints)
@[simp] theorem ae9 (l:List (List Int)):(lists l).l=l.map ints:=_root_.id rfl
theorem Uk (l:List (List Int)) (hl:l.length≤1000) (hs:l.flatten.length≤1000000):Runs T pQ [lists l] (ints l.flatten):=by
 refine .of_tree rfl yS uH ?_
 simp[gp]
 have hb:∀k,(l.take k).flatten.length≤l.flatten.length:=by
  intro k
  conv=>rhs;rw[←List.take_append_drop k l]
  rw[List.flatten_append,List.length_append];omega
 have hk1:∀k (hk:k<l.length),(l.take (k+1)).flatten=(l.take k).flatten++l[k]:=fun k hk=>by
  rw[List.take_succ_eq_append_getElem hk,List.flatten_append];simp
 refine EvP.forRounds l.length (fun k=>[.int ((l.take k).flatten.length:Nat),.int k]) (fun k=>[]) ?_ (fun k hk=>?_) ?_
 ·simp
 ·have hw:=au hk (by omega)
  have h1:=hk1 k hk
  have h2:=hb (k+1)
  rw[h1] at h2 ⊢
  rw[List.length_append] at h2 ⊢
  generalize (l.take k).flatten.length=m at*
  have hwm:IntKind.i64.wrap ((m:Int)+(l[k].length:Int))=(m:Int)+l[k].length:=aD (by omega)
  have hnn:¬((m:Int)+l[k].length<0):=by omega
  simp[iv,cH,hk,hw,hwm,hnn]
 ·simp[iv,cH]
  have hgrow:Runs T 251 [.list [],.int (l.flatten.length:Nat)] (.list []):=by
   refine .of_ext (g:=fun _ ds=>Wm ds) rfl ⟨0,fun _ _=>?_⟩
   show(if(0:Int)≤(l.flatten.length:Nat)∧((l.flatten.length:Nat):Int)≤4294967296 then some (D.list []) else none)=some (D.list [])
   rw[if_pos (by omega)]
  rw[List.length_flatten] at hgrow
  refine⟨_,hgrow,?_⟩
  refine EvP.forRounds l.length (fun k=>[.none,.int k]) (fun k=>[ints (l.take k).flatten]) ?_ (fun k hk=>?_) ?_
  ·simp[ints]
  ·have hw:=au hk (by omega)
   have h1:=hk1 k hk
   have h2:=hb (k+1)
   rw[h1] at h2 ⊢
   rw[List.length_append] at h2
   generalize (l.take k).flatten=m at*
   simp[iw,cK,hk,hw]
   omega
  ·simp[iw,cK]
theorem Z6 {op:Int} {l:List Cell} (h:(bk op l).known=false):bk op l=noC:=by
 have hy:∀b,(qL b).known=true:=fun b=>by cases b<;>simp[qL]
 unfold bk at h ⊢
 split<;>rename_i c1
 ·rw[if_pos c1] at h
  split<;>rename_i c2
  ·rw[if_pos c2,hy] at h;cases h
  ·rfl
 rw[if_neg c1] at h
 split<;>rename_i c2
 ·rw[if_pos c2,hy] at h;cases h
 rw[if_neg c2] at h
 split<;>rename_i c3
 ·rw[if_pos c3] at h
  split<;>rename_i c4
  ·rw[if_pos c4,c4.1] at h;cases h
  ·rfl
 rw[if_neg c3] at h
 split<;>rename_i c4
 ·rfl
 rw[if_neg c4] at h
 repeat' split at h
 all_goals first|(rw[hy] at h;cases h)|cases h
theorem Aw:∀(L:Nat) (cs:List Cell) (t:Tm) (k:Int),t.OK→bA L t≤60→aL L t=(k,0)→Runs T kq [aaY cs,iM t] (.tup [aG (aP L cs t),ints (bz L cs t)])
 |0,cs,t,k,ht,hm,hc=>by simp[bA] at hm
 |L+1,cs,t,k,ht,hm,hc=>by
  refine .of_tree rfl zH vD ?_
  obtain⟨hl,hp⟩:=CJ hm
  obtain⟨ha,_⟩:=Cw hc
  obtain⟨hn,hk01⟩:=Bv hc
  have hrec:∀a,a∈t.args→Runs T kq [aaY cs,iM a] (.tup [aG (aP L cs a),ints (bz L cs a)]):=fun a hm'=>Aw L cs a (aL L a).1 (ht.arg hm') (hp a hm') (by rw[←ha a hm'])
  have hrng:∀a,a∈t.args→Rng (aL L a).1 (aP L cs a):=fun a hm'=>Tz cs (show aL L a=((aL L a).1,0) by rw[←ha a hm'])
  have hnl:∀a,a∈t.args→(bz L cs a).length≤60:=fun a hm'=>by have:=PM L cs a (hp a hm');have:=hp a hm';omega
  by_cases h01:t.op=0∨t.op=1
  ·
   have e1:aP (L+1) cs t=⟨true,t.n⟩:=by rw[vw,if_pos h01]
   have e2:bz (L+1) cs t=[]:=by rw[sD,if_pos h01]
   rw[e1,e2]
   rcases h01 with h|h<;>simp[cC,h]<;>exact⟨rfl,rfl⟩
  have o0:t.op≠0:=fun h=>h01 (.inl h)
  have o1:t.op≠1:=fun h=>h01 (.inr h)
  by_cases o2:t.op=2
  ·have hv:0≤t.n:=by
    cases hn with
    |var h0 ha hn=>exact hn.1
    |_=>omega
   have e1:aP (L+1) cs t=kl cs t.n:=by rw[vw,if_neg h01,if_pos o2]
   have e2:bz (L+1) cs t=if(kl cs t.n).known=true then[] else[t.n]:=by rw[sD,if_neg h01,if_pos o2]
   rw[e1,e2]
   simp[cC,o2]
   refine⟨_,JG cs t.n hv,?_⟩
   cases e:(kl cs t.n).known
   ·have:kl cs t.n=noC:=by
     unfold kl at e ⊢
     split
     ·rfl
     ·rename_i h
      rw[if_neg h] at e
      split at e
      ·cases hb:decide ((cellAt cs t.n).n≠0)<;>rw[hb] at e<;>cases e
      ·cases e
    rw[this]
    simp[ints]
   ·have h:kl cs t.n=⟨true,(kl cs t.n).n⟩:=by rw[←e]
    rw[h]
    simp[ints]
    try rfl
  have hlen:1≤t.args.length∧(t.op≠3→2≤t.args.length)∧(t.op=6→3≤t.args.length):=by
   cases hn with
   |int h0 ha hn=>omega
   |bool h0 ha hn=>omega
   |var h0 ha hn=>omega
   |not h0 hk=>obtain⟨a,hl,_⟩:=afJ hk;rw[hl];simp;omega
   |log h0 hk=>obtain⟨a,b,hl,_⟩:=WG hk;rw[hl];simp;omega
   |ite k h0 hk=>obtain⟨a,b,c,hl,_⟩:=abx hk;rw[hl];simp
   |less h0 hk=>obtain⟨a,b,hl,_⟩:=WG hk;rw[hl];simp;omega
   |equal k h0 hk=>obtain⟨a,b,hl,_⟩:=WG hk;rw[hl];simp;omega
   |num h0 hk=>obtain⟨a,b,hl,_⟩:=WG hk;rw[hl];simp;omega
  have hb9:9≤t.op→(-1099511627776≤(aR (t.args.map (aP L cs)) 0).n∧(aR (t.args.map (aP L cs)) 0).n≤1099511627776)∧(-1099511627776≤(aR (t.args.map (aP L cs)) 1).n∧(aR (t.args.map (aP L cs)) 1).n≤1099511627776):=by
   intro h9
   have rb:∀c:Cell,Rng 0 c→-1099511627776≤c.n∧c.n≤1099511627776:=by
    intro c hr
    cases e:c.known with
    |false=>rw[hr.1 e];simp
    |true=>exact(hr.2 e).2 rfl
   cases hn with
   |num h0 hk=>
    obtain⟨a,b,hl,ea,eb⟩:=WG hk
    rw[hl] at hrng ⊢
    have r1:=hrng a (by simp)
    have r2:=hrng b (by simp)
    rw[ea] at r1;rw[eb] at r2
    exact⟨rb _ r1,rb _ r2⟩
   |log h0 hk=>omega
   |_=>omega
  have h6:t.op=6→(aR (t.args.map (aP L cs)) 0).known=true→(aR (t.args.map (aP L cs)) 0).n=0∨(aR (t.args.map (aP L cs)) 0).n=1:=by
   intro o6 hkn
   cases hn with
   |ite k h0 hk=>
    obtain⟨a,b,c,hl,ea,_⟩:=abx hk
    rw[hl] at hrng hkn ⊢
    have r1:=hrng a (by simp)
    rw[ea] at r1
    exact(r1.2 hkn).1 rfl
   |log h0 hk=>omega
   |num h0 hk=>omega
   |_=>omega
  have hop:t.op<3∨8<t.op→9≤t.op:=by
   cases hn with
   |log h0 hk=>omega
   |num h0 hk=>omega
   |_=>omega
  have e1:aP (L+1) cs t=if t.op=6∧(aR (t.args.map (aP L cs)) 0).known=true then aR (t.args.map (aP L cs)) (2-(aR (t.args.map (aP L cs)) 0).n).toNat else bk t.op (t.args.map (aP L cs)):=by
   rw[vw,if_neg h01,if_neg o2]
  have e2:bz (L+1) cs t=if t.op=6∧(aR (t.args.map (aP L cs)) 0).known=true then(t.args.map (bz L cs)).getD (2-(aR (t.args.map (aP L cs)) 0).n).toNat [] else if(bk t.op (t.args.map (aP L cs))).known=true then[] else(t.args.map (bz L cs)).flatten:=by
   rw[sD,if_neg h01,if_neg o2]
  rw[e1,e2]
  simp[cC,o0,o1,o2]
  refine⟨by omega,?_⟩
  refine EvP.forRounds t.args.length (fun k=>[.int k]) (fun k=>[cells ((t.args.map (aP L cs)).take k++List.replicate (t.args.length-k) noC),lists ((t.args.map (bz L cs)).take k++List.replicate (t.args.length-k) [])]) ?_ (fun k hk=>?_) ?_
  ·simp[cells,lists,ints]
  ·have hw:=au hk (by omega)
   have hmem:=List.getElem_mem hk
   have hr:=hrec _ hmem
   have s1:=Ch (t.args.map (aP L cs)) noC (n:=t.args.length) (by simp) hk
   have s2:=Ch (t.args.map (bz L cs)) [] (n:=t.args.length) (by simp) hk
   rw[←s1,←s2]
   have l1:((t.args.map (aP L cs)).take k++List.replicate (t.args.length-k) noC).length=t.args.length:=by simp;omega
   have l2:((t.args.map (bz L cs)).take k++List.replicate (t.args.length-k) []).length=t.args.length:=by simp;omega
   have g1:(t.args.map (aP L cs))[k]'(by simpa using hk)=aP L cs t.args[k]:=by simp
   have g2:(t.args.map (bz L cs))[k]'(by simpa using hk)=bz L cs t.args[k]:=by simp
   rw[g1,g2]
   generalize (t.args.map (aP L cs)).take k++List.replicate (t.args.length-k) noC=A at*
   generalize (t.args.map (bz L cs)).take k++List.replicate (t.args.length-k) []=B at*
   generalize aP L cs t.args[k]=c at*
   generalize bz L cs t.args[k]=d at*
   simp[dP,bK,hk]
   refine⟨_,hr,?_⟩
   simp[hw,hk,l1,l2,cells,lists]
  ·have hA:(t.args.map (aP L cs)).take t.args.length++List.replicate (t.args.length-t.args.length) noC=t.args.map (aP L cs):=by rw[Nat.sub_self,List.replicate_zero,List.append_nil,List.take_of_length_le (by simp)]
   have hB:(t.args.map (bz L cs)).take t.args.length++List.replicate (t.args.length-t.args.length) []=t.args.map (bz L cs):=by rw[Nat.sub_self,List.replicate_zero,List.append_nil,List.take_of_length_le (by simp)]
   have lA:(t.args.map (aP L cs)).length=t.args.length:=by simp
   have lB:(t.args.map (bz L cs)).length=t.args.length:=by simp
   have hfl:∀l:List Tm,(∀a,a∈l→a∈t.args)→((l.map (bz L cs)).flatten.length≤l.length*60):=by
    intro l
    induction l with
    |nil=>intro _;simp
    |cons a l ih=>
     intro h
     have h1:=hnl a (h a (by simp))
     have h2:=ih (fun b hb=>h b (by simp[hb]))
     rw[List.map_cons,List.flatten_cons,List.length_append,List.length_cons]
     omega
   have hfl:=hfl t.args (fun a h=>h)
   have hBg:∀m:Nat,(Option.map (bz L cs) t.args[m]?).getD []=(t.args.map (bz L cs)).getD m []:=fun m=>by simp[List.getD_eq_getElem?_getD]
   rw[hA,hB]
   generalize t.args.map (aP L cs)=A at*
   generalize t.args.map (bz L cs)=B at*
   have g0:0<A.length:=by omega
   have gg0:A[0]=aR A 0:=by simp[aR,g0]
   by_cases h6k:t.op=6∧(aR A 0).known=true
   ·obtain⟨o6,kn⟩:=h6k
    have hv:=h6 o6 kn
    have hw:IntKind.i64.wrap (2-(aR A 0).n)=2-(aR A 0).n:=aD (by omega)
    have h3:3≤t.args.length:=hlen.2.2 o6
    rw[if_pos ⟨o6,kn⟩,if_pos ⟨o6,kn⟩]
    obtain⟨m,hm'⟩:∃m:Nat,m=(2-(aR A 0).n).toNat:=⟨_,rfl⟩
    have hmA:m<A.length:=by omega
    have hmB:m<B.length:=by omega
    simp[dP,bK,o6,kn,g0,gg0,hw,←hm',hmA,hmB,cells,lists]
    refine⟨by omega,by omega,by simp[aR,hmA],?_⟩
    rw[hBg,List.getD_eq_getElem?_getD,List.getElem?_eq_getElem hmB]
    rfl
   ·rw[if_neg h6k,if_neg h6k]
    have hcomb:=DI t.op A (by omega) (by omega) (by omega) hb9 hop
    have hconc:=Uk B (by omega) (by omega)
    simp[dP,bK,g0,gg0]
    rw[if_neg h6k]
    refine⟨_,hcomb,?_⟩
    cases e:(bk t.op A).known
    ·have hno:bk t.op A=noC:=Z6 e
     rw[hno]
     simp
     exact hconc
    ·have h:bk t.op A=⟨true,(bk t.op A).n⟩:=by rw[←e]
     rw[h]
     simp[ints]
     try rfl
end Rm
set_option linter.unusedSimpArgs false
set_option linter.unusedVariables false
namespace Rm
open Go Go.Proofs Cx
def ixB (n:Nat) (g:Nat→Bool):Int:=if(List.range n).findIdx g<n then((List.range n).findIdx g:Nat) else-1
theorem um (n:Nat) (g:Nat→Bool):(ixB n g=-1∧∀k,k<n→g k=false)∨∃k:Nat,k<n∧ixB n g=k∧g k=true∧∀i,i<k→g i=false:=by
 unfold ixB
 split
 ·rename_i h
  refine .inr ⟨_,h,rfl,?_,fun i hi=>?_⟩
  ·have:=List.findIdx_getElem (p:=g) (xs:=List.range n) (w:=by simpa using h)
   simpa using this
  ·have:=List.not_of_lt_findIdx (p:=g) (xs:=List.range n) hi
   simpa using this
 ·rename_i h
  refine .inl ⟨rfl,fun k hk=>?_⟩
  have:=List.not_of_lt_findIdx (p:=g) (xs:=List.range n) (i:=k) (by omega)
  simpa using this
theorem MG {n:Nat} {g:Nat→Bool} (h:∀k,k<n→g k=false):ixB n g=-1:=by
 rcases um n g with⟨h1,_⟩|⟨k,hk,_,h2,_⟩
 ·exact h1
 ·rw[h k hk] at h2;cases h2
theorem MU {n k:Nat} {g:Nat→Bool} (hk:k<n) (h:g k=true) (hj:∀i,i<k→g i=false):ixB n g=k:=by
 rcases um n g with⟨_,h1⟩|⟨m,hm,h1,h2,h3⟩
 ·rw[h1 k hk] at h;cases h
 ·rcases Nat.lt_trichotomy m k with h4|h4|h4
  ·rw[hj m h4] at h2;cases h2
  ·rw[h1,h4]
  ·rw[h3 k h4] at h;cases h
theorem YL (n:Nat) (g:Nat→Bool):decide (0≤ixB n g)=(List.range n).any g:=by
 rcases um n g with⟨h1,h2⟩|⟨m,hm,h1,h2,h3⟩
 ·rw[h1]
  symm
  simp
  exact h2
 ·rw[h1]
  simp
  exact⟨m,hm,h2⟩
theorem zN (l:List Rule) (f:Nat) (caps:List D) (g:Nat→Bool) (hg:∀k (hk:k<l.length),Runs T f (pR l[k]::caps) (.bool (g k))) (hl:l.length≤4294967296):
 Runs T kA [rules l,.clo f caps] (.int (ixB l.length g)):=by
 refine .of_tree rfl tj pZ ?_
 simp[dO]
 refine .scan l.length (fun k=>g k=false) (fun k=>[.int 0,.int k]) (fun _=>[]) ?_ (fun k hk hj ho=>?_) (fun k hk hj ho=>?_) (fun hj=>?_)
 ·simp
 ·have hw:=au hk hl
  simp[bW,aU,hk,hw]
  refine⟨_,_,⟨rfl,rfl⟩,_,hg k hk,?_⟩
  simp[ho,hw]
 ·have he:=MU hk (by simpa using ho) hj
  simp[bW,aU,hk,he]
  refine⟨_,_,⟨rfl,rfl⟩,_,hg k hk,?_⟩
  simp[ho]
 ·have he:=MG hj
  simp[bW,aU,he]
theorem CB (l:List Int) (f:Nat) (caps:List D) (g:Nat→Bool) (hg:∀k (hk:k<l.length),Runs T f (.int l[k]::caps) (.bool (g k))) (hl:l.length≤4294967296):
 Runs T lh [ints l,.clo f caps] (.int (ixB l.length g)):=by
 refine .of_tree rfl uf q7 ?_
 simp[eE]
 refine .scan l.length (fun k=>g k=false) (fun k=>[.int 0,.int k]) (fun _=>[]) ?_ (fun k hk hj ho=>?_) (fun k hk hj ho=>?_) (fun hj=>?_)
 ·simp
 ·have hw:=au hk hl
  simp[ct,aY,hk,hw,ints]
  refine⟨_,_,⟨rfl,rfl⟩,_,hg k hk,?_⟩
  simp[ho,hw]
 ·have he:=MU hk (by simpa using ho) hj
  simp[ct,aY,hk,he,ints]
  refine⟨_,_,⟨rfl,rfl⟩,_,hg k hk,?_⟩
  simp[ho]
 ·have he:=MG hj
  simp[ct,aY,he,ints]
theorem yC (l:List Alter) (f:Nat) (caps:List D) (g:Nat→Bool) (hg:∀k (hk:k<l.length),Runs T f (gz l[k]::caps) (.bool (g k))) (hl:l.length≤4294967296):
 Runs T jh [alters l,.clo f caps] (.int (ixB l.length g)):=by
 refine .of_tree rfl rU oo ?_
 simp[du]
 refine .scan l.length (fun k=>g k=false) (fun k=>[.int 0,.int k]) (fun _=>[]) ?_ (fun k hk hj ho=>?_) (fun k hk hj ho=>?_) (fun hj=>?_)
 ·simp
 ·have hw:=au hk hl
  simp[bO,aS,hk,hw]
  refine⟨_,_,⟨rfl,rfl⟩,_,hg k hk,?_⟩
  simp[ho,hw]
 ·have he:=MU hk (by simpa using ho) hj
  simp[bO,aS,hk,he]
  refine⟨_,_,⟨rfl,rfl⟩,_,hg k hk,?_⟩
  simp[ho]
 ·have he:=MG hj
  simp[bO,aS,he]
theorem wY (l:List Int) (f:Nat) (caps:List D) (g:Nat→Bool) (hg:∀k (hk:k<l.length),Runs T f (.int l[k]::caps) (.bool (g k))) (hl:l.length≤4294967296):
 Runs T ix [ints l,.clo f caps] (.bool ((List.range l.length).any g)):=by
 refine .of_tree rfl qP nL ?_
 simp[df]
 refine⟨_,CB l f caps g hg hl,?_⟩
 have:=YL l.length g
 simp[←this]
theorem ur (l:List Alter) (f:Nat) (caps:List D) (g:Nat→Bool) (hg:∀k (hk:k<l.length),Runs T f (gz l[k]::caps) (.bool (g k))) (hl:l.length≤4294967296):
 Runs T fZ [alters l,.clo f caps] (.bool ((List.range l.length).any g)):=by
 refine .of_tree rfl nS l8 ?_
 simp[cu]
 refine⟨_,yC l f caps g hg hl,?_⟩
 have:=YL l.length g
 simp[←this]
def PQ (cs:List Cell) (t:Tm):Cell:=if(nT t).2=0 then aP 8 cs t else noC
theorem WA {t:Tm} (h:(nT t).2=0):bA 8 t≤60∧aL 8 t=((nT t).1,0):=by
 unfold nT at h ⊢
 split at h
 ·cases h
 ·rename_i hm
  rw[if_neg hm]
  exact⟨by omega,by rw[←h]⟩
theorem Mv (t:Tm) (cs:List Cell) (ht:t.OK):Runs T Hu [iM t,cells cs] (aG (PQ cs t)):=by
 refine .of_tree rfl QG Ir ?_
 simp[vf,PQ]
 refine⟨_,we t ht,?_⟩
 by_cases h:(nT t).2=0
 ·obtain⟨h1,h2⟩:=WA h
  simp[h]
  refine⟨_,Aw 8 cs t _ ht h1 h2,?_⟩
  simp
  try rfl
 ·simp[h]
  try rfl
def aa2:List Int:=[6,7,10,12,13,14,15,16,20,21]
def yc (ask:Int):Int×Bool:=if ask<0∨22≤ask then(0,false) else if hasB aa2 ask then(0,true) else(1,true)
theorem oV (ask:Int):Runs T DJ [.int ask] (.tup [.int (yc ask).1,.bool (yc ask).2]):=by
 refine .of_tree rfl N1 GN ?_
 simp[sV,yc]
 by_cases h0:ask<0
 ·simp[h0]
 by_cases h1:22≤ask
 ·simp[h0,h1]
 simp[h0,h1]
 refine⟨_,cq aa2 ask (by decide),?_⟩
 cases h:hasB aa2 ask<;>simp[h]
def noT:Tm:=⟨0,0,[]⟩
def HH (o:Order) (ask:Int) (k:Nat):Bool:=decide ((o.rules.getD k default).ask=ask)
def Kl (o:Order) (i:Int):Tm:=(o.rules.getD i.toNat default).term
def findF (o:Order) (ask:Int):Tm×Int:=
 if(yc ask).2=false then(noT,1) else if ixB o.rules.length (HH o ask)<0 then(noT,4) else
    if(nT (Kl o (ixB o.rules.length (HH o ask)))).2≠0∨(nT (Kl o (ixB o.rules.length (HH o ask)))).1≠(yc ask).1 then(noT,11) else(Kl o (ixB o.rules.length (HH o ask)),0)
theorem VX {o:Order} (ho:o.OK) {m:Nat} (hm:m<o.rules.length):o.rules[m].term.OK:=(ho.2.2 _ (List.getElem_mem hm)).2
theorem VD:noT.OK:=by
 exact .mk 0 0 [] (by unfold I64;omega) (by unfold I64;omega) (by decide) (fun _ h=>by cases h)
theorem ZV {o:Order} (ho:o.OK) (ask:Int):(findF o ask).1.OK:=by
 unfold findF
 split
 ·exact VD
 split
 ·exact VD
 split
 ·exact VD
 ·rename_i h _
  rcases um o.rules.length (HH o ask) with⟨h1,h2⟩|⟨m,hm,h1,h2,h3⟩
  ·exact absurd (by rw[h1];decide) h
  ·rw[h1]
   simp[Kl,hm]
   exact VX ho hm
theorem VB (r:Rule) (ask:Int):Runs T rz [pR r,.ref (.int ask)] (.bool (decide (r.ask=ask))):=by
 refine .of_tree rfl IJ BR ?_
 simp[oT]
theorem IU (o:Order) (ask:Int) (ho:o.OK) (hl:o.rules.length≤4294967296):Runs T DH [bM o,.int ask] (.tup [iM (findF o ask).1,.int (findF o ask).2]):=by
 refine .of_tree rfl Oa GC ?_
 simp[s9,findF]
 refine⟨_,oV ask,?_⟩
 cases h0:(yc ask).2
 ·simp[h0]
  try rfl
 simp[h0]
 refine⟨_,zN o.rules rz [.ref (.int ask)] (HH o ask) (fun k hk=>by simpa [HH,hk] using VB o.rules[k] ask) hl,?_⟩
 rcases um o.rules.length (HH o ask) with⟨h1,h2⟩|⟨m,hm,h1,h2,h3⟩
 ·rw[h1]
  simp
  try rfl
 ·rw[h1]
  have hnn:¬((m:Int)<0):=by omega
  have htm:o.rules[m].term.OK:=VX ho hm
  simp[hm,Kl,hnn]
  refine⟨_,we _ htm,?_⟩
  by_cases h4:(nT o.rules[m].term).2=0<;>by_cases h5:(nT o.rules[m].term).1=(yc ask).1<;>simp[h4,h5]<;>try rfl
def zi (o:Order) (ask:Int) (cs:List Cell):Cell×Int:=
 if(findF o ask).2≠0 then(noC,(findF o ask).2) else
    (if(yc ask).1=0∧(PQ cs (findF o ask).1).known=true then⟨true,min (max (PQ cs (findF o ask).1).n 0) 20000⟩ else PQ cs (findF o ask).1,0)
theorem DL (o:Order) (ask:Int) (cs:List Cell) (ho:o.OK) (hl:o.rules.length≤4294967296):Runs T yd [bM o,.int ask,cells cs] (.tup [aG (zi o ask cs).1,.int (zi o ask cs).2]):=by
 refine .of_tree rfl Jn CC ?_
 simp[oJ]
 refine⟨_,IU o ask ho hl,?_⟩
 have hf:(findF o ask).1.OK:=ZV ho ask
 by_cases h:(findF o ask).2=0
 ·simp[h,zi]
  refine⟨_,Mv _ cs hf,_,oV ask,?_⟩
  generalize PQ cs (findF o ask).1=c
  obtain⟨kn,n⟩:=c
  by_cases h1:(yc ask).1=0
  ·cases kn
   ·simp[h1,aG]
   ·by_cases h2:n<0
    ·have:min (max n 0) 20000=0:=by omega
     simp[h1,aG,h2,this]
     rfl
    ·by_cases h3:20000<n
     ·have:min (max n 0) 20000=20000:=by omega
      simp[h1,aG,h2,h3,this]
      rfl
     ·have:min (max n 0) 20000=n:=by omega
      simp[h1,aG,h2,h3,this]
      rfl
  ·simp[h1,aG]
 ·simp[h,zi]
  try rfl
end Rm
set_option linter.unusedSimpArgs false
set_option linter.unusedVariables false
namespace Rm
open Go Go.Proofs Cx
theorem sc (b:Bool):Runs T yp [.bool b] (aG (qL b)):=by
 refine .of_tree rfl II Bz ?_
 cases b<;>simp[oR,qL]<;>rfl
def nF (kind sign:Int) (x:Fact):Bool:=decide (x.kind=kind)&&decide (x.at_=sign)
def br (f:File) (kind sign:Int):Cell:=match f.facts.find? (nF kind sign) with|none=>noC|some x=>qL (decide (x.n≠0))
theorem rG {α:Type} {p:α→Bool}:∀{l:List α} {k:Nat} (hk:k<l.length),p l[k]=true→(∀j (hj:j<k),p (l[j]'(by omega))=false)→l.find? p=some l[k]
 |a::l,0,hk,h,hj=>by simp at h;simp[h]
 |a::l,k+1,hk,h,hj=>by
  have h0:=hj 0 (by omega)
  simp at h0
  simp only[List.find?_cons,h0,List.getElem_cons_succ]
  exact rG (by simpa using hk) (by simpa using h) (fun j hj'=>by simpa using hj (j+1) (by omega))
theorem qd {α:Type} {p:α→Bool} {l:List α} (h:∀j (hj:j<l.length),p l[j]=false):l.find? p=none:=by
 rw[List.find?_eq_none]
 intro x hx
 obtain⟨j,hj,rfl⟩:=List.getElem_of_mem hx
 rw[h j hj];decide
theorem eh (f:File) (kind sign:Int) (hl:f.facts.length≤4294967296):Runs T AI [aQ f,.int kind,.int sign] (aG (br f kind sign)):=by
 refine .of_tree rfl NB CM ?_
 simp[re]
 refine .scan f.facts.length (fun k=>nF kind sign (f.facts.getD k default)=false) (fun k=>[.int k]) (fun _=>[aG noC]) ?_ (fun k hk hj ho=>?_) (fun k hk hj ho=>?_) (fun hj=>?_)
 ·simp
 ·have hw:=au hk hl
  simp[hk,nF] at ho
  by_cases h1:f.facts[k].kind=kind<;>by_cases h2:f.facts[k].at_=sign
  ·exact absurd h2 (ho h1)
  all_goals simp[iQ,eA,hk,hw,h1,h2]
 ·have hw:=au hk hl
  have hf:br f kind sign=qL (decide (f.facts[k].n≠0)):=by
   unfold br
   rw[rG hk (by simpa [hk] using ho) (fun j hj'=>by have:=hj j hj';simpa [show j<f.facts.length by omega] using this)]
  simp[hk,nF] at ho
  simp[iQ,eA,hk,hw,ho,hf]
  refine⟨_,sc _,?_⟩
  simp
  try rfl
 ·have hf:br f kind sign=noC:=by
   unfold br
   rw[qd (fun j hj'=>by have:=hj j hj';simpa [hj'] using this)]
  simp[iQ,eA,hf]
  try rfl
def aT (r:Realm) (c:Int):Int:=if inB c r.cities.length=true then(r.cities.getD c.toNat default).order else-1
theorem aJ (r:Realm) (c:Int):Runs T v5 [aw r,.int c] (.int (aT r c)):=by
 refine .of_tree rfl F3 zE ?_
 simp[mG,aT]
 refine⟨_,aC c r.cities.length,?_⟩
 cases h:inB c r.cities.length
 ·simp[h]
 ·simp[inB] at h
  have h1:c.toNat<r.cities.length:=by omega
  simp[h,h1]
def upS (day:Int) (l:List Sign):List Sign:=l.takeWhile fun s=>decide (s.day≤day)
def upA (day:Int) (l:List Act):List Act:=l.takeWhile fun s=>decide (s.day≤day)
def OS (n:Nat) (a:Alter):Bool:=decide (a.at_≤(n:Int))
def Ck (n:Nat) (x:Fact):Bool:=inB x.at_ n
def atF (f:File) (day:Int):File:=
 ⟨f.bill,upS day f.signs,f.alters.filter (OS (upS day f.signs).length),upA day f.acts,f.facts.filter (Ck (upS day f.signs).length)⟩
theorem J7 {α:Type} (p:α→Bool):∀(l:List α),∃m,m≤l.length∧l.takeWhile p=l.take m∧(∀k (hk:k<l.length),k<m→p l[k]=true)∧(∀hk:m<l.length,p l[m]=false)
 |[]=>⟨0,by simp,by simp,fun k hk=>by simp at hk,fun hk=>by simp at hk⟩
 |a::l=>by
  by_cases h:p a=true
  ·obtain⟨m,h1,h2,h3,h4⟩:=J7 p l
   refine⟨m+1,by simp;omega,by simp[h,h2],fun k hk hm=>?_,fun hk=>?_⟩
   ·cases k with
    |zero=>simpa using h
    |succ k=>simpa using h3 k (by simpa using hk) (by omega)
   ·simpa using h4 (by simpa using hk)
  ·refine⟨0,by simp,by simp[h],fun k hk hm=>by omega,fun hk=>by simpa using h⟩
theorem kz {α:Type} (p:α→Bool) (l:List α) {k:Nat} (hk:k<l.length):(l.take (k+1)).filter p=(l.take k).filter p++if p l[k] then[l[k]] else[]:=by
 rw[List.take_succ_eq_append_getElem hk,List.filter_append]
 congr 1
 cases h:p l[k]<;>simp[h]
def TY (b:Bill) (w x y z:D):D:=.agg [.int b.drawer,.int b.drawee,.int b.payee,.int b.sum,.int b.currency,.int b.tenor.kind,.int b.tenor.n,.int b.tenor.unit,.int b.day,.int b.city,.int b.pay,.int b.need,.int b.rate,.int b.flags,.int b.parts,w,x,y,z]
def sr {α:Type} (l:List α):D:=match l with|[]=>.list []|_=>.none
@[simp] theorem acm {α:Type}:sr ([]:List α)=.list []:=rfl
@[simp] theorem abN {α:Type} (l:List α) (x:α):sr (l++[x])=.none:=by cases l<;>rfl
theorem qA (f:File) (day:Int) (h1:f.signs.length≤4294967295) (h2:f.acts.length≤4294967295) (h3:f.alters.length≤4294967295) (h4:f.facts.length≤4294967295):Runs T HD [aQ f,.int day] (aQ (atF f day)):=by
 refine .of_tree rfl Ql J2 ?_
 simp[uX]
 obtain⟨m,hm,hS,hS1,hS2⟩:=J7 (fun s:Sign=>decide (s.day≤day)) f.signs
 obtain⟨n,hn,hA,hA1,hA2⟩:=J7 (fun s:Act=>decide (s.day≤day)) f.acts
 refine EvP.forRounds m (fun k=>[.int k]) (fun k=>[signs (f.signs.take k),TY f.bill (sr (f.signs.take k)) (.list []) (.list []) (.list [])]) ?_ (fun k hk=>?_) ?_
 ·simp[TY,signs]
  try rfl
 ·have hk':k<f.signs.length:=by omega
  have hw:=au hk' (by omega)
  have hd:=hS1 k hk' hk
  simp at hd
  have hd':¬day<f.signs[k].day:=by omega
  have hle:(k:Int)+1≤4294967296:=by omega
  have ht:=List.take_succ_eq_append_getElem hk'
  rw[ht]
  have hlen:(f.signs.take k).length=k:=by simp;omega
  generalize f.signs.take k=A at*
  simp[lu,gE,hk',hw,hd',hlen]
  exact⟨hle,by simp[signs],rfl⟩
 have hSl:(f.signs.take m).length≤4294967295:=by rw[List.length_take];omega
 have hAt:atF f day=⟨f.bill,f.signs.take m,f.alters.filter (OS (f.signs.take m).length),f.acts.take n,f.facts.filter (Ck (f.signs.take m).length)⟩:=by
  unfold atF upS upA
  rw[hS,hA]
 rw[hAt]
 generalize f.signs.take m=S at*
 have hAl:(f.acts.take n).length≤4294967295:=by rw[List.length_take];omega
 by_cases hm':m<f.signs.length
 case' pos=>
  have hd:=hS2 hm'
  simp at hd
  simp[lu,gE,hm',hd]
  generalize D.bool true=bb
 case' neg=>
  have hm2:m=f.signs.length:=by omega
  simp[lu,gE,hm',hm2]
  generalize D.bool false=bb
 all_goals
  refine EvP.forRounds n (fun k=>[.int k]) (fun k=>[acts (f.acts.take k),TY f.bill (sr S) (.list []) (sr (f.acts.take k)) (.list [])]) ?_ (fun k hk=>?_) ?_
  ·simp[acts]
  ·have hk':k<f.acts.length:=by omega
   have hw:=au hk' (by omega)
   have hd:=hA1 k hk' hk
   simp at hd
   have hd':¬day<f.acts[k].day:=by omega
   have hle:(k:Int)+1≤4294967296:=by omega
   have ht:=List.take_succ_eq_append_getElem hk'
   rw[ht]
   have hlen:(f.acts.take k).length=k:=by simp;omega
   generalize f.acts.take k=A at*
   simp[ls,gj,hk',hw,hd',hlen]
   exact⟨hle,by simp[acts],rfl⟩
  generalize f.acts.take n=A at*
  by_cases hn':n<f.acts.length
  case' pos=>
   have hd:=hA2 hn'
   simp at hd
   simp[ls,gj,hn',hd]
   generalize D.bool true=bc
  case' neg=>
   have hn2:n=f.acts.length:=by omega
   simp[ls,gj,hn',hn2]
   generalize D.bool false=bc
  all_goals
   refine EvP.forRounds f.alters.length (fun k=>[.int k]) (fun k=>[TY f.bill (sr S) (sr ((f.alters.take k).filter (OS S.length))) (sr A) (.list []),alters ((f.alters.take k).filter (OS S.length))]) ?_ (fun k hk=>?_) ?_
   ·simp[alters]
   ·have hw:=au hk (by omega)
    have ht:=kz (OS S.length) f.alters hk
    rw[ht]
    have hlen:((f.alters.take k).filter (OS S.length)).length≤k:=Nat.le_trans (List.length_filter_le _ _) (by simp;omega)
    generalize (f.alters.take k).filter (OS S.length)=B at*
    by_cases hd:f.alters[k].at_≤(S.length:Int)
    ·simp[lz,gI,OS,hk,hw,hd]
     exact⟨by omega,rfl,by simp[alters]⟩
    ·simp[lz,gI,OS,hk,hw,hd]
   simp[lz,gI]
   generalize f.alters.filter (OS S.length)=B at*
   refine EvP.forRounds f.facts.length (fun k=>[.int k]) (fun k=>[TY f.bill (sr S) (sr B) (sr A) (sr ((f.facts.take k).filter (Ck S.length))),facts ((f.facts.take k).filter (Ck S.length))]) ?_ (fun k hk=>?_) ?_
   ·simp[facts]
   ·have hw:=au hk (by omega)
    have ht:=kz (Ck S.length) f.facts hk
    rw[ht]
    have hlen:((f.facts.take k).filter (Ck S.length)).length≤k:=Nat.le_trans (List.length_filter_le _ _) (by simp;omega)
    generalize (f.facts.take k).filter (Ck S.length)=C at*
    cases hd:inB f.facts[k].at_ S.length
    ·simp[lj,gy,Ck,hk,hw,hd]
     refine⟨_,aI _ _,?_⟩
     simp[hd,hw]
    ·simp[lj,gy,Ck,hk,hw,hd]
     refine⟨_,aI _ _,?_⟩
     simp[hd,hw]
     exact⟨by omega,rfl,by simp[facts]⟩
   simp[lj,gy]
   rfl
end Rm
set_option linter.unusedSimpArgs false
set_option linter.unusedVariables false
namespace Rm
open Go Go.Proofs Cx
def Wv:List Int→Int
 |[]=>-1
 |x::l=>l.foldl min x
theorem Rg (x:Int) (l:List Int) (hl:l.length<4294967296):Runs T uz [ints (x::l)] (.int (Wv (x::l))):=by
 refine .of_tree rfl DY yP ?_
 have h0:¬((l.length:Int)+1<1):=by omega
 simp[lq,h0,Wv,ints]
 refine EvP.forRounds l.length (fun k=>[.int ((l.take k).foldl min x),.int ((k:Int)+1)]) (fun k=>[]) ?_ (fun k hk=>?_) ?_
 ·simp
 ·have hw:IntKind.i64.wrap ((k:Int)+1+1)=(k:Int)+1+1:=aD (by omega)
  rw[List.take_succ_eq_append_getElem hk,List.foldl_append]
  generalize (l.take k).foldl min x=y
  have ht:((k:Int)+1).toNat=k+1:=by omega
  have hlt:(k:Int)+1<(l.length:Int)+1:=by omega
  simp[lT,dU,hk,hw,ht,hlt]
  refine⟨by omega,?_⟩
  by_cases h:l[k]<y
  ·simp[h];omega
  ·simp[h];omega
 ·simp[lT,dU]
def sL (f:File) (n:Nat):List Int:=if f.bill.tenor.kind=1 then((f.signs.take n).filter (fun s=>decide (s.kind=1))).map (·.day) else[]
def pD (f:File) (n:Nat):List Int:=if f.bill.tenor.kind=1 then((f.acts.take n).filter (fun s=>decide (s.kind=1))).map (·.day) else[]
def Hv (f:File) (a:Act):Bool:=decide (f.bill.tenor.kind=0)&&decide (a.kind=2)
def wH (f:File):Int:=match f.acts.find? (Hv f) with|some a=>a.day|none=>Wv (sL f f.signs.length++pD f f.acts.length)
theorem GP (f:File) (h1:f.signs.length≤100000) (h2:f.acts.length≤100000):Runs T AP [aQ f] (.int (wH f)):=by
 refine .of_tree rfl Lt Ex ?_
 simp[qB]
 refine EvP.forRounds f.signs.length (fun k=>[.none,.int k]) (fun k=>[ints (sL f k)]) ?_ (fun k hk=>?_) ?_
 ·simp[sL,ints]
 ·have hw:=au hk (by omega)
  have hs:sL f (k+1)=sL f k++if f.bill.tenor.kind=1∧f.signs[k].kind=1 then[f.signs[k].day] else[]:=by
   unfold sL
   by_cases h:f.bill.tenor.kind=1
   ·simp only[if_pos h,kz _ _ hk,List.map_append,h,true_and]
    congr 1
    by_cases h':f.signs[k].kind=1<;>simp[h']
   ·simp[h]
  have hlen:(sL f k).length≤k:=by
   unfold sL
   split
   ·rw[List.length_map]
    exact Nat.le_trans (List.length_filter_le _ _) (by simp;omega)
   ·simp
  rw[hs]
  generalize sL f k=A at*
  by_cases hc:f.bill.tenor.kind=1∧f.signs[k].kind=1
  ·simp[iJ,eB,hk,hw,hc]
   exact⟨by omega,by simp[ints]⟩
  ·simp[iJ,eB,hk,hw,hc]
 ·have hlS:(sL f f.signs.length).length≤100000:=by
   unfold sL
   split
   ·rw[List.length_map]
    exact Nat.le_trans (List.length_filter_le _ _) (by simp;omega)
   ·simp
  have hE:wH f=match f.acts.find? (Hv f) with|some a=>a.day|none=>Wv (sL f f.signs.length++pD f f.acts.length):=rfl
  generalize sL f f.signs.length=A at*
  simp[iJ,eB]
  refine EvP.scan f.acts.length (fun k=>Hv f (f.acts.getD k default)=false) (fun k=>[.int 0,.none,.int k]) (fun k=>[ints (A++pD f k)]) ?_ (fun k hk hj ho=>?_) (fun k hk hj ho=>?_) (fun hj=>?_)
  ·simp[pD,ints]
  ·have hw:=au hk (by omega)
   have hs:pD f (k+1)=pD f k++if f.bill.tenor.kind=1∧f.acts[k].kind=1 then[f.acts[k].day] else[]:=by
        unfold pD
        by_cases h:f.bill.tenor.kind=1
        ·simp only[if_pos h,kz _ _ hk,List.map_append,h,true_and]
         congr 1
         by_cases h':f.acts[k].kind=1<;>simp[h']
        ·simp[h]
   have hlen:(pD f k).length≤k:=by
        unfold pD
        split
        ·rw[List.length_map]
         exact Nat.le_trans (List.length_filter_le _ _) (by simp;omega)
        ·simp
   rw[hs]
   generalize pD f k=B at*
   simp[Hv,hk] at ho
   by_cases hc:f.bill.tenor.kind=1∧f.acts[k].kind=1
   ·simp[cE,bP,hk,hw,hc]
    exact⟨by omega,by simp[ints]⟩
   ·have hn:¬(f.bill.tenor.kind=0∧f.acts[k].kind=2):=fun h=>ho h.1 h.2
    simp[cE,bP,hk,hw,hc,hn]
  ·have hf:wH f=f.acts[k].day:=by
        rw[hE,rG hk (by simpa [hk] using ho) (fun j hj'=>by have:=hj j hj';simpa [show j<f.acts.length by omega] using this)]
   simp[Hv,hk] at ho
   simp[cE,bP,hk,ho,hf]
  ·have hf:wH f=Wv (A++pD f f.acts.length):=by
        rw[hE,qd (fun j hj'=>by have:=hj j hj';simpa [hj'] using this)]
   have hlA:(pD f f.acts.length).length≤100000:=by
        unfold pD
        split
        ·rw[List.length_map]
         exact Nat.le_trans (List.length_filter_le _ _) (by simp;omega)
        ·simp
   rw[hf]
   have hL:(A++pD f f.acts.length).length≤200000:=by rw[List.length_append];omega
   generalize A++pD f f.acts.length=L at*
   cases L with
   |nil=>simp[cE,bP,Wv,ints]
   |cons x l=>
    have hne:¬((l.length:Int)+1=0):=by omega
    simp[cE,bP,hne]
    exact Rg x l (by simp at hL;omega)
end Rm
set_option linter.unusedSimpArgs false
set_option linter.unusedVariables false
namespace Rm
open Go Go.Proofs Cx
def dS (g:Nat→Cell):D:=.list ((List.range 20).map fun i=>aG (g i))
theorem LW {g g':Nat→Cell} (h:∀i,i<20→g i=g' i):dS g=dS g':=by
 unfold dS
 congr 1
 exact List.map_congr_left fun i hi=>by rw[h i (by simpa using hi)]
theorem Lc (g:Nat→Cell) (k:Nat) (c:Cell):D.list ((dS g).l.set k (aG c))=dS (fun i=>if i=k then c else g i):=by
 unfold dS
 congr 1
 show((List.range 20).map fun i=>aG (g i)).set k (aG c)=_
 apply List.ext_getElem
 ·simp
 ·intro i h1 h2
  simp at h2
  rw[List.getElem_set]
  by_cases h:k=i
  ·simp[h]
  ·have h':¬i=k:=fun e=>h e.symm
   simp[h,h']
@[simp] theorem aaU (g:Nat→Cell):(dS g).l.length=20:=by
  show((List.range 20).map fun i=>aG (g i)).length=20
  simp
theorem zo (g:Nat→Cell) {k:Nat} (hk:k<20):(dS g).l[k]?.getD D.none=aG (g k):=by
 show((List.range 20).map fun i=>aG (g i))[k]?.getD D.none=aG (g k)
 simp[hk]
theorem UC (g:Nat→Cell) {k:Nat} (hk:k<(dS g).l.length):(dS g).l[k]=aG (g k):=by
 have h:=zo g (k:=k) (by simpa using hk)
 rw[List.getElem?_eq_getElem hk] at h
 exact h
theorem TF (g:Nat→Cell) (k:Nat) (c:Cell):(dS g).l.set k (aG c)=(dS (fun i=>if i=k then c else g i)).l:=congrArg D.l (Lc g k c)
theorem Tr (g:Nat→Cell):D.list (dS g).l=dS g:=rfl
@[simp] theorem ZD (x:Cell) (b:Bool) (n:Int):rY (aG x) 0 (D.agg [D.bool b,D.int n])=aG ⟨b,n⟩:=_root_.id rfl
def Xb {α:Type} (l:List (Int×α)) (val:α→Cell) (g0:Nat→Cell) (i:Nat):Cell:=match l.find? (fun p=>decide (p.1=(i:Int))) with|some p=>val p.2|none=>g0 i
def AF {α:Type} (enc:α→D) (p:Int×α):D:=.tup [.int p.1,enc p.2]
theorem VZ {α:Type} {J o:Nat} {ps sel:List Nat} {a:PC} {ρ:Env} {Q:Out→Prop} (l:List (Int×α)) (enc:α→D) (val:α→Cell) (g0:Nat→Cell)
 (nd:∀p q,p∈l→q∈l→p.1=q.1→p=q) (rng:∀p,p∈l→0≤p.1) (he:ρ.o J=.tup [.list [],.map (l.map fun p=>(.int p.1,enc p.2))]) (h0:ρ.o o=dS g0)
 (step:∀p,p∈l→∀g done,aF T (ri [o] a) ((ρ.put ps (sel.map (AF enc p).tget) [o] [dS g]).setO J (.tup [.list (done++[AF enc p]),.map (l.map fun p=>(.int p.1,enc p.2))])) (fun y=>∃ρ',y=.next ρ'∧ρ'.o o=.list ((dS g).l.set p.1.toNat (aG (val p.2)))))
 (last:Q (.next (ρ.put [] [] [o] [dS (Xb l val g0)]))):EvP T (.meach J ps sel [o] a) ρ Q:=by
 have hpo:bU (.map (l.map fun p=>((D.int p.1,enc p.2):D×D)))=l.map (AF enc):=by
  simp[bU,AF]
 refine .meachR _ he (fun done vo=>∃g:Nat→Cell,vo=[dS g]∧(∀p,p∈l→AF enc p∈done→g p.1.toNat=val p.2)∧∀i:Nat,(∀p,p∈l→AF enc p∈done→p.1≠i)→g i=g0 i) ⟨g0,by simp[h0],(fun p _ h=>by cases h),fun i _=>rfl⟩ (fun done x rest vo hp ⟨g,hv,hg1,hg2⟩=>?_) ⟨_,fun done hp vo ⟨g,hv,hg1,hg2⟩=>?_,last⟩
 ·subst hv
  rw[hpo] at hp
  have hx:x∈l.map (AF enc):=hp.subset (by simp)
  obtain⟨p,hpl,rfl⟩:=List.mem_map.mp hx
  refine qu _ (fun y ⟨ρ',e,ho⟩=>⟨ρ',e,fun i=>if i=p.1.toNat then val p.2 else g i,by simp[ho,Lc],fun q hq hqd=>?_,fun i hi=>?_⟩) (step p hpl g done)
  ·have hqr:=rng q hq
   have hpr:=rng p hpl
   by_cases h:q.1=p.1
   ·rw[nd q p hq hpl h];simp
   ·show(if q.1.toNat=p.1.toNat then val p.2 else g q.1.toNat)=val q.2
    rw[if_neg (by omega)]
    rcases List.mem_append.mp hqd with h1|h1
    ·exact hg1 q hq h1
    ·simp[AF] at h1
     exact absurd h1.1 h
  ·have hpr:=rng p hpl
   have hi':=hi p hpl (by simp)
   show(if i=p.1.toNat then val p.2 else g i)=g0 i
   rw[if_neg (by omega)]
   exact hg2 i fun q hq hqd=>hi q hq (by simp[hqd])
 ·rw[hv,hpo] at*
  congr 1
  refine LW fun i hi=>?_
  unfold Xb
  cases hf:l.find? (fun p=>decide (p.1=(i:Int))) with
  |some p=>
   have hpl:=List.mem_of_find?_eq_some hf
   have hpi:p.1=(i:Int):=by simpa using List.find?_some hf
   have:=hg1 p hpl (hp.symm.subset (List.mem_map_of_mem hpl))
   simp only
   rw[←this,hpi]
   rfl
  |none=>
   refine hg2 i fun p hpl _=>?_
   have:=List.find?_eq_none.mp hf p hpl
   simpa using this
@[simp] theorem aci (a b:Int):dF (D.int a) (D.int b)=decide (a=b):=by
  show((a==b)&&true)=decide (a=b)
  rw[Bool.and_true]
  by_cases h:a=b<;>simp[h]
def SN (n k:Int):Bool:=decide (arI .and .i64 n k≠0)
def Ma (s:Sign) (due:Int):Int:=if due=-1 then 0 else s.day-due
def QR (f:File) (sign:Int):Bool:=(List.range f.alters.length).any fun k=>decide ((f.alters.getD k default).at_≤sign)
def jk (c:Case):Int:=if c.holder<0 then 0 else c.holder
def wK (c:Case) (s:Sign):List (Int×Int):=[(0,c.file.bill.sum),(1,c.file.bill.parts),(2,c.file.bill.tenor.kind),(3,c.file.bill.rate),(4,s.kind),(5,c.defence),(6,Ma s c.due)]
def wj (r:Realm) (c:Case) (s:Sign):List (Int×Bool):=[(7,SN c.file.bill.flags 1),(8,decide (c.file.bill.payee=-1)),(9,SN c.file.bill.flags 4),(10,SN c.file.bill.flags 2),(11,decide (aT r c.file.bill.city≠aT r c.file.bill.pay)),(12,QR c.file c.sign),(13,SN s.flags 1),(14,decide (0<Ma s c.due))]
def sS (r:Realm) (c:Case) (s:Sign):List Cell:=
 (wK c s).map (fun p=>⟨true,p.2⟩)++(wj r c s).map (fun p=>qL p.2)++
    [br c.file 0 c.sign,br c.file 1 c.sign,br c.file 2 c.sign,br c.file 3 (jk c),br c.file 4 (jk c)]
@[simp] theorem aaz (x:Case):uQ 19 (bm x)=aQ x.file:=_root_.id rfl
@[simp] theorem aaI (x:Case):uQ 15 (bm x)=bu x.file.bill:=_root_.id rfl
@[simp] theorem aaK (x:File):uQ 15 (aQ x)=bu x.bill:=_root_.id rfl
def uc (c:Case):Bool:=inB c.sign c.file.signs.length&&decide (-1≤c.holder)&&decide (jk c<c.file.signs.length)&&(decide (c.due=-1)||inB c.due 100001)
def kG (r:Realm) (c:Case):List Cell:=if uc c=true∧inB (c.file.signs.getD c.sign.toNat default).day 100001=true then sS r c (c.file.signs.getD c.sign.toNat default) else[]
theorem Fy (r:Realm) (c:Case) (h2:c.file.facts.length≤100000) (h3:c.file.alters.length≤100000):Runs T A6 [aw r,bm c] (cells (kG r c)):=by
 refine .of_tree rfl LV Ej ?_
 cases hs:inB c.sign c.file.signs.length
 ·have hv:kG r c=[]:=by unfold kG uc;rw[hs];simp
  rw[hv]
  simp[bX]
  refine⟨_,aI _ _,?_⟩
  simp[hs]
  rfl
 by_cases hh:c.holder< -1
 ·have hv:kG r c=[]:=by unfold kG uc;rw[hs];simp;intros;omega
  rw[hv]
  simp[bX,hh]
  exact⟨⟨_,aI _ _⟩,rfl⟩
 by_cases hm:(c.file.signs.length:Int)≤jk c
 ·have hv:kG r c=[]:=by unfold kG uc;rw[hs];simp;intros;omega
  rw[hv]
  unfold jk at hm
  simp[bX,hm]
  exact⟨⟨_,aI _ _⟩,rfl⟩
 by_cases hd:c.due≠-1∧inB c.due 100001=false
 ·have hv:kG r c=[]:=by unfold kG uc;rw[hs];simp[hd]
  rw[hv]
  unfold jk at hm
  obtain⟨hd1,hd2⟩:=hd
  simp[bX,hh,hm,hd1]
  refine⟨_,aI _ _,?_⟩
  simp[hs,hh,hm,hd1]
  refine⟨_,aI _ _,?_⟩
  simp[hs,hh,hm,hd1,hd2]
  rfl
 have hcb:uc c=true:=by
  unfold uc
  rw[hs]
  simp
  refine⟨⟨by omega,by omega⟩,?_⟩
  by_cases h:c.due=-1
  ·exact .inl h
  ·right
   cases hb:inB c.due 100001
   ·exact absurd ⟨h,hb⟩ hd
   ·rfl
 have hlen:c.sign.toNat<c.file.signs.length:=by simp[inB] at hs;omega
 have hs2:0≤c.sign∧c.sign<(c.file.signs.length:Int):=by simpa [inB] using hs
 obtain⟨s,hse⟩:∃s:Sign,s=c.file.signs[c.sign.toNat]:=⟨_,rfl⟩
 have hsg:c.file.signs.getD c.sign.toNat default=s:=by rw[hse];simp[hlen]
 have hv:kG r c=if inB s.day 100001=true then sS r c s else[]:=by
  unfold kG;rw[hsg,hcb];simp
 rw[hv]
 unfold jk at hm
 by_cases hdue:c.due=-1
 case' pos=>
  have hdue':(c.due=-1)=True:=eq_true hdue
  simp[bX,hh,hm,hdue']
  refine⟨_,aI _ _,?_⟩
  simp[hs,hh,hm,hdue',hlen,←hse,hs2]
 case' neg=>
  have hdb:inB c.due 100001=true:=by
   cases hb:inB c.due 100001
   ·exact absurd ⟨hdue,hb⟩ hd
   ·rfl
  simp[bX,hh,hm,hdue]
  refine⟨_,aI _ _,?_⟩
  simp[hs,hh,hm,hdue]
  refine⟨_,aI _ _,?_⟩
  simp[hs,hh,hm,hdue,hdb,hlen,←hse,hs2]
 all_goals
  refine⟨_,aI _ _,?_⟩
  cases hday:inB s.day 100001
  ·simp[hday]
   rfl
  simp[hday,mI]
  refine VZ (wK c s) D.int (fun n=>⟨true,n⟩) (fun _=>noC) ?_ ?_ ?_ ?_ (fun p hp g done=>?_) ?_
  ·intro p q hp hq h
   simp[wK] at hp hq
   rcases hp with rfl|rfl|rfl|rfl|rfl|rfl|rfl<;>rcases hq with rfl|rfl|rfl|rfl|rfl|rfl|rfl<;>first|rfl|(simp at h)
  ·intro p hp
   simp[wK] at hp
   rcases hp with rfl|rfl|rfl|rfl|rfl|rfl|rfl<;>simp
  ·have hgap:(if c.due=-1 then(0:Int) else IntKind.i64.wrap (s.day-c.due))=Ma s c.due:=by
        unfold Ma
        by_cases h:c.due=-1
        ·simp[h]
        ·have hdb:inB c.due 100001=true:=by
          cases hb:inB c.due 100001
          ·exact absurd ⟨h,hb⟩ hd
          ·rfl
         simp[inB] at hdb hday
         rw[if_neg h,if_neg h]
         exact aD (by omega)
   simp[wK,mI,hlen,←hse]
   rw[←hgap]
   by_cases h:c.due=-1<;>simp[h]
  ·simp[dS]
   rfl
  ·have hr:0≤p.1∧p.1<20:=by
        simp[wK] at hp
        rcases hp with rfl|rfl|rfl|rfl|rfl|rfl|rfl<;>simp
   have hk:p.1.toNat<20:=by omega
   simp[zV,mQ,AF,zo g hk]
   exact hr
  have hlt1:∀k (hk:k<c.file.alters.length),Runs T wO (gz c.file.alters[k]::[.ref (bm c)]) (.bool (decide ((c.file.alters.getD k default).at_≤c.sign))):=fun k hk=>by
   refine .of_tree rfl Ha Ai ?_
   simp[mR,hk]
  simp
  refine⟨_,ur c.file.alters _ _ _ hlt1 (by omega),_,aJ r _,_,aJ r _,?_⟩
  have hgap:(if c.due=-1 then(0:Int) else IntKind.i64.wrap (s.day-c.due))=Ma s c.due:=by
   unfold Ma
   by_cases h:c.due=-1
   ·simp[h]
   ·have hdb:inB c.due 100001=true:=by
     cases hb:inB c.due 100001
     ·exact absurd ⟨h,hb⟩ hd
     ·rfl
    simp[inB] at hdb hday
    rw[if_neg h,if_neg h]
    exact aD (by omega)
  have hfull:cells (sS r c s)=dS (fun i=>if i=15 then br c.file 0 c.sign else if i=16 then br c.file 1 c.sign else if i=17 then br c.file 2 c.sign else if i=18 then br c.file 3 (jk c) else if i=19 then br c.file 4 (jk c) else Xb (wj r c s) qL (Xb (wK c s) (fun n=>⟨true,n⟩) (fun _=>noC)) i):=by
   rfl
  generalize Xb (wK c s) (fun n=>(⟨true,n⟩:Cell)) (fun _=>noC)=g1 at*
  refine VZ (wj r c s) D.bool qL g1 ?_ ?_ ?_ ?_ (fun p hp g done=>?_) ?_
  ·intro p q hp hq h
   simp[wj] at hp hq
   rcases hp with rfl|rfl|rfl|rfl|rfl|rfl|rfl|rfl<;>rcases hq with rfl|rfl|rfl|rfl|rfl|rfl|rfl|rfl<;>first|rfl|(simp at h)
  ·intro p hp
   simp[wj] at hp
   rcases hp with rfl|rfl|rfl|rfl|rfl|rfl|rfl|rfl<;>simp
  ·simp[wj,mI,hlen,←hse,SN]
   rw[←hgap]
   by_cases h:c.due=-1<;>simp[h,QR]
  ·simp
  ·have hr:0≤p.1∧p.1<20:=by
        simp[wj] at hp
        rcases hp with rfl|rfl|rfl|rfl|rfl|rfl|rfl|rfl<;>simp
   have hk:p.1.toNat<20:=by omega
   simp[Al,mJ,AF,zo g hk]
   refine⟨_,sc _,?_⟩
   simp[zo g hk]
   exact hr
  simp
  generalize Xb (wj r c s) qL g1=g2 at*
  have hho:(if c.holder<0 then D.int 0 else D.int c.holder)=D.int (jk c):=by
   unfold jk
   split<;>rfl
  rw[hho]
  refine⟨_,eh _ _ _ (by omega),_,eh _ _ _ (by omega),_,eh _ _ _ (by omega),_,eh _ _ _ (by omega),_,eh _ _ _ (by omega),?_⟩
  rw[hfull]
  simp only[UC,RV,TF,Tr]
  refine LW fun i hi=>?_
  by_cases h15:i=15
  ·subst h15;simp
  by_cases h16:i=16
  ·subst h16;simp
  by_cases h17:i=17
  ·subst h17;simp
  by_cases h18:i=18
  ·subst h18;simp
  by_cases h19:i=19
  ·subst h19;simp
  simp[h15,h16,h17,h18,h19]
end Rm
set_option linter.unusedSimpArgs false
set_option linter.unusedVariables false
namespace Rm
open Go Go.Proofs Cx
def ZW (n:Nat) (x:Int):Bool:=decide (x<0)||decide ((n:Int)≤x)
def sN (r:Realm) (a q:Int) (l:List Int):Bool:=
 !(decide (a<0)||decide ((r.orders.length:Int)≤a)||decide (q<0)||decide (22≤q)||decide (l.length≠5))&& !((List.range l.length).any fun k=>ZW r.orders.length (l.getD k 0))
theorem UM (x n:Int):Runs T kV [.int x,.ref (.int n)] (.bool (decide (x<0)||decide (n≤x))):=by
 refine .of_tree rfl CH xe ?_
 by_cases h:x<0<;>simp[ke,h]
theorem Pn (r:Realm) (a q:Int) (l:List Int) (hl:l.length≤100000):Runs T wA [aw r,.int a,.int q,ints l] (.bool (sN r a q l)):=by
 refine .of_tree rfl FL Am ?_
 by_cases h1:a<0
 ·simp[bq,sN,h1]
 by_cases h2:(r.orders.length:Int)≤a
 ·simp[bq,sN,h1,h2]
 by_cases h3:q<0
 ·simp[bq,sN,h1,h2,h3]
 by_cases h4:22≤q
 ·simp[bq,sN,h1,h2,h3,h4]
 by_cases h5:(l.length:Int)=5
 ·have h5':l.length=5:=by omega
  simp[bq,h1,h2,h3,h4,h5']
  refine⟨_,wY l kV [.ref (.int r.orders.length)] (fun k=>ZW r.orders.length (l.getD k 0)) (fun k hk=>by simpa [ZW,hk] using UM l[k] r.orders.length) (by omega),?_⟩
  simp only[sN,h5']
  simp[h1,h2,h3,h4]
 ·have h5':¬l.length=5:=by omega
  simp[bq,sN,h1,h2,h3,h4,h5']
  intro h;omega
theorem G1 {r:Realm} {a q:Int} {l:List Int} (h:sN r a q l=true):(0≤a∧a<r.orders.length)∧l.length=5∧(∀x,x∈l→0≤x∧x<r.orders.length)∧∀b:Int,0≤b→b<r.orders.length→sN r b q l=true:=by
 unfold sN at h ⊢
 rw[Bool.and_eq_true] at h
 obtain⟨h1,h2⟩:=h
 simp at h1
 refine⟨by omega,h1.2,fun x hx=>?_,fun b hb1 hb2=>?_⟩
 ·obtain⟨k,hk,rfl⟩:=List.getElem_of_mem hx
  simp[ZW] at h2
  have:=h2 k hk
  simp[hk] at this
  omega
 ·rw[h2]
  simp
  omega
def X0 (r:Realm):Prop:=∀o,o∈r.orders→o.choices.length≤100000∧∀ch,ch∈o.choices→0≤ch.by_∧ch.by_<5
def Mx (q:Int) (ch:Choice):Bool:=decide (ch.ask=q)&&decide (ch.by_≠0)
def jO (r:Realm) (a:Int):Order:=r.orders.getD a.toNat default
def cP (r:Realm) (a q:Int) (l:List Int):Int×Bool:=
 (match(jO r a).choices.find? (Mx q) with|some ch=>l.getD ch.by_.toNat 0|none=>a,match(jO r a).choices.find? (Mx q) with|some ch=>ch.whole|none=>false)
theorem L6 (r:Realm) (hby:X0 r) (a q:Int) (l:List Int) (hl:l.length≤100000) (hf:sN r a q l=true):
 Runs T ug [aw r,.int a,.int q,ints l] (.tup [.int (cP r a q l).1,.bool (cP r a q l).2])∧0≤(cP r a q l).1∧(cP r a q l).1<r.orders.length:=by
 obtain⟨ha,hl5,hx,_⟩:=G1 hf
 have hat:a.toNat<r.orders.length:=by omega
 obtain⟨hcl,hch⟩:=hby _ (List.getElem_mem hat)
 obtain⟨o,ho⟩:∃o,o=r.orders[a.toNat]:=⟨_,rfl⟩
 rw[←ho] at hcl hch
 have hoa:jO r a=o:=by rw[ho];simp[jO,hat]
 unfold cP
 rw[hoa]
 refine⟨?_,?_⟩
 ·refine .of_tree rfl C0 xk ?_
  simp[kU]
  refine⟨_,Pn r a q l hl,?_⟩
  simp[hf,hat,←ho,ha]
  refine EvP.scan o.choices.length (fun k=>Mx q (o.choices.getD k default)=false) (fun k=>[.int 0,.bool false,.int k]) (fun _=>[]) ?_ (fun k hk hj hok=>?_) (fun k hk hj hok=>?_) (fun hj=>?_)
  ·simp
  ·have hw:=au hk (by omega)
   have hn:¬(o.choices[k].ask=q∧¬o.choices[k].by_=0):=by simpa [Mx,hk] using hok
   simp[fb,cw,hat,←ho,hk,hw,hn]
  ·have hfi:=rG hk (by simpa [hk] using hok) (fun j hj'=>by have:=hj j hj';simpa [show j<o.choices.length by omega] using this)
   rw[hfi]
   have hc:o.choices[k].ask=q∧¬o.choices[k].by_=0:=by simpa [Mx,hk] using hok
   have hb:=hch _ (List.getElem_mem hk)
   have hbl:o.choices[k].by_.toNat<l.length:=by omega
   simp[fb,cw,hat,←ho,hk,hc,ints,hbl]
   omega
  ·have hfi:=qd (l:=o.choices) (p:=Mx q) (fun j hj'=>by have:=hj j hj';simpa [hj'] using this)
   rw[hfi]
   simp[fb,cw,hat,←ho]
 ·cases hfi:o.choices.find? (Mx q) with
  |none=>exact ha
  |some ch=>
   have hb:=hch _ (List.mem_of_find?_eq_some hfi)
   have hbl:ch.by_.toNat<l.length:=by omega
   simp[hbl]
   exact hx _ (List.getElem_mem hbl)
theorem Vx:∀(N:Nat) (l:List Int),l.Nodup→(∀x,x∈l→0≤x∧x<(N:Int))→l.length≤N
 |0,l,hn,h=>by
  cases l with
  |nil=>simp
  |cons a l=>have:=h a (by simp);omega
 |N+1,l,hn,h=>by
  by_cases hm:(N:Int)∈l
  ·have h1:=Vx N (l.erase (N:Int)) (hn.erase _) (fun x hx=>by
    have hx':=(hn.mem_erase_iff).mp hx
    have:=h x hx'.2
    have hne:=hx'.1
    omega)
   rw[List.length_erase_of_mem hm] at h1
   omega
  ·have h1:=Vx N l hn (fun x hx=>by
    have:=h x hx
    have hne:x≠(N:Int):=fun e=>hm (e▸hx)
    omega)
   omega
def cg (l:List Int):Int:=l.getD (l.length-1) 0
def Aa (r:Realm) (q:Int) (l:List Int):Nat→List Int→List Int×Int
 |0,p=>(p,0)
 |n+1,p=>
  if(cP r (cg p) q l).1=cg p then(p,0)
  else if(cP r (cg p) q l).2=false∨(hasB p (cP r (cg p) q l).1=true∧(jO r (cP r (cg p) q l).1).accepts=true) then(p++[(cP r (cg p) q l).1],0)
  else if hasB p (cP r (cg p) q l).1=true then(p++[(cP r (cg p) q l).1],12)
  else Aa r q l n (p++[(cP r (cg p) q l).1])
theorem FG (r:Realm) (q:Int) (l:List Int) (n:Nat) (p:List Int):Aa r q l (n+1) p=
 if(cP r (cg p) q l).1=cg p then(p,0)
 else if(cP r (cg p) q l).2=false∨(hasB p (cP r (cg p) q l).1=true∧(jO r (cP r (cg p) q l).1).accepts=true) then(p++[(cP r (cg p) q l).1],0)
 else if hasB p (cP r (cg p) q l).1=true then(p++[(cP r (cg p) q l).1],12)
 else Aa r q l n (p++[(cP r (cg p) q l).1]):=rfl
def vq (r:Realm) (a q:Int) (l:List Int):List Int×Int:=if sN r a q l=true∧l.getD 0 0=a then Aa r q l r.orders.length [a] else([],1)
theorem Zk (r:Realm) (hby:X0 r) (hn:r.orders.length≤100000) (a q:Int) (l:List Int) (hl:l.length≤100000):Runs T xP [aw r,.int a,.int q,ints l] (.tup [ints (vq r a q l).1,.int (vq r a q l).2]):=by
 refine .of_tree rfl I8 Cj ?_
 simp[og]
 refine⟨_,Pn r a q l hl,?_⟩
 cases hf:sN r a q l
 ·simp[vq,hf]
  rfl
 obtain⟨ha,hl5,hx,hal⟩:=G1 hf
 have h0:0<l.length:=by omega
 by_cases hla:l[0]=a
 ·have hE:vq r a q l=Aa r q l r.orders.length [a]:=by unfold vq;rw[if_pos ⟨hf,by simp[h0,hla]⟩]
  rw[hE]
  simp[h0,hla,ints]
  refine EvP.forLoop (α:=Nat×List Int) (fun s vr vo=>vr=[.list [],.int 0,.none]∧vo=[ints s.2]∧s.2.Nodup∧(∀x,x∈s.2→0≤x∧x<(r.orders.length:Int))∧s.2≠[]∧s.1+s.2.length=r.orders.length+1∧Aa r q l s.1 s.2=Aa r q l r.orders.length [a]) (fun s=>s.1) (r.orders.length,[a]) ?_ ?_
  ·simp[ints]
   exact ha
  ·rintro⟨n,p⟩ vr vo ⟨rfl,rfl,hnd,hin,hne,hlen,hlaw⟩
   simp only at*
   have hpl:p.length≤r.orders.length:=Vx _ p hnd hin
   have hpos:0<p.length:=List.length_pos_iff.mpr hne
   obtain⟨m,rfl⟩:∃m,n=m+1:=⟨n-1,by omega⟩
   have hlt:p.length-1<p.length:=by omega
   have hlast:cg p=p[p.length-1]:=by simp[cg,hlt]
   have hli:=hin _ (List.getElem_mem hlt)
   rw[←hlast] at hli
   obtain⟨hLr,ht1,ht2⟩:=L6 r hby (cg p) q l hl (hal _ hli.1 hli.2)
   have hlw:((p.length:Int)-1).toNat=p.length-1:=by omega
   have hww:IntKind.i64.wrap ((p.length:Int)-1)=(p.length:Int)-1:=aD (by omega)
   rw[←hlaw,FG]
   obtain⟨L,hL⟩:∃L,L=cP r (cg p) q l:=⟨_,rfl⟩
   rw[←hL] at hLr ht1 ht2 ⊢
   obtain⟨to,whole⟩:=L
   simp only at hLr ht1 ht2
   have hto:to.toNat<r.orders.length:=by omega
   have hoa:jO r to=r.orders[to.toNat]:=by simp[jO,hto]
   simp only[hoa]
   simp[yr,lY,hww,hlw,hlt,←hlast,ints]
   refine⟨by omega,_,hLr,?_⟩
   by_cases h1:to=cg p
   ·simp[h1]
   simp[h1]
   refine⟨_,cq p to (by omega),by omega,?_⟩
   cases whole
   ·simp
   cases h2:hasB p to
   ·have hnm:to∉p:=fun hm=>by
     have:hasB p to=true:=by simp[hasB,hm]
     rw[h2] at this;cases this
    simp[h2]
    refine⟨m,by omega,p++[to],by simp,?_,?_,by simp,by simp;omega,rfl⟩
    ·exact List.nodup_append.mpr ⟨hnd,by simp,fun x hx y hy=>by simp at hy;subst hy;exact fun e=>hnm (e▸hx)⟩
    ·intro x hx
     rcases List.mem_append.mp hx with h|h
     ·exact hin x h
     ·simp at h;subst h;exact⟨ht1,ht2⟩
   ·cases h3:r.orders[to.toNat].accepts<;>simp[h2,h3,hto]<;>omega
 ·have hE:vq r a q l=([],1):=by unfold vq;rw[if_neg (by simp[h0,hla])]
  rw[hE]
  simp[h0,hla]
  rfl
end Rm
set_option linter.unusedSimpArgs false
set_option linter.unusedVariables false
namespace Rm
open Go Go.Proofs Cx
def tJ (f:File) (i:Int):Sign:=f.signs.getD i.toNat default
def CF (r:Realm) (forum:Int) (c:Case):List Int:=[forum,aT r (tJ c.file c.sign).city,aT r c.file.bill.pay,aT r c.file.bill.city,aT r (r.firms.getD (tJ c.file c.sign).who.toNat default).city]
def Lr (r:Realm) (forum:Int) (c:Case):Prop:=(tJ c.file c.sign).who<0∨(r.firms.length:Int)≤(tJ c.file c.sign).who∨forum<0∨(r.orders.length:Int)≤forum
instance (r:Realm) (forum:Int) (c:Case):Decidable (Lr r forum c):=by unfold Lr;infer_instance
def cr (r:Realm) (forum:Int) (c:Case):List Int:=if Lr r forum c then[] else if hasB (CF r forum c) (-1)=true then[] else CF r forum c
@[simp] theorem aeu (r:Realm) (x:Int):atS (aw r) x=aT r x:=by
  unfold atS aT inB
  by_cases h:0≤x∧x<(r.cities.length:Int)
  ·have hx:x.toNat<r.cities.length:=by omega
   rw[if_pos (by simpa using h),if_pos (by simpa using h)]
   simp[hx]
  ·rw[if_neg (by simpa using h),if_neg (by simpa using h)]
theorem KN (r:Realm) (forum:Int) (c:Case) (h1:c.sign.toNat<c.file.signs.length):Rc [aw r,.int forum,bm c]=ints (cr r forum c):=by
 have hs:tJ c.file c.sign=c.file.signs[c.sign.toNat]:=by simp[tJ,h1]
 unfold Rc cr
 simp[h1]
 by_cases hb:Lr r forum c
 ·rw[if_pos (by simpa [Lr,hs] using hb),if_pos hb]
  rfl
 ·rw[if_neg (by simpa [Lr,hs] using hb),if_neg hb]
  have hwho:(tJ c.file c.sign).who.toNat<r.firms.length:=by unfold Lr at hb;omega
  have hwho':c.file.signs[c.sign.toNat].who.toNat<r.firms.length:=by rw[←hs];exact hwho
  have hout:CF r forum c=[forum,aT r c.file.signs[c.sign.toNat].city,aT r c.file.bill.pay,aT r c.file.bill.city,aT r r.firms[c.file.signs[c.sign.toNat].who.toNat].city]:=by
   simp[CF,hs,hwho']
  have hmem:∀l:List Int,hasB l (-1)=true↔-1∈l:=fun l=>by simp[hasB]
  rw[hout]
  simp[hwho']
  split
  ·rename_i h
   rw[if_pos ((hmem _).mpr (by simpa using h))]
   rfl
  ·rename_i h
   rw[if_neg (fun h'=>h (by simpa using(hmem _).mp h'))]
theorem T6 (r:Realm) (forum:Int) (c:Case) (h1:0≤c.sign∧c.sign<c.file.signs.length):Runs T Q9 [aw r,.int forum,bm c] (ints (cr r forum c)):=by
 have h1':c.sign.toNat<c.file.signs.length:=by omega
 rw[←KN r forum c h1']
 have hs:tJ c.file c.sign=c.file.signs[c.sign.toNat]:=by simp[tJ,h1']
 refine Runs.of_nsl rfl Cg Bo ?_
 rw[KN r forum c h1']
 by_cases hb:Lr r forum c
 ·refine .inr ⟨by simp[cr,hb];rfl,?_⟩
  have hb':=hb
  simp[Lr,hs] at hb'
  simp[jz,h1,h1']
  intros;omega
 have hbn:cr r forum c=if hasB (CF r forum c) (-1)=true then[] else CF r forum c:=by unfold cr;rw[if_neg hb]
 have hb':=hb
 simp[Lr,hs] at hb'
 have hw:c.file.signs[c.sign.toNat].who.toNat<r.firms.length:=by omega
 have hC:=cq (CF r forum c) (-1) (by simp[CF])
 cases hh:hasB (CF r forum c) (-1)<;>rw[hh] at hC<;>simp[CF,ints,hs,hw] at hC
 ·refine .inl ⟨(CF r forum c).map .int,by simp[CF],by rw[hbn,hh];rfl,?_⟩
  simp[od,h1,h1',hw]
  rw[if_neg (by omega)]
  refine⟨_,aJ r _,_,aJ r _,_,aJ r _,by omega,_,aJ r _,_,by simpa using hC,?_⟩
  simp[CF,hs,hw]
 ·refine .inr ⟨by rw[hbn,hh];rfl,?_⟩
  simp[jz,h1,h1',hw]
  intros
  refine⟨_,aJ r _,_,aJ r _,_,aJ r _,by omega,_,aJ r _,_,by simpa using hC,?_⟩
  simp
end Rm
set_option linter.unusedSimpArgs false
set_option linter.unusedVariables false
namespace Rm
open Go Go.Proofs Cx
structure Right (r:Realm):Prop where
 by_:X0 r
 len:r.orders.length≤100000
 ok:∀o,o∈r.orders→o.OK∧o.rules.length≤100000
structure FewS (f:File):Prop where
 signs:f.signs.length≤1000
 alters:f.alters.length≤1000
 acts:f.acts.length≤1000
 facts:f.facts.length≤1000
theorem YD {α:Type} (p:α→Bool) (l:List α):(l.takeWhile p).length≤l.length:=by
 obtain⟨m,h1,h2,_⟩:=J7 p l
 rw[h2,List.length_take];omega
theorem FewS.at_ {f:File} (h:FewS f) (day:Int):FewS (atF f day):=
 ⟨Nat.le_trans (YD _ _) h.1,Nat.le_trans (List.length_filter_le _ _) h.2,Nat.le_trans (YD _ _) h.3,Nat.le_trans (List.length_filter_le _ _) h.4⟩
def ofF (c:Case):Case:={c with file:=atF c.file c.day}
@[simp] theorem acZ (x:File) (a0 a1 a2 a3 a4 a5 a6 a7 a8 a9 a10 a11 a12 a13 a14 a15 a16 a17 a18:D) (s h d u y:Int):uQ 24 (D.agg (aX [a0,a1,a2,a3,a4,a5,a6,a7,a8,a9,a10,a11,a12,a13,a14,a15,a16,a17,a18,.int s,.int h,.int d,.int u,.int y] 0 [.int x.bill.drawer,.int x.bill.drawee,.int x.bill.payee,.int x.bill.sum,.int x.bill.currency,.int x.bill.tenor.kind,.int x.bill.tenor.n,.int x.bill.tenor.unit,.int x.bill.day,.int x.bill.city,.int x.bill.pay,.int x.bill.need,.int x.bill.rate,.int x.bill.flags,.int x.bill.parts,signs x.signs,alters x.alters,acts x.acts,facts x.facts]))=bm ⟨x,s,h,d,u,y⟩:=_root_.id rfl
theorem SY (r:Realm) (c:Case) (hf:FewS c.file):Runs T Ua [aw r,bm c] (.tup [bm (ofF c),cells (kG r (ofF c))]):=by
 refine .of_tree rfl Ww Qq ?_
 simp[GR]
 have h1:=hf.1;have h2:=hf.2;have h3:=hf.3;have h4:=hf.4
 refine⟨_,qA c.file c.day (by omega) (by omega) (by omega) (by omega),?_⟩
 have hfa:=hf.at_ c.day
 have h5:=hfa.4;have h6:=hfa.2
 simp
 exact⟨Fy r (ofF c) (by show(atF c.file c.day).facts.length≤_;omega) (by show(atF c.file c.day).alters.length≤_;omega),(congrArg (uQ 24) (WJ (ofF c) _ _ _ _ _ _ _ _ _ _ _ _ _ _ _ _ _ _ _ _ _ _ _ _)).trans (Xm (ofF c))⟩
theorem Xk {r:Realm} {c:Case} (h:kG r c≠[]):0≤c.sign∧c.sign<c.file.signs.length:=by
 unfold kG at h
 split at h
 ·rename_i hh
  have h1:=hh.1
  unfold uc at h1
  simp[inB] at h1
  omega
 ·exact absurd rfl h
theorem V9 (r:Realm) (hby:X0 r) (q:Int) (l:List Int) (hl:l.length≤100000) (hal:∀b:Int,0≤b→b<r.orders.length→sN r b q l=true):∀(n:Nat) (p:List Int),p≠[]→(∀x,x∈p→0≤x∧x<(r.orders.length:Int))→
 (Aa r q l n p).1≠[]∧∀x,x∈(Aa r q l n p).1→0≤x∧x<(r.orders.length:Int)
 |0,p,hne,hp=>⟨hne,hp⟩
 |n+1,p,hne,hp=>by
  have hlt:p.length-1<p.length:=by have:=List.length_pos_iff.mpr hne;omega
  have hlast:cg p=p[p.length-1]:=by simp[cg,hlt]
  have hli:=hp _ (List.getElem_mem hlt)
  rw[←hlast] at hli
  obtain⟨_,ht⟩:=L6 r hby (cg p) q l hl (hal _ hli.1 hli.2)
  have hp':∀x,x∈p++[(cP r (cg p) q l).1]→0≤x∧x<(r.orders.length:Int):=fun x hx=>by
   rcases List.mem_append.mp hx with h|h
   ·exact hp x h
   ·simp at h;subst h;exact ht
  rw[FG]
  split
  ·exact⟨hne,hp⟩
  split
  ·exact⟨by simp,hp'⟩
  split
  ·exact⟨by simp,hp'⟩
  ·exact V9 r hby q l hl hal n _ (by simp) hp'
theorem Wh {r:Realm} (hr:Right r) {a q:Int} {l:List Int} (hl:l.length≤100000) (h:(vq r a q l).2=0):(vq r a q l).1≠[]∧0≤cg (vq r a q l).1∧cg (vq r a q l).1<r.orders.length:=by
 unfold vq at h ⊢
 split at h
 ·rename_i hh
  rw[if_pos hh]
  obtain⟨ha,hl5,hx,hal⟩:=G1 hh.1
  obtain⟨h1,h2⟩:=V9 r hr.by_ q l hl hal r.orders.length [a] (by simp) (fun x hx=>by simp at hx;subst hx;exact ha)
  refine⟨h1,?_⟩
  have hlt:(Aa r q l r.orders.length [a]).1.length-1<(Aa r q l r.orders.length [a]).1.length:=by have:=List.length_pos_iff.mpr h1;omega
  have hlast:cg (Aa r q l r.orders.length [a]).1=(Aa r q l r.orders.length [a]).1[(Aa r q l r.orders.length [a]).1.length-1]:=by simp[cg,hlt]
  rw[hlast]
  exact h2 _ (List.getElem_mem hlt)
 ·cases h
theorem Tj (r:Realm) (q:Int) (l:List Int):∀(n:Nat) (p:List Int),(Aa r q l n p).1.length≤p.length+n
 |0,p=>by simp[Aa]
 |n+1,p=>by
  rw[FG]
  split
  ·simp
  split
  ·simp
  split
  ·simp
  ·have:=Tj r q l n (p++[(cP r (cg p) q l).1])
   simp at this
   omega
theorem Ze (r:Realm) (a q:Int) (l:List Int):(vq r a q l).1.length≤1+r.orders.length:=by
 unfold vq
 split
 ·exact Tj r q l _ [a]
 ·simp
@[simp] theorem ack (a b c d e x:D):aX [a,b,c,d,e] 2 [x]=[a,b,x,d,e]:=_root_.id rfl
@[simp] theorem ab4 (a b c d e x:D):aX [a,b,c,d,e] 3 [x]=[a,b,c,x,e]:=_root_.id rfl
@[simp] theorem ab6 (a b c d e x:D):aX [a,b,c,d,e] 4 [x]=[a,b,c,d,x]:=_root_.id rfl
def Uq:Said:=⟨noC,-1,[],1⟩
def dj (r:Realm) (forum q:Int) (c:Case):Said×List Cell:=
 if kG r (ofF c)=[] then(Uq,[]) else if(yc q).2=false then(Uq,[]) else if cr r forum (ofF c)=[] then(Uq,[]) else
    (⟨noC,if(vq r forum q (cr r forum (ofF c))).2=0 then cg (vq r forum q (cr r forum (ofF c))).1 else-1,(vq r forum q (cr r forum (ofF c))).1,(vq r forum q (cr r forum (ofF c))).2⟩,kG r (ofF c))
theorem LR (r:Realm) (forum:Int) (c:Case):(cr r forum c).length≤5:=by
 unfold cr
 split
 ·simp
 split<;>simp[CF]
theorem NT (r:Realm) (hr:Right r) (forum q:Int) (c:Case) (hf:FewS c.file):Runs T Mi [aw r,.int forum,.int q,bm c] (.tup [lC (dj r forum q c).1,cells (dj r forum q c).2]):=by
 refine .of_tree rfl TE KV ?_
 simp[xD]
 refine⟨_,SY r c hf,?_⟩
 by_cases hv:kG r (ofF c)=[]
 ·simp[hv,dj]
  exact⟨rfl,rfl⟩
 simp[hv,dj]
 refine⟨_,oV q,?_⟩
 cases hq:(yc q).2
 ·simp[hq]
  exact⟨rfl,rfl⟩
 simp[hq]
 refine⟨_,T6 r forum (ofF c) (Xk hv),?_⟩
 by_cases hp:cr r forum (ofF c)=[]
 ·simp[hp]
  exact⟨rfl,rfl⟩
 have hpl:=LR r forum (ofF c)
 have hne:ints (cr r forum (ofF c))≠.list []:=fun e=>hp (by simpa [ints] using e)
 simp[hp]
 generalize cr r forum (ofF c)=l at*
 refine⟨_,Zk r hr.by_ hr.len forum q l (by omega),?_⟩
 have hlen:=Ze r forum q l
 have hlaw:=Wh hr (a:=forum) (q:=q) (l:=l) (by omega)
 have hol:=hr.len
 generalize vq r forum q l=L at*
 obtain⟨path,err⟩:=L
 simp only at*
 by_cases he:err=0
 ·obtain⟨h1,h2⟩:=hlaw he
  have hpos:=List.length_pos_iff.mpr h1
  have hww:IntKind.i64.wrap ((path.length:Int)-1)=(path.length:Int)-1:=aD (by omega)
  have hlw:((path.length:Int)-1).toNat=path.length-1:=by omega
  have hlt:path.length-1<path.length:=by omega
  have hlast:cg path=path[path.length-1]:=by simp[cg,hlt]
  simp[he,hww,hlw,hlt,←hlast]
  exact⟨by omega,rfl⟩
 ·simp[he]
  rfl
def Um (r:Realm) (forum q:Int) (c:Case):Said:=
 if(dj r forum q c).1.order=-1 then(dj r forum q c).1
 else⟨(zi (jO r (dj r forum q c).1.order) q (dj r forum q c).2).1,(dj r forum q c).1.order,(dj r forum q c).1.path,(zi (jO r (dj r forum q c).1.order) q (dj r forum q c).2).2⟩
theorem OO {r:Realm} (hr:Right r) (forum q:Int) (c:Case):(dj r forum q c).1.order=-1∨(0≤(dj r forum q c).1.order∧(dj r forum q c).1.order<r.orders.length):=by
 unfold dj
 split
 ·exact .inl rfl
 split
 ·exact .inl rfl
 split
 ·exact .inl rfl
 ·have hpl:=LR r forum (ofF c)
  have hlaw:=Wh hr (a:=forum) (q:=q) (l:=cr r forum (ofF c)) (by omega)
  show(if _ then _ else _)=_∨_
  split
  ·rename_i h
   exact .inr (hlaw h).2
  ·exact .inl rfl
theorem DW (r:Realm) (hr:Right r) (forum q:Int) (c:Case) (hf:FewS c.file):Runs T Qd [aw r,.int forum,.int q,bm c] (lC (Um r forum q c)):=by
 refine .of_tree rfl Vu OW ?_
 simp[Ca]
 refine⟨_,NT r hr forum q c hf,?_⟩
 have ho:=OO hr forum q c
 unfold Um
 generalize dj r forum q c=S at*
 obtain⟨s,cs⟩:=S
 simp only at*
 by_cases h:s.order=-1
 ·obtain⟨⟨kn,n⟩,o,pth,e⟩:=s
  simp only at h
  subst h
  simp
  rfl
 ·have h1:0≤s.order∧s.order<r.orders.length:=by omega
  have h2:s.order.toNat<r.orders.length:=by omega
  have h3:jO r s.order=r.orders[s.order.toNat]:=by simp[jO,h2]
  obtain⟨hok,hlen⟩:=hr.ok _ (List.getElem_mem h2)
  simp[h,h1,h2,h3]
  refine⟨_,DL _ q cs hok (by omega),?_⟩
  simp
  rfl
def sK (r:Realm) (forum q:Int) (f:File) (day:Int):Said:=Um r forum q ⟨{f with facts:=[]},0,-1,-1,-1,day⟩
theorem AE (r:Realm) (hr:Right r) (forum q:Int) (f:File) (day:Int) (hf:FewS f):Runs T Ng [aw r,.int forum,.int q,aQ f,.int day] (lC (sK r forum q f day)):=by
 refine .of_tree rfl SB Lq ?_
 simp[xM]
 refine⟨lC (sK r forum q f day),DW r hr forum q ⟨{f with facts:=[]},0,-1,-1,-1,day⟩ ⟨hf.1,hf.2,hf.3,by simp⟩,?_⟩
 simp
 try rfl
def YX (s:Said):Int:=if s.err≠0 then 0 else if s.cell.known=false then 2 else if s.cell.n≠0 then 1 else 0
theorem Ez (s:Said):Runs T P4 [lC s] (.int (YX s)):=by
 refine .of_tree rfl UB OI ?_
 unfold YX
 by_cases h1:s.err=0<;>cases h2:s.cell.known<;>by_cases h3:s.cell.n=0<;>simp[B6,h1,h2,h3]
def ny (s:Said):Int:=if s.err≠0∨s.cell.known=false then-1 else s.cell.n
theorem JV (s:Said):Runs T EB [lC s] (.int (ny s)):=by
 refine .of_tree rfl O0 F1 ?_
 unfold ny
 by_cases h1:s.err=0<;>cases h2:s.cell.known<;>simp[tY,h1,h2]
end Rm
set_option linter.unusedSimpArgs false
set_option linter.unusedVariables false
namespace Rm
open Go Go.Proofs Cx
def Ah (day:Int) (l:List Act) (es:List (D×D)):List (D×D):=l.foldl (fun es a=>if a.kind=7∧a.day≤day then mI (.int a.at_) (.bool true) es else es) es
theorem WR (day:Int) (l:List Act) {k:Nat} (hk:k<l.length):Ah day (l.take (k+1)) []=if l[k].kind=7∧l[k].day≤day then mI (.int l[k].at_) (.bool true) (Ah day (l.take k) []) else Ah day (l.take k) []:=by
 unfold Ah
 rw[List.take_succ_eq_append_getElem hk,List.foldl_append]
 rfl
theorem Ub (k v:D):∀es:List (D×D),(mI k v es).length≤es.length+1
 |[]=>by simp[mI]
 |e::es=>by
  unfold mI
  split
  ·simp
  ·have:=Ub k v es
   simp;omega
theorem SL (day:Int):∀(l:List Act) (es:List (D×D)),(Ah day l es).length≤es.length+l.length
 |[],es=>by simp[Ah]
 |a::l,es=>by
  have h:=SL day l (if a.kind=7∧a.day≤day then mI (.int a.at_) (.bool true) es else es)
  have hp:=Ub (.int a.at_) (.bool true) es
  show(Ah day l (if a.kind=7∧a.day≤day then mI (.int a.at_) (.bool true) es else es)).length≤_
  split at h
  ·rename_i hc
   rw[if_pos hc]
   simp;omega
  ·rename_i hc
   rw[if_neg hc]
   simp;omega
theorem EF (f:File) (day:Int) (hl:f.acts.length≤100000):Runs T yD [aQ f,.int day] (.map (Ah day f.acts [])):=by
 refine .of_tree rfl J1 Ba ?_
 simp[oA]
 refine EvP.forRounds f.acts.length (fun k=>[.int k]) (fun k=>[.map (Ah day (f.acts.take k) [])]) ?_ (fun k hk=>?_) ?_
 ·simp[Ah]
 ·have hw:=au hk (by omega)
  have hs:=WR day f.acts hk
  have hlen:=SL day (f.acts.take k) []
  rw[hs]
  simp at hlen
  generalize Ah day (f.acts.take k) []=es at*
  by_cases hc:f.acts[k].kind=7∧f.acts[k].day≤day
  ·simp[gx,dJ,hk,hw,hc]
   omega
  ·simp[gx,dJ,hk,hw,hc]
 ·simp[gx,dJ]
theorem Te {k v:D}:∀{es:List (D×D)} {e:D×D},e∈mI k v es→e.2=v∨e∈es
 |[],e,h=>by simp[mI] at h;exact .inl (by rw[h])
 |x::es,e,h=>by
  unfold mI at h
  split at h
  ·rcases List.mem_cons.mp h with rfl|h
   ·exact .inl rfl
   ·exact .inr (by simp[h])
  ·rcases List.mem_cons.mp h with rfl|h
   ·exact .inr (by simp)
   ·rcases Te h with h|h
    ·exact .inl h
    ·exact .inr (by simp[h])
theorem SW (day:Int):∀(l:List Act) (es:List (D×D)),(∀e,e∈es→e.2=.bool true)→∀e,e∈Ah day l es→e.2=.bool true
 |[],es,h,e,he=>h e he
 |a::l,es,h,e,he=>by
  refine SW day l (if a.kind=7∧a.day≤day then mI (.int a.at_) (.bool true) es else es) (fun x hx=>?_) e he
  split at hx
  ·rcases Te hx with h'|h'
   ·exact h'
   ·exact h x h'
  ·exact h x hx
theorem PO {k d:D}:∀{es:List (D×D)},je k es=some d→∃e,e∈es∧e.2=d
 |x::es,h=>by
  unfold je at h
  split at h
  ·exact⟨x,by simp,by simpa using h⟩
  ·obtain⟨e,h1,h2⟩:=PO h
   exact⟨e,by simp[h1],h2⟩
theorem XO (day:Int) (l:List Act) (k:D):(je k (Ah day l [])).getD (.bool false)=.bool ((je k (Ah day l [])).getD (.bool false)).b:=by
 cases h:je k (Ah day l []) with
 |none=>rfl
 |some d=>
  obtain⟨e,h1,h2⟩:=PO h
  have:=SW day l [] (fun e h=>by cases h) e h1
  rw[h2] at this
  rw[this];rfl
def vu (f:File) (sign day:Int):Bool:=inB sign f.signs.length&&((je (.int sign) (Ah day f.acts [])).getD (.bool false)).b
theorem E4 (f:File) (sign day:Int) (hl:f.acts.length≤100000):Runs T xr [aQ f,.int sign,.int day] (.bool (vu f sign day)):=by
 refine .of_tree rfl JC BX ?_
 by_cases h1:0≤sign<;>by_cases h2:sign<f.signs.length<;>simp[oM,h1,h2,vu,inB]
 refine⟨_,EF f day hl,?_⟩
 exact XO day f.acts (.int sign)
def GD (f:File) (sign:Int) (n:Nat):Int:=(f.alters.take n).foldl (fun s a=>if a.at_≤sign then a.sum else s) f.bill.sum
theorem FW (f:File) (sign:Int) (hl:f.alters.length≤100000):Runs T AY [aQ f,.int sign] (.int (GD f sign f.alters.length)):=by
 refine .of_tree rfl Mt DG ?_
 simp[qx]
 refine EvP.forRounds f.alters.length (fun k=>[.int (GD f sign k),.int k]) (fun k=>[]) ?_ (fun k hk=>?_) ?_
 ·simp[GD]
 ·have hw:=au hk (by omega)
  have hs:GD f sign (k+1)=if f.alters[k].at_≤sign then f.alters[k].sum else GD f sign k:=by
   unfold GD
   rw[List.take_succ_eq_append_getElem hk,List.foldl_append]
   rfl
  rw[hs]
  generalize GD f sign k=s at*
  by_cases hc:f.alters[k].at_≤sign<;>simp[pE,ia,hk,hw,hc]
 ·simp[pE,ia]
end Rm
set_option linter.unusedSimpArgs false
set_option linter.unusedVariables false
namespace Rm
open Go Go.Proofs Cx
theorem xV (r:Realm) (c:Int):Runs T q9 [aw r,.int c] (.bool (inB c r.cities.length)):=by
 refine .of_tree rfl IF BS ?_
 by_cases h1:0≤c<;>by_cases h2:c<r.cities.length<;>simp[oa,h1,h2,inB]
def xd (n:Int):Bool:=decide (0≤n)&&decide (n≤100000)
theorem q8 (n:Int):Runs T ju [.int n] (.bool (xd n)):=by
 refine .of_tree rfl Nx EN ?_
 by_cases h1:0≤n<;>by_cases h2:n≤100000<;>simp[qZ,h1,h2,xd]
theorem rL (n:Int):Runs T uS [.int n] (.bool (xd n)):=by
 refine .of_tree rfl C2 xC ?_
 by_cases h1:0≤n<;>by_cases h2:n≤100000<;>simp[lU,h1,h2,xd]
def Zi (t:Tenor):Bool:=decide (t.kind=0)||decide (t.kind=1)
theorem xH (t:Tenor):Runs T rp [jt t] (.bool (Zi t)):=by
 refine .of_tree rfl IK Cs ?_
 by_cases h1:t.kind=0<;>simp[oS,h1,Zi]
theorem H9 (y m d:Int):∃n:Int,Runs T k9 [.int y,.int m,.int d] (.int n):=by
 by_cases h:m<3
 ·refine⟨?w,?h⟩
  case h=>
   refine Runs.of_tree (d:=.int ?w) rfl qM me ?_
   simp[eQ,h]
   exact rfl
 ·refine⟨?v,?g⟩
  case g=>
   refine Runs.of_tree (d:=.int ?v) rfl qM me ?_
   simp[eQ,h]
   exact rfl
noncomputable def Zd (y m d:Int):Int:=(H9 y m d).choose
theorem p8 (y m d:Int):Runs T k9 [.int y,.int m,.int d] (.int (Zd y m d)):=(H9 y m d).choose_spec
noncomputable def zd (y m:Int):Int:=if m=12 then 31 else IntKind.i64.wrap (Zd y (IntKind.i64.wrap (m+1)) 1-Zd y m 1)
theorem rW (y m:Int):Runs T sQ [.int y,.int m] (.int (zd y m)):=by
 refine .of_tree rfl BF w8 ?_
 unfold zd
 by_cases h:m=12
 ·simp[eK,h]
 ·simp[eK,h]
  refine⟨_,p8 _ _ _,_,p8 _ _ _,?_⟩
  simp
theorem XY (y m d:Int):∃n e:Int,Runs T yb [.int y,.int m,.int d] (.tup [.int n,.int e])∧(e=0→0≤n∧n≤100000):=by
 by_cases h0:(((2000≤y∧y≤2300)∧1≤m)∧m≤12)∧1≤d
 ·by_cases h2:d≤zd y m
  ·cases h1:xd (Zd y m d)
   ·refine⟨0,3,.of_tree rfl jY eZ ?_,by simp⟩
    simp[dz]
    rw[if_pos h0]
    refine⟨_,rW y m,?_⟩
    simp[h0,h2]
    refine⟨_,p8 _ _ _,_,rL _,?_⟩
    simp[h1]
   ·refine⟨Zd y m d,0,.of_tree rfl jY eZ ?_,fun _=>by simpa [xd] using h1⟩
    simp[dz]
    rw[if_pos h0]
    exact⟨_,rW y m,⟨h0,h2⟩,_,p8 _ _ _,_,rL _,h1,rfl⟩
  ·refine⟨0,3,.of_tree rfl jY eZ ?_,by simp⟩
   simp[dz]
   rw[if_pos h0]
   refine⟨_,rW y m,?_⟩
   simp[h0,h2]
 ·refine⟨0,3,.of_tree rfl jY eZ ?_,by simp⟩
  simp[dz]
  rw[if_neg h0]
  intro a1 a2 a3 a4 a5
  exact absurd ⟨⟨⟨⟨a1,a2⟩,a3⟩,a4⟩,a5⟩ h0
theorem Si (r:Realm) (fr to:Int) (hl:r.usances.length≤100000):∃n e:Int,Runs T yf [aw r,.int fr,.int to] (.tup [.int n,.int e])∧(e=0→∃u,u∈r.usances∧n=u.days):=by
 let p:Usance→Bool:=fun u=>decide (u.fr=fr)&&decide (u.to=to)
 refine⟨match r.usances.find? p with|some u=>u.days|none=>0,match r.usances.find? p with|some u=>0|none=>4,?_,?_⟩
 ·refine .of_tree rfl JP Ce ?_
  simp[oY]
  refine EvP.scan r.usances.length (fun k=>p (r.usances.getD k default)=false) (fun k=>[.int 0,.int 0,.int k]) (fun _=>[]) ?_ (fun k hk hj hok=>?_) (fun k hk hj hok=>?_) (fun hj=>?_)
  ·simp
  ·have hw:=au hk (by omega)
   have hn:¬(r.usances[k].fr=fr∧r.usances[k].to=to):=by simpa [p,hk] using hok
   simp[gJ,dH,hk,hw,hn]
  ·have hfi:=rG hk (by simpa [hk] using hok) (fun j hj'=>by have:=hj j hj';simpa [show j<r.usances.length by omega] using this)
   have hc:r.usances[k].fr=fr∧r.usances[k].to=to:=by simpa [p,hk] using hok
   rw[hfi]
   simp[gJ,dH,hk,hc]
  ·have hfi:=qd (l:=r.usances) (p:=p) (fun j hj'=>by have:=hj j hj';simpa [hj'] using this)
   rw[hfi]
   simp[gJ,dH]
 ·cases h:r.usances.find? p with
  |none=>intro h;cases h
  |some u=>exact fun _=>⟨u,List.mem_of_find?_eq_some h,rfl⟩
end Rm
set_option linter.unusedSimpArgs false
set_option linter.unusedVariables false
namespace Rm
open Go Go.Proofs Cx
theorem V1 (R Y:Int) (hR:0≤R∧R<146097) (h1:365*Y≤R-R/1460+R/36524-R/146096) (h2:R-R/1460+R/36524-R/146096<365*Y+365):0≤R-(365*Y+Y/4-Y/100)∧R-(365*Y+Y/4-Y/100)≤500:=by
 have k0:R/36524≤R/1460:=by omega
 have k1:Y/4≤R/1460:=by omega
 have hY:0≤Y:=by omega
 have hc:R/36524=0∨R/36524=1∨R/36524=2∨R/36524=3∨R/36524=4:=by omega
 have k2:25*(R/36524)≤R/1460:=by omega
 refine⟨?_,?_⟩
 ·rcases Int.lt_or_le Y (100*(R/36524)) with hy|hy
  ·have k3:Y/4≤25*(R/36524)-1:=by omega
   have k4:R/36524-1≤Y/100:=by omega
   omega
  ·have k3:R/36524≤Y/100:=by omega
   omega
 ·omega
theorem L0 (n:Int) (h:0≤n∧n≤100400):Runs T ux [.int n] (.tup [.int (nP n).1,.int (nP n).2.1,.int (nP n).2.2]):=by
 refine .of_tree rfl DF xJ ?_
 have w:∀x:Int,-1000000000≤x→x≤1000000000→IntKind.i64.wrap x=x:=fun x a b=>aD (by omega)
 have t:∀x y:Int,0≤x→x.tdiv y=x/y:=fun x y hx=>Int.tdiv_eq_ediv_of_nonneg hx
 have u:∀x y:Int,0≤x→x.tmod y=x%y:=fun x y hx=>Int.tmod_eq_emod_of_nonneg hx
 simp[lV]
 unfold nP
 simp only[]
 rw[w (n+730425) (by omega) (by omega),u (n+730425) 146097 (by omega),t (n+730425) 146097 (by omega)]
 have hR:0≤(n+730425)%146097∧(n+730425)%146097<146097:=by omega
 have hE:0≤(n+730425)/146097∧(n+730425)/146097<100:=by omega
 generalize (n+730425)%146097=R at*
 generalize (n+730425)/146097=e at*
 rw[t R 1460 (by omega),t R 36524 (by omega),t R 146096 (by omega),w (R/1460) (by omega) (by omega),w (R-R/1460) (by omega) (by omega),w (R/36524) (by omega) (by omega),w (R-R/1460+R/36524) (by omega) (by omega),w (R/146096) (by omega) (by omega),w (R-R/1460+R/36524-R/146096) (by omega) (by omega),t (R-R/1460+R/36524-R/146096) 365 (by omega)]
 have hY:0≤(R-R/1460+R/36524-R/146096)/365∧(R-R/1460+R/36524-R/146096)/365<400:=by omega
 have hD:0≤R-(365*((R-R/1460+R/36524-R/146096)/365)+(R-R/1460+R/36524-R/146096)/365/4-(R-R/1460+R/36524-R/146096)/365/100)∧R-(365*((R-R/1460+R/36524-R/146096)/365)+(R-R/1460+R/36524-R/146096)/365/4-(R-R/1460+R/36524-R/146096)/365/100)≤500:=by
  exact V1 R _ hR (by omega) (by omega)
 generalize (R-R/1460+R/36524-R/146096)/365=Y at*
 rw[w Y (by omega) (by omega),w (365*Y) (by omega) (by omega),t Y 4 (by omega),t Y 100 (by omega),w (Y/4) (by omega) (by omega),w (Y/100) (by omega) (by omega),w (365*Y+Y/4) (by omega) (by omega),w (365*Y+Y/4-Y/100) (by omega) (by omega),w (R-(365*Y+Y/4-Y/100)) (by omega) (by omega)]
 generalize R-(365*Y+Y/4-Y/100)=D at*
 rw[w (5*D) (by omega) (by omega),w (5*D+2) (by omega) (by omega),t (5*D+2) 153 (by omega)]
 have hM:0≤(5*D+2)/153∧(5*D+2)/153≤20:=by omega
 generalize (5*D+2)/153=M at*
 rw[w M (by omega) (by omega),w (M+3) (by omega) (by omega),w (M+3-12) (by omega) (by omega),w e (by omega) (by omega),w (400*e) (by omega) (by omega),w (Y+400*e) (by omega) (by omega),w (Y+400*e+1) (by omega) (by omega)]
 rw[w (153*M) (by omega) (by omega),w (153*M+2) (by omega) (by omega),t (153*M+2) 5 (by omega),w ((153*M+2)/5) (by omega) (by omega),w (D-(153*M+2)/5) (by omega) (by omega),w (D-(153*M+2)/5+1) (by omega) (by omega)]
 refine⟨?_,?_,rfl⟩
 ·generalize (if 12<M+3 then M+3-12 else M+3)=m
  split<;>rfl
 ·split<;>rfl
theorem Nj (d n:Int):∃x e:Int,Runs T nJ [.int d,.int n] (.tup [.int x,.int e])∧(e=0→0≤x∧x≤100000):=by
 by_cases h0:xd d=true∧-5000≤n∧n≤5000
 ·have hd:0≤d∧d≤100400:=by have:=h0.1;simp[xd] at this;omega
  obtain⟨A,hA⟩:∃A,A=IntKind.i64.wrap (IntKind.i64.wrap (IntKind.i64.wrap (IntKind.i64.wrap (12*(nP d).1)+(nP d).2.1)-1)+n):=⟨_,rfl⟩
  obtain⟨Y,hY⟩:∃Y,Y=IntKind.i64.wrap (A.tdiv 12):=⟨_,rfl⟩
  obtain⟨M,hM⟩:∃M,M=IntKind.i64.wrap (A.tmod 12+1):=⟨_,rfl⟩
  obtain⟨x,e,hD,hb⟩:=XY Y M (if zd Y M<(nP d).2.2 then zd Y M else(nP d).2.2)
  refine⟨x,e,.of_tree rfl l9 ja ?_,hb⟩
  have n1:¬n< -5000:=by omega
  have n2:¬5000<n:=by omega
  simp[dm,n1,n2]
  refine⟨_,rL d,?_⟩
  simp[h0.1]
  refine⟨_,L0 d hd,?_⟩
  simp[←hA,←hY,←hM]
  refine⟨_,rW Y M,?_⟩
  by_cases hl:zd Y M<(nP d).2.2
  ·simp only[if_pos hl] at hD
   simp[hl]
   refine⟨_,hD,?_⟩
   simp
  ·simp only[if_neg hl] at hD
   simp[hl]
   refine⟨_,hD,?_⟩
   simp
 ·refine⟨0,3,.of_tree rfl l9 ja ?_,by simp⟩
  simp[dm]
  refine⟨_,rL d,?_⟩
  simp
  intro a b c
  exact absurd ⟨a,b,c⟩ h0
end Rm
set_option linter.unusedSimpArgs false
set_option linter.unusedVariables false
namespace Rm
open Go Go.Proofs Cx
theorem tt (l:List Int) (x:Int):hasB l x=l.contains x:=by
 rw[Bool.eq_iff_iff]
 simp[hasB]
def Kz (c:City):Prop:=c.rest.length≤100000∧c.feasts.length≤100000∧c.shut.length≤100000
theorem adT (n:Int) (h:0≤n∧n≤100400):(0≤(nP n).2.1∧(nP n).2.1≤30)∧-1000≤(nP n).2.2∧(nP n).2.2≤1000:=by
 unfold nP
 simp only[]
 have hR:0≤(n+730425)%146097∧(n+730425)%146097<146097:=by omega
 generalize (n+730425)%146097=R at*
 have hD:=V1 R ((R-R/1460+R/36524-R/146096)/365) hR (by omega) (by omega)
 generalize (R-R/1460+R/36524-R/146096)/365=Y at*
 generalize R-(365*Y+Y/4-Y/100)=D at*
 have hM:0≤(5*D+2)/153∧(5*D+2)/153≤20:=by omega
 generalize (5*D+2)/153=M at*
 refine⟨?_,by omega,by omega⟩
 split<;>omega
theorem WV (c:City) (hc:Kz c) (n:Int) (h:0≤n∧n≤100400):Runs T wI [bD c,.int n] (.bool (Ni c.rest c.feasts c.shut n)):=by
 refine .of_tree rfl Gv zL ?_
 simp[mP]
 refine⟨_,L0 n h,?_⟩
 have w5:IntKind.i64.wrap (n+5)=n+5:=aD (by omega)
 have m7:(n+5).tmod 7=(n+5)%7:=Int.tmod_eq_emod_of_nonneg (by omega)
 obtain⟨h1,h2,h3⟩:=hc
 simp[w5,m7]
 refine⟨_,cq c.rest ((n+5)%7) (by omega),?_⟩
 unfold Ni
 rw[←tt]
 cases hr:hasB c.rest ((n+5)%7)
 ·obtain⟨hb1,hb2⟩:=adT n h
  have wm:IntKind.i64.wrap (100*(nP n).2.1)=100*(nP n).2.1:=aD (by omega)
  have wd:IntKind.i64.wrap (100*(nP n).2.1+(nP n).2.2)=100*(nP n).2.1+(nP n).2.2:=aD (by omega)
  simp[hr,wm,wd]
  refine⟨_,cq c.feasts _ (by omega),?_⟩
  have e1:=tt c.feasts (100*(nP n).2.1+(nP n).2.2)
  have e2:=tt c.shut n
  simp at e1 e2
  cases hf:hasB c.feasts (100*(nP n).2.1+(nP n).2.2)
  ·simp[hf,←e1,←e2]
   exact⟨_,cq c.shut n (by omega),rfl⟩
  ·simp[hf,←e1]
 ·simp[hr]
end Rm
set_option linter.unusedSimpArgs false
set_option linter.unusedVariables false
namespace Rm
open Go Go.Proofs Cx
def ed (c:City) (a:Int) (k:Nat):List Int:=((List.range k).map fun(i:Nat)=>a+i).filter (Ni c.rest c.feasts c.shut)
theorem KC (c:City) (a:Int) (k:Nat):ed c a (k+1)=ed c a k++if Ni c.rest c.feasts c.shut (a+k) then[a+k] else[]:=by
 unfold ed
 rw[List.range_succ,List.map_append,List.filter_append]
 congr 1
 cases h:Ni c.rest c.feasts c.shut (a+k)<;>simp[h]
theorem Xa (c:City) (a:Int) {k n:Nat} (h:k≤n):∃r,ed c a n=ed c a k++r:=by
 induction n with
 |zero=>obtain rfl:k=0:=by omega
        exact⟨[],by simp⟩
 |succ n ih=>
  by_cases e:k=n+1
  ·subst e;exact⟨[],by simp⟩
  ·obtain⟨r,hr⟩:=ih (by omega)
   exact⟨r++_,by rw[KC,hr,List.append_assoc]⟩
def N9 (d:Int):D:=.tup [.int d]
theorem YW (c:City) (a b:Int):aav [.ref (.int a),.ref (.int b),.ref (bD c)]=(ed c a (b-a+1).toNat).map N9:=by
 have hi:∀l:List Int,Bh (ints l)=l:=fun l=>by
  show(l.map D.int).map D.i=l
  rw[List.map_map]
  exact List.map_id l
 show(aaG (Bh (ints c.rest)) (Bh (ints c.feasts)) (Bh (ints c.shut)) a b).map _=_
 rw[hi,hi,hi]
 rfl
theorem Uo (c:City) (hc:Kz c) (a b:Int) (ha:0≤a) (hb:b≤100400) (hab:a≤100400):Runs T sM [.ref (.int a),.ref (.int b),.ref (bD c)] (.list ((ed c a (b-a+1).toNat).map N9)):=by
 have hsp:=YW c a b
 rw[←hsp]
 obtain⟨N,hN⟩:∃N,N=(b-a+1).toNat:=⟨_,rfl⟩
 refine Runs.of_it (pc:=da) (J:=1000) (k:=1) rfl (fun x hx=>?_) (fun m hm=>?_)
 ·rw[hsp] at hx
  obtain⟨i,_,rfl⟩:=List.mem_map.1 hx
  exact⟨_,rfl,rfl⟩
 ·rw[hsp] at hm ⊢
  rw[←hN] at hm ⊢
  refine Kg ?_
  rw[wZ]
  simp[j9]
  refine EvP.forLoop (α:=Nat) (fun k vr vo=>k≤N∧vr=[.int (a+k)]∧vo=[.list ((ed c a k).map N9)]∧(ed c a k).length≤m) (fun k=>N-k) 0 ?_ ?_
  ·simp[aa5,ed]
  ·rintro k vr vo ⟨hk,rfl,rfl,hcm⟩
   by_cases hlt:k<N
   ·have hle:a+(k:Int)≤b:=by omega
    have hw1:IntKind.i64.wrap (a+(k:Int)+1)=a+((k+1:Nat):Int):=by rw[aD (by omega)];omega
    have hop:=(WV c hc (a+k) (by omega))
    have hsucc:=KC c a k
    obtain⟨r,hr⟩:=Xa c a (k:=k+1) (n:=N) hlt
    simp[kD,dK,hle]
    refine⟨_,hop.yld (by decide),?_⟩
    cases hi:Ni c.rest c.feasts c.shut (a+k)
    ·simp[hi] at hsucc ⊢
     exact⟨k+1,by omega,by omega,hw1,by rw[hsucc],by rw[hsucc];exact hcm⟩
    ·simp[hi] at hsucc ⊢
     have hlen:(ed c a (k+1)).length=(ed c a k).length+1:=by rw[hsucc];simp
     have htr:(ed c a k).map N9++[D.tup [D.int (a+k)]]=(ed c a (k+1)).map N9:=by rw[hsucc,List.map_append];rfl
     have htake:(ed c a (k+1)).map N9=((ed c a N).map N9).take ((ed c a k).length+1):=by
      rw[hr,List.map_append,List.take_append_of_le_length (by simp[hlen]),List.take_of_length_le (by simp[hlen])]
     have hcl:(ed c a k).length<((ed c a N).map N9).length:=by rw[hr];simp[hlen];omega
     rw[htr]
     refine⟨_,Runs.answer htake hcl hcm,?_⟩
     by_cases hmm:(ed c a k).length<m
     ·simp[hmm]
      exact⟨k+1,by omega,by omega,hw1,rfl,by omega⟩
     ·obtain rfl:(ed c a k).length=m:=by omega
      simp
      rw[htake]
   ·obtain rfl:k=N:=by omega
    have hle:¬a+(k:Int)≤b:=by omega
    simp[kD,dK,hle]
    rw[List.take_of_length_le (by simp;omega)]
end Rm
set_option linter.unusedSimpArgs false
set_option linter.unusedVariables false
namespace Rm
open Go Go.Proofs Cx
theorem XD (c:City) (a b:Int):Runs T wg [bD c,.int a,.int b] (.clo sM [.ref (.int a),.ref (.int b),.ref (bD c)]):=by
 refine .of_tree rfl GZ Aq ?_
 simp[mV]
def Fk (d:Int):Int:=if 100000<d+400 then 100000 else d+400
def mh (c:City) (d:Int):Int×Int:=
 if xd d=false then(0,3) else match ed c d (Fk d-d+1).toNat with|[]=>(0,3)|x::_=>(x,0)
theorem YB {c:City} {a:Int} {k:Nat} {x:Int} (h:x∈ed c a k):a≤x∧x<a+k:=by
 unfold ed at h
 obtain⟨h1,_⟩:=List.mem_filter.mp h
 obtain⟨i,hi,rfl⟩:=List.mem_map.mp h1
 have:=List.mem_range.mp hi
 omega
theorem Zf {c:City} {d:Int} (h:(mh c d).2=0):xd d=true∧d≤(mh c d).1∧(mh c d).1≤100000:=by
 unfold mh at h ⊢
 cases hd:xd d
 ·simp[hd] at h
 ·simp only[hd] at h ⊢
  cases hk:ed c d (Fk d-d+1).toNat with
  |nil=>rw[hk] at h;simp at h
  |cons x l=>
   have hm:x∈ed c d (Fk d-d+1).toNat:=by rw[hk];simp
   have:=YB hm
   have he:Fk d≤100000:=by unfold Fk;split<;>omega
   simp[xd] at hd
   simp
   unfold Fk at*
   omega
theorem W0 (c:City) (hc:Kz c) (d:Int):Runs T wk [bD c,.int d] (.tup [.int (mh c d).1,.int (mh c d).2]):=by
 refine .of_tree rfl Fp zF ?_
 simp[mT]
 refine⟨_,rL d,?_⟩
 cases hd:xd d
 ·simp[mh,hd]
 have hd':0≤d∧d≤100000:=by simpa [xd] using hd
 have hw:IntKind.i64.wrap (d+400)=d+400:=aD (by omega)
 have he:Fk d≤100000:=by unfold Fk;split<;>omega
 simp[hd,hw]
 have hE:(if 100000<d+400 then D.int 100000 else D.int (d+400))=D.int (Fk d):=by unfold Fk;split<;>rfl
 rw[hE]
 refine⟨_,XD c d (Fk d),_,_,rfl,_,Uo c hc d (Fk d) hd'.1 (by omega) (by omega),?_⟩
 cases hk:ed c d (Fk d-d+1).toNat with
 |nil=>
  have hn:mh c d=(0,3):=by unfold mh;simp[hd,hk]
  rw[hn]
  refine EvP.eachR [] (by simp) (fun _ vo=>vo=[.agg [.int 0],.agg [.int 0]]) ?_ (fun k x vo hx hi=>by simp at hx) (fun vo hi=>?_)
  ·simp
  ·subst hi
   simp
 |cons x l=>
  have hn:mh c d=(x,0):=by unfold mh;simp[hd,hk]
  rw[hn]
  refine EvP.eachR ((x::l).map N9) (by simp) (fun k vo=>k=0∧vo=[.agg [.int 0],.agg [.int 0]]) ?_ (fun k y vo hx hi=>?_) (fun vo hi=>?_)
  ·simp
  ·obtain⟨rfl,rfl⟩:=hi
   simp at hx
   subst hx
   simp[wS,kg,N9]
   rfl
  ·exact absurd hi.1 (by simp)
end Rm
