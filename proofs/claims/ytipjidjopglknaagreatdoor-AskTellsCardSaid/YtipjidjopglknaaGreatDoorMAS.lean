/-
  Shared texts of this claim.
-/
import Derived.Test.YtipjidjopglknaaGreatDoorMAR
set_option linter.defProp false
set_option linter.unusedSimpArgs false
set_option linter.unusedVariables false
open Go.IntKind (i64)
namespace Rm
open Go Go.Proofs Cx
def U6 (n:Int):ah T 185 [.int n] (.int (lJ n)):=by
 refine zyw 132 aAL ?_;unfold lJ;by_cases h1:n< -1099511627776
 .simp[OV];split<;>split<;>simp<;>omega
 .simp[OV];split<;>split<;>simp<;>omega
def ah4 (b:Bool):ah T 186 [.bool b] (cg (fb b)):=by
 refine zyw 135 aA0 ?_;cases b<;>simp[X5]<;>rfl
def axA (v:Int)(cs:List Cell)(hv:0<=v):ah T 158 [.int v,cells cs] (cg (iJ cs v)):=by
 obtain⟨k,rfl⟩:=vD hv;refine zyw 131 aAR ?_;simp[X2,iJ,cellAt];by_cases h1:cs.length<=k
 .have Rk:(cs.length:Int)<=k:=by omega
  simp[h1,Rk]
 have cA:k<cs.length:=by omega
 have Rk:¬(cs.length:Int)<=k:=by omega
 simp[h1,cA,Rk];cases h2:cs[k].known
 .simp[h2]
 simp[h2];refine⟨_,ah1 _,?_⟩;rcases akX k with h3|h3
 .simp[h3];refine⟨_,U6 _,?_⟩;simp;rfl
 .simp[h3];by_cases h4:cs[k].n=0
  .simp[h4];rfl
  .simp[h4];rfl
def ah2 (a b:Cell)(alone:Int)(h:alone=0\/alone=1):ah T 159 [cg a,cg b,.int alone] (cg (if(a.known=true/\a.n=alone)\/(b.known=true/\b.n=alone) then⟨true,alone⟩ else if a.known=true/\b.known=true then⟨true,1-alone⟩ else db)):=by
 have hw:i64.wrap (1-alone)=1-alone:=aW (by omega);refine zyw 133 aAX ?_;obtain⟨ka,na⟩:=a;obtain⟨kb,nb⟩:=b;by_cases e1:na=alone<;>by_cases e2:nb=alone<;>cases ka<;>cases kb<;>simp[X3,e1,e2,hw]<;>rfl
def axz (a b:Int)(ha:-1099511627776<=a/\a<=1099511627776)(hb:-1099511627776<=b/\b<=1099511627776):ah T 187 [.int a,.int b] (.int (rC a b)):=by
 refine zyw 136 aAQ ?_;by_cases h0:a=0\/b=0
 .have hz:rC a b=0:=by
   unfold rC ny;rcases h0 with rfl|rfl<;>simp
  rw[hz];simp[OW,h0]
 obtain⟨x,hx⟩:∃x,x=(if a< -a then-a else a):=⟨_,rfl⟩
 obtain⟨y,hy⟩:∃y,y=(if b< -b then-b else b):=⟨_,rfl⟩
 have lX:x=(a.natAbs:Int):=by rw[hx];split<;>omega
 have Mo:y=(b.natAbs:Int):=by rw[hy];split<;>omega
 have ot:1<=x/\x<=1099511627776:=by omega
 have hy1:1<=y/\y<=1099511627776:=by omega
 have wa:i64.wrap (0-a)=-a:=by rw[aW (by omega)];omega
 have wb:i64.wrap (0-b)=-b:=by rw[aW (by omega)];omega
 have wa':i64.wrap (-a)=-a:=aW (by omega);have wb':i64.wrap (-b)=-b:=aW (by omega);simp[OW,h0,wa,wb,wa',wb',<-hx,<-hy];refine⟨by omega,?_⟩;have hq:Int.tdiv 1099511627776 y=1099511627776/y:=AK (by omega);have wH:0<=(1099511627776:Int)/y:=Int.ediv_nonneg (by omega) (by omega);have hq1:(1099511627776:Int)/y<=1099511627776:=Int.ediv_le_self _ (by omega);have GB:i64.wrap (Int.tdiv 1099511627776 y)=1099511627776/y:=by rw[hq];exact aW (by omega)
 have ak:(1099511627776:Int)/y<x↔1099511627776<x*y:=Int.ediv_lt_iff_lt_mul (by omega);obtain⟨m,hm⟩:∃m:Nat,m=a.natAbs*b.natAbs:=⟨_,rfl⟩
 have hmx:(m:Int)=x*y:=by rw[hm,lX,Mo];exact Int.natCast_mul _ _
 have hp:rC a b=if(a<0↔b<0) then ny m else-ny m:=by
  unfold rC;rw[<-hm];by_cases c1:a<0<;>by_cases c2:b<0<;>simp[c1,c2]
 have hpn:ny m=if 1099511627776<x*y then 1099511627776 else x*y:=by
  unfold ny;rw[<-hmx];split<;>split<;>omega
 rw[hp,hpn,GB];by_cases hc:1099511627776<x*y
 .have nj:=ak.2 hc;rw[if_pos hc,if_pos nj,if_pos nj];split<;>rfl
 .have nj:¬(1099511627776:Int)/y<x:=λe=>hc (ak.1 e);rw[if_neg hc,if_neg nj,if_neg nj];have Mg:0<=x*y:=by rw[<-hmx];omega
  split
  .exact aW (by omega)
  .rw[aW (n:=-x) (by omega),Int.neg_mul];exact aW (by omega)
def axE (op a b:Int)(ha:9<=op->-1099511627776<=a/\a<=1099511627776)(hb:9<=op->-1099511627776<=b/\b<=1099511627776)(ho:7<=op):
 ah T 160 [.int op,.int a,.int b] (cg (if op=7 then fb (decide (a<b)) else if op=8 then fb (decide (a=b)) else⟨true,tT op a b⟩)):=by
 refine zyw 134 aAY ?_;unfold tT;by_cases h7:op=7
 .simp[vq,h7];refine⟨_,ah4 _,?_⟩;simp
  try rfl
 by_cases h8:op=8
 .simp[vq,h8];refine⟨_,ah4 _,?_⟩;simp
  try rfl
 have a1:=ha (by omega);have b1:=hb (by omega);have w1:i64.wrap (a+b)=a+b:=aW (by omega);have w2:i64.wrap (a-b)=a-b:=aW (by omega);by_cases h9:op=9
 .simp[vq,h9,w1];refine⟨_,U6 _,?_⟩;simp
  try rfl
 by_cases po:op=10
 .simp[vq,po,w2];refine⟨_,U6 _,?_⟩;simp
  try rfl
 by_cases pq:op=11
 .simp[vq,pq];refine⟨_,axz a b a1 b1,?_⟩;simp
  try rfl
 by_cases ng:op=12
 .simp[vq,ng];have e:(if b<a then D.int b else D.int a)=D.int (min a b):=by
   split
   .rw[Z1 (by omega)]
   .rw[Z0 (by omega)]
  rw[e];rfl
 .simp[vq,h7,h8,h9,po,pq,ng];have e:(if a<b then D.int b else D.int a)=D.int (max a b):=by
   split
   .rw[ZZ (by omega)]
   .rw[Pc (by omega)]
  rw[e];rfl
def NH:∀(L:Nat) (cs:List Cell) (t:Tm) (k:Int),t.OK->bm L t<=60->ba L t=(k,0)->ah T 120 [cQ t,cells cs] (cg (aH L cs t))
 |0,cs,t,k,ht,hm,hc=>by simp[bm] at hm
 |L+1,cs,t,k,ht,hm,hc=>by
  refine zyw 130 aAU ?_;obtain⟨hl,hp⟩:=zB hm;obtain⟨ha,_⟩:=yr hc;obtain⟨hn,acR⟩:=vS hc;have dS:∀a,a∈t.args->ah T 120 [cQ a,cells cs] (cg (aH L cs a)):=λa bP=>NH L cs a (ba L a).1 (ht.arg bP) (hp a bP) (by rw[<-ha a bP]);have lV:∀a,a∈t.args->oW (ba L a).1 (aH L cs a):=λa bP=>Fo cs (show ba L a=((ba L a).1,0) by rw[<-ha a bP]);by_cases cI:t.op=0\/t.op=1
  .have e1:aH (L+1) cs t=⟨true,t.n⟩:=by rw[uh,if_pos cI]
   rw[e1];rcases cI with h|h<;>simp[IW,h]<;>rfl
  have o0:t.op≠0:=λh=>cI (.inl h);have o1:t.op≠1:=λh=>cI (.inr h);by_cases o2:t.op=2
  .have hv:0<=t.n:=by
    cases hn with
    |var h0 ha hn=>exact hn.1
    |_=>omega
   have e1:aH (L+1) cs t=iJ cs t.n:=by rw[uh,if_neg cI,if_pos o2]
   rw[e1];simp[IW,o2];refine⟨_,axA t.n cs hv,?_⟩;simp
   try rfl
  have e1:aH (L+1) cs t=if t.op=6/\(aT (t.args.map (aH L cs)) 0).known=true then aT (t.args.map (aH L cs)) (2-(aT (t.args.map (aH L cs)) 0).n).toNat else dE t.op (t.args.map (aH L cs)):=by
   rw[uh,if_neg cI,if_neg o2]
  rw[e1];simp[IW,o0,o1,o2];refine aN.forRounds t.args.length (λk=>[.none,.int k]) (λk=>[cells ((t.args.map (aH L cs)).take k)]) ?_ (λk hk=>?_) ?_
  .simp[cells]
  .have hw:=bu hk (by omega);have cR:=bW hk;have hr:=dS _ cR;have F0:(t.args.map (aH L cs))[k]'(by simpa using hk)=aH L cs t.args[k]:=by simp
   have ze:(t.args.map (aH L cs)).take (k+1)=(t.args.map (aH L cs)).take k++[aH L cs t.args[k]]:=by
    rw[lG (by simpa using hk),F0]
   have hlen:((t.args.map (aH L cs)).take k).length=k:=by simp;omega
   rw[ze];generalize (t.args.map (aH L cs)).take k=A at*;generalize aH L cs t.args[k]=c at*;simp[ve,rK,hk];refine⟨_,hr,?_⟩;simp[hlen,hk,hw,cells];omega
  .have lA:(t.args.map (aH L cs)).length=t.args.length:=by simp
   have e0:(t.args.map (aH L cs)).take t.args.length=t.args.map (aH L cs):=by rw[<-lA,Ec]
   rw[e0];have val:∀(k:Int) (c:Cell),oW k c->c=db\/c.known=true/\(k=1->c.n=0\/c.n=1)/\(k=0->-1099511627776<=c.n/\c.n<=1099511627776):=by
    intro k c hr;cases e:c.known with
    |false=>exact .inl (hr.1 e)
    |true=>exact .inr ⟨rfl,hr.2 e⟩
   by_cases h7:7<=t.op
   .obtain⟨k',hk,h13,h9⟩:∃k',t.args.map (λa=>(ba L a).1)=[k',k']/\t.op<=13/\(9<=t.op->k'=0):=by
     cases hn with
     |less o hk=>exact⟨0,hk,by omega,λ_=>rfl⟩
     |equal k o hk=>exact⟨k,hk,by omega,λ_=>by omega⟩
     |num o hk=>exact⟨0,hk,by omega,λ_=>rfl⟩
     |log h0 hk=>omega
     |_=>omega
    obtain⟨a,b,dL,ea,eb⟩:=uL hk;have q8:t.args.length=2:=by rw[dL];rfl
    have ra:=lV a (by simp[dL]);rw[ea] at ra;have rb:=lV b (by simp[dL]);rw[eb] at rb;rw[dL];simp only[fO,tO,mY,tN];generalize aH L cs a=A at*;generalize aH L cs b=B at*;have o3:¬t.op=3:=by omega
    have o4:¬t.op=4:=by omega
    have o5:¬t.op=5:=by omega
    have o6:¬t.op=6:=by omega
    have ec:dE t.op [A,B]=if A.known=false\/B.known=false then db else if t.op=7 then fb (decide (A.n<B.n)) else if t.op=8 then fb (decide (A.n=B.n)) else⟨true,tT t.op A.n B.n⟩:=by
     unfold dE;rw[if_neg o3,if_neg (by omega),if_neg o6];have:¬(t.op=4\/t.op=5):=by omega
     rw[if_neg this];rfl
    rw[if_neg (by omega),ec];cases e1:A.known<;>cases e2:B.known<;>simp[ve,rK,q8,o3,o4,o5,o6,cells,e1,e2]
    .have b1:9<=t.op->-1099511627776<=A.n/\A.n<=1099511627776:=λh=>(ra.2 e1).2 (h9 h);have b2:9<=t.op->-1099511627776<=B.n/\B.n<=1099511627776:=λh=>(rb.2 e2).2 (h9 h);refine⟨_,axE t.op A.n B.n b1 b2 h7,?_⟩;simp
     try rfl
   cases hn with
   |int h0 ha hn=>omega
   |bool h0 ha hn=>omega
   |var h0 ha hn=>omega
   |not o3 hk=>
    obtain⟨a,dL,e⟩:=Tt hk;have q8:t.args.length=1:=by rw[dL];rfl
    have ra:=lV a (by simp[dL]);rw[e] at ra;rw[dL];simp only[fO,tO,mY,tN];generalize aH L cs a=A at*;rcases val _ _ ra with rfl|⟨h1,h2,_⟩
    .simp[ve,rK,q8,o3,dE,cells,aT,db]
    .obtain⟨ka,na⟩:=A;simp at h1;subst h1;rcases h2 rfl with h|h<;>simp at h<;>subst h<;>simp[ve,rK,q8,o3,dE,cells,aT]<;>rfl
   |log CS hk=>
    obtain⟨a,b,dL,ea,eb⟩:=uL hk;have q8:t.args.length=2:=by rw[dL];rfl
    have ra:=lV a (by simp[dL]);rw[ea] at ra;have rb:=lV b (by simp[dL]);rw[eb] at rb;rw[dL];simp only[fO,tO,mY,tN];generalize aH L cs a=A at*;generalize aH L cs b=B at*;have key:∀al:Int,(al=0\/al=1)->t.op=4+al->(if(A.known=true/\A.n=al)\/(B.known=true/\B.n=al) then(⟨true,al⟩:Cell) else if A.known=true/\B.known=true then⟨true,1-al⟩ else db)=dE t.op [A,B]:=by
     intro al qU bQ;rw[bQ];have v3:∀c:Cell,oW 1 c->c=db\/c=⟨true,0⟩\/c=⟨true,1⟩:=by
        intro c hr;rcases val _ _ hr with h|⟨h,h2,_⟩
        .exact .inl h
        .rcases h2 rfl with h3|h3
         .exact .inr (.inl ((Jw _ _).2 ⟨h,h3⟩))
         .exact .inr (.inr ((Jw _ _).2 ⟨h,h3⟩))
     rcases v3 _ ra with rfl|rfl|rfl<;>rcases v3 _ rb with rfl|rfl|rfl<;>rcases qU with rfl|rfl<;>rfl
    rcases CS with o|o
    .rw[if_neg (by omega),<-key 0 (.inl rfl) o];simp[ve,rK,q8,o,cells];refine⟨_,ah2 A B 0 (.inl rfl),?_⟩;simp
     try rfl
    .rw[if_neg (by omega),<-key 1 (.inr rfl) o];simp[ve,rK,q8,o,cells];refine⟨_,ah2 A B 1 (.inr rfl),?_⟩;simp
     try rfl
   |ite k o6 hk=>
    obtain⟨a,b,c,dL,ea,eb,ec⟩:=zx hk;have q8:t.args.length=3:=by rw[dL];rfl
    have ra:=lV a (by simp[dL]);rw[ea] at ra;have w2:i64.wrap 2=2:=aW (by omega);rw[dL];simp only[fO,tO,mY,tN];generalize aH L cs a=A at*;generalize aH L cs b=B at*;generalize aH L cs c=C at*;rcases val _ _ ra with rfl|⟨h1,h2,_⟩
    .by_cases g:B.known=true/\B=C
     .have gg:=g.2;have gk:=g.1;subst gg;simp[ve,rK,q8,o6,dE,cells,aT,db,gk];obtain⟨kb,nb⟩:=B;simp at gk;subst gk;rfl
     .have g':¬(B.known=true/\C.known=true/\B.n=C.n):=λh=>g ⟨h.1,(Jw B C).2 ⟨by rw[h.1,h.2.1],h.2.2⟩⟩;rw[if_neg (by simp[aT,db])];unfold dE;rw[if_neg (by omega),if_neg (by omega),if_pos o6];simp only[aT,aK];simp;rw[if_neg g];cases e1:B.known<;>cases e2:C.known<;>simp[ve,rK,q8,o6,cells,db,e1,e2];have:¬B.n=C.n:=λh=>g' ⟨e1,e2,h⟩;simp[this]
    .obtain⟨ka,na⟩:=A;simp at h1;subst h1;rcases h2 rfl with h|h<;>simp at h<;>subst h<;>simp[ve,rK,q8,w2,o6,dE,cells,aT]<;>rfl
   |less o hk=>omega
   |equal k o hk=>omega
   |num o hk=>omega
def axx (t:Tm)(cs:List Cell)(ht:t.OK):ah T 77 [cQ t,cells cs] (cg (qO cs t)):=by
 refine zyw 129 aAM ?_;simp[XY,qO];refine⟨_,U5 t ht,?_⟩;by_cases h:(jc t).2=0
 .obtain⟨h1,h2⟩:=E0 h;simp[h];refine⟨_,NH 8 cs t _ ht h1 h2,?_⟩;simp
  try rfl
 .simp[h]
  try rfl
def U9 (ask:Int):ah T 35 [.int ask] (.bool (decide (0<=ask/\ask<22))):=by
 refine zyw 113 aA5 ?_;by_cases h:0<=ask<;>by_cases h2:ask<22<;>simp[Ya,h,h2]
def ahM (ask:Int)(h:0<=ask/\ask<22):ah T 79 [.int ask] (.bool (!hasB rv ask)):=by
 refine zyw 128 aAh ?_;have hb:hasB rv ask=true↔ask=6\/ask=7\/ask=10\/ask=12\/ask=13\/ask=14\/ask=15\/ask=16\/ask=20\/ask=21:=by
  simp[hasB,rv];omega
 by_cases hm:ask=6\/ask=7\/ask=10\/ask=12\/ask=13\/ask=14\/ask=15\/ask=16\/ask=20\/ask=21
 .rw[hb.2 hm];rcases hm with h|h|h|h|h|h|h|h|h|h<;>subst h<;>simp[OS]
 .have hf:hasB rv ask=false:=by
   cases e:hasB rv ask
   .rfl
   .exact absurd (hb.1 e) hm
  rw[hf];simp only[not_or] at hm;obtain⟨a1,a2,a3,a4,a5,a6,a7,a8,a9,m0⟩:=hm;simp[OS,a1,a2,a3,a4,a5,a6,a7,a8,a9,m0];have hw:=cJ ask 0 21;have SY:wi ask 0 21=true:=by simp[wi];omega
  rw[SY] at hw;exact hw
def axH (ask:Int):ah T 119 [.int ask] (.tup [.int (fu ask).1,.bool (fu ask).2]):=by
 refine zyw 127 aA7 ?_;simp[Yc,fu];refine⟨_,U9 ask,?_⟩;by_cases h:0<=ask/\ask<22
 .have h1:¬(ask<0\/22<=ask):=by omega
  simp[h,h1];refine⟨_,ahM ask h,?_⟩;cases e:hasB rv ask<;>simp[e]
 .have h1:ask<0\/22<=ask:=by omega
  simp[h,h1]
def Va (o:Order)(ask:Int)(hl:o.rules.length<=4294967296):ah T 78 [gz o,.int ask] (.int (l0 o.rules.length (ln o ask))):=by
 refine zyw 120 aA6 ?_;simp[Yb];refine .scan o.rules.length (λk=>ln o ask k=false) (λk=>[.int 0,.int k]) (λ_=>[]) ?_ (λk hk hj ho=>?_) (λk hk hj ho=>?_) (λhj=>?_)
 .simp
 .have hw:=bu hk hl;simp[ln,hk] at ho;simp[VN,H7,hk,hw,ho]
 .have he:=Ms hk (by simpa using ho) hj;simp[ln,hk] at ho;simp[VN,H7,hk,he,ho]
 .have he:=Mr hj;simp[VN,H7,he]
def ah6 (o:Order)(ask:Int)(ho:o.OK)(hl:o.rules.length<=4294967296):ah T 76 [gz o,.int ask] (.int (findF o ask).2):=by
 refine zyw 119 aA8 ?_;simp[Yd,findF];refine⟨_,U9 ask,?_⟩;have ht:(fu ask).2=decide (0<=ask/\ask<22):=by
  unfold fu;by_cases h:ask<0\/22<=ask
  .rw[if_pos h];have:¬(0<=ask/\ask<22):=by omega
   simp[this]
  .rw[if_neg h];have:0<=ask/\ask<22:=by omega
   split<;>simp[this]
 by_cases h:0<=ask/\ask<22
 .simp[h,ht];refine⟨_,Va o ask hl,?_⟩;rcases wW o.rules.length (ln o ask) with⟨h1,h2⟩|⟨m,hm,h1,h2,h3⟩
  .rw[h1];simp
  .rw[h1];have y6:¬((m:Int)<0):=by omega
   have zf:o.rules[m].term.OK:=II ho hm;simp[hm,tq,y6];refine⟨_,U5 _ zf,_,axH ask,?_⟩;by_cases h4:(jc o.rules[m].term).2=0<;>by_cases h5:(jc o.rules[m].term).1=(fu ask).1<;>simp[h4,h5]
 .simp[h,ht]
def axF (o:Order)(ask:Int)(cs:List Cell)(ho:o.OK)(hl:o.rules.length<=4294967296):ah T 37 [gz o,.int ask,cells cs] (.tup [cg (nQ o ask cs).1,.int (nQ o ask cs).2]):=by
 refine zyw 118 aA2 ?_;simp[X7];refine⟨_,ah6 o ask ho hl,?_⟩;by_cases h:(findF o ask).2=0
 .have hq:(fu ask).2=true:=by
   unfold findF at h;cases e:(fu ask).2
   .rw[if_pos e] at h;cases h
   .rfl
  have hr:0<=ask/\ask<22:=by
   unfold fu at hq;split at hq
   .cases hq
   .omega
  have RW:∃m:Nat,m<o.rules.length/\l0 o.rules.length (ln o ask)=m/\(findF o ask).1=tq o m:=by
   unfold findF at h ⊢;rw[if_neg (by rw[hq];decide)] at h ⊢;split at h
   .cases h
   rename_i h1;rw[if_neg h1];split at h
   .cases h
   rename_i h2;rw[if_neg h2];rcases wW o.rules.length (ln o ask) with⟨g1,g2⟩|⟨m,hm,g1,g2,g3⟩
   .exact absurd (by rw[g1];decide) h1
   .exact⟨m,hm,g1,by rw[g1]⟩
  obtain⟨m,hm,g1,g2⟩:=RW;have zf:o.rules[m].term.OK:=II ho hm;have mm:(findF o ask).1=o.rules[m].term:=by rw[g2];simp[tq,hm]
  simp[h,nQ,mm];refine⟨_,Va o ask hl,?_⟩;rw[g1];simp[hm];refine⟨_,axx _ cs zf,?_⟩;generalize qO cs o.rules[m].term=c;have mw:=ahM ask hr;have bt:(fu ask).1=0↔hasB rv ask=true:=by
   unfold fu;rw[if_neg (by omega)];split
   .rename_i e;simp[e]
   .rename_i e;simp[e]
  obtain⟨kn,n⟩:=c;cases hb:hasB rv ask
  .have dR:¬(fu ask).1=0:=λe=>by rw[bt.1 e] at hb;cases hb
   rw[hb] at mw;cases kn<;>simp[dR]
   all_goals first|rfl|(refine⟨_,mw,?_⟩;rfl)|(refine⟨_,mw,?_⟩;simp;done)|(refine⟨_,mw,?_⟩;simp;rfl)
  .have dR:=bt.2 hb;rw[hb] at mw;cases kn
   .simp[dR]
    first|rfl|(refine⟨_,mw,?_⟩;rfl)|(refine⟨_,mw,?_⟩;simp;done)|(refine⟨_,mw,?_⟩;simp;rfl)
   .by_cases h2:n<0
    .have:min (max n 0) 20000=0:=by omega
     simp[dR,h2,this]
     first|rfl|(refine⟨_,mw,?_⟩;rfl)|(refine⟨_,mw,?_⟩;simp;done)|(refine⟨_,mw,?_⟩;simp;rfl)
    .by_cases h3:20000<n
     .have:min (max n 0) 20000=20000:=by omega
      simp[dR,h2,h3,this]
      first|rfl|(refine⟨_,mw,?_⟩;rfl)|(refine⟨_,mw,?_⟩;simp;done)|(refine⟨_,mw,?_⟩;simp;rfl)
     .have:min (max n 0) 20000=n:=by omega
      simp[dR,h2,h3,this];exact⟨⟨_,mw⟩,rfl⟩
 .simp[h,nQ]
  try rfl
def bU (y m d:Int):Int:=if m<3 then 365*(y-1)+(y-1)/4-(y-1)/100+(y-1)/400+(153*(m+9)+2)/5+d-1-730425 else 365*y+y/4-y/100+y/400+(153*(m-3)+2)/5+d-1-730425
def TG (y m d:Int)(hy:1<=y/\y<=10000)(hm:1<=m/\m<=12)(hd:-1000<=d/\d<=1000):zF y m d=bU y m d:=by
 have w:∀x:Int,-1000000000<=x->x<=1000000000->i64.wrap x=x:=λx a b=>aW (by omega);have t:∀x y:Int,0<=x->x.tdiv y=x/y:=λx y hx=>AK hx;have h:ah T 216 [.int y,.int m,.int d] (.int (bU y m d)):=by
  refine .of_tree rfl PO W6 ?_;unfold bU;by_cases h3:m<3
  .simp[DX,h3];rw[w (y-1) (by omega) (by omega),w (m+12) (by omega) (by omega)];rw[w (m+12-3) (by omega) (by omega),w (365*(y-1)) (by omega) (by omega),w (153*(m+12-3)) (by omega) (by omega)];rw[w (153*(m+12-3)+2) (by omega) (by omega),t (y-1) 4 (by omega),t (y-1) 100 (by omega),t (y-1) 400 (by omega),t _ 5 (by omega)];rw[w ((y-1)/4) (by omega) (by omega),w ((y-1)/100) (by omega) (by omega),w ((y-1)/400) (by omega) (by omega),w ((153*(m+12-3)+2)/5) (by omega) (by omega)];rw[w (365*(y-1)+(y-1)/4) (by omega) (by omega),w (365*(y-1)+(y-1)/4-(y-1)/100) (by omega) (by omega),w (365*(y-1)+(y-1)/4-(y-1)/100+(y-1)/400) (by omega) (by omega)];rw[w (365*(y-1)+(y-1)/4-(y-1)/100+(y-1)/400+(153*(m+12-3)+2)/5) (by omega) (by omega),w (365*(y-1)+(y-1)/4-(y-1)/100+(y-1)/400+(153*(m+12-3)+2)/5+d) (by omega) (by omega),w (365*(y-1)+(y-1)/4-(y-1)/100+(y-1)/400+(153*(m+12-3)+2)/5+d-1) (by omega) (by omega),w _ (by omega) (by omega)];omega
  .simp[DX,h3];rw[w (m-3) (by omega) (by omega),w (365*y) (by omega) (by omega),w (153*(m-3)) (by omega) (by omega)];rw[w (153*(m-3)+2) (by omega) (by omega),t y 4 (by omega),t y 100 (by omega),t y 400 (by omega),t _ 5 (by omega)];rw[w (y/4) (by omega) (by omega),w (y/100) (by omega) (by omega),w (y/400) (by omega) (by omega),w ((153*(m-3)+2)/5) (by omega) (by omega)];rw[w (365*y+y/4) (by omega) (by omega),w (365*y+y/4-y/100) (by omega) (by omega),w (365*y+y/4-y/100+y/400) (by omega) (by omega)];rw[w (365*y+y/4-y/100+y/400+(153*(m-3)+2)/5) (by omega) (by omega),w (365*y+y/4-y/100+y/400+(153*(m-3)+2)/5+d) (by omega) (by omega),w (365*y+y/4-y/100+y/400+(153*(m-3)+2)/5+d-1) (by omega) (by omega),w _ (by omega) (by omega)]
 have h2:=h.det (CR y m d);simpa using h2.symm
def oC (K:Int):Int:=365*(K/12)+K/12/4-K/12/100+K/12/400+(153*(K%12)+2)/5-730425
def xg (y m d:Int)(hm:1<=m/\m<=12):bU y m d=oC (12*y+m-3)+d-1:=by
 unfold bU oC;by_cases h:m<3
 .rw[if_pos h];have e1:(12*y+m-3)/12=y-1:=by omega
  have e2:(12*y+m-3)%12=m+9:=by omega
  rw[e1,e2];omega
 .rw[if_neg h];have e1:(12*y+m-3)/12=y:=by omega
  have e2:(12*y+m-3)%12=m-3:=by omega
  rw[e1,e2];omega
def avJ (K:Int)(hK:0<=K):oC K+28<=oC (K+1):=by
 unfold oC;by_cases h:K%12=11
 .have e1:(K+1)/12=K/12+1:=by omega
  have e2:(K+1)%12=0:=by omega
  rw[e1,e2,h];generalize K/12=Y;omega
 .have e1:(K+1)/12=K/12:=by omega
  have e2:(K+1)%12=K%12+1:=by omega
  rw[e1,e2];generalize K/12/4=a;generalize K/12/100=b;generalize K/12/400=c;omega
def aeP (K:Int)(hK:0<=K):∀n:Nat,oC K+28*n<=oC (K+n)
 |0=>by simp
 |n+1=>by
  have h1:=aeP K hK n;have h2:=avJ (K+n) (by omega);have e:K+((n+1:Nat):Int)=K+n+1:=by omega
  rw[e];omega
def avI (y m:Int)(hy:1<=y/\y<=9000)(hm:1<=m/\m<=12):uK y m=oC (12*y+m-3+1)-oC (12*y+m-3):=by
 unfold uK;by_cases h:m=12
 .rw[if_pos h];subst h;unfold oC;have e1:(12*y+12-3)/12=y:=by omega
  have e2:(12*y+12-3)%12=9:=by omega
  have e3:(12*y+12-3+1)/12=y:=by omega
  have e4:(12*y+12-3+1)%12=10:=by omega
  rw[e1,e2,e3,e4];omega
 .rw[if_neg h];have w1:i64.wrap (m+1)=m+1:=aW (by omega);rw[w1,TG y (m+1) 1 (by omega) (by omega) (by omega),TG y m 1 (by omega) (by omega) (by omega),xg _ _ _ (by omega),xg _ _ _ (by omega)];have e:12*y+(m+1)-3=12*y+m-3+1:=by omega
  rw[e];have hb:∀K:Int,0<=K->K<=200000->-10000000<=oC K/\oC K<=10000000:=by
   intro K h1 h2;unfold oC;omega
  have b1:=hb (12*y+m-3+1) (by omega) (by omega);have b2:=hb (12*y+m-3) (by omega) (by omega);rw[aW (by omega)];omega
def aa3 (R:Int)(hR:0<=R/\R<146097):(0<=(R-R/1460+R/36524-R/146096)/365/\(R-R/1460+R/36524-R/146096)/365<=399)/\
 0<=R-(365*((R-R/1460+R/36524-R/146096)/365)+(R-R/1460+R/36524-R/146096)/365/4-(R-R/1460+R/36524-R/146096)/365/100)/\
 R-(365*((R-R/1460+R/36524-R/146096)/365)+(R-R/1460+R/36524-R/146096)/365/4-(R-R/1460+R/36524-R/146096)/365/100)<=365:=by
 by_cases h4:R=146096
 .subst h4;decide
 have hc:R/146096=0:=by omega
 have hb:R/36524=0\/R/36524=1\/R/36524=2\/R/36524=3:=by omega
 obtain⟨b,RB⟩:∃b,b=R/36524:=⟨_,rfl⟩
 obtain⟨u,hu⟩:∃u,u=(R-36524*b)/1461:=⟨_,rfl⟩
 obtain⟨w,hw⟩:∃w,w=R-36524*b-1461*u:=⟨_,rfl⟩
 have cB:0<=b/\b<=3:=by omega
 have dk:0<=w/\w<=1460:=by omega
 have hu2:0<=u/\u<=24:=by omega
 have pw:R=36524*b+1461*u+w:=by omega
 rw[hc,<-RB];obtain⟨a,ha⟩:∃a,a=R/1460:=⟨_,rfl⟩
 rw[<-ha];have key:∀k:Int,0<=k->k<=3->365*k<=w->(k<3->w<365*k+365)->(R-a+b-0)/365=100*b+4*u+k:=by
  intro k k0 k3 h1 h2;by_cases hk:k=3
  .subst hk;have:a=25*b+u\/a=25*b+u+1:=by omega
   rcases this with e|e
   .by_cases hw3:w=1460
    .omega
    .omega
   .omega
  .have:=h2 (by omega);have e:a=25*b+u:=by omega
   omega
 have hk:∃k:Int,0<=k/\k<=3/\365*k<=w/\(k<3->w<365*k+365):=by
  by_cases h1:w<365
  .exact⟨0,by omega⟩
  by_cases h2:w<730
  .exact⟨1,by omega⟩
  by_cases h3:w<1095
  .exact⟨2,by omega⟩
  .exact⟨3,by omega⟩
 obtain⟨k,k0,k3,h1,h2⟩:=hk;rw[key k k0 k3 h1 h2];have e1:(100*b+4*u+k)/4=25*b+u:=by omega
 have e2:(100*b+4*u+k)/100=b:=by omega
 rw[e1,e2];refine⟨by omega,by omega,?_⟩;by_cases sG:k=3
 .subst sG;omega
 .have:=h2 (by omega);omega
def E2 (n:Int)(h:0<=n/\n<=100400):(1<=(bD n).2.1/\(bD n).2.1<=12)/\(1<=(bD n).2.2/\(bD n).2.2<=31)/\(1000<=(bD n).1/\(bD n).1<=3000)/\bU (bD n).1 (bD n).2.1 (bD n).2.2=n:=by
 unfold bD;simp only[];obtain⟨R,pw⟩:∃R,R=(n+730425)%146097:=⟨_,rfl⟩
 obtain⟨E,FG⟩:∃E,E=(n+730425)/146097:=⟨_,rfl⟩
 have hn:n=146097*E+R-730425:=by omega
 have hE:E=4\/E=5:=by omega
 have hR:0<=R/\R<146097:=by omega
 rw[<-pw,<-FG];clear pw FG;obtain⟨⟨y0,y1⟩,d0,d1⟩:=aa3 R hR;generalize (R-R/1460+R/36524-R/146096)/365=Y at*;obtain⟨D,hD⟩:∃D,D=R-(365*Y+Y/4-Y/100):=⟨_,rfl⟩
 rw[<-hD] at d0 d1 ⊢;obtain⟨M,hM⟩:∃M,M=(5*D+2)/153:=⟨_,rfl⟩
 rw[<-hM];have hM2:0<=M/\M<=11:=by omega
 have RL:1<=D-(153*M+2)/5+1/\D-(153*M+2)/5+1<=31:=by omega
 have q4:(Y+400*E)/4=Y/4+100*E:=by omega
 have ahj:(Y+400*E)/100=Y/100+4*E:=by omega
 have ahk:(Y+400*E)/400=E:=by omega
 by_cases ng:12<M+3
 .rw[if_pos ng];have h3:M+3-12<3:=by omega
  rw[if_pos h3];refine⟨by omega,RL,by omega,?_⟩;unfold bU;rw[if_pos h3];have e:Y+400*E+1-1=Y+400*E:=by omega
  have e2:M+3-12+9=M:=by omega
  rw[e,e2,q4,ahj,ahk];omega
 .rw[if_neg ng];have h3:¬M+3<3:=by omega
  rw[if_neg h3];refine⟨by omega,RL,by omega,?_⟩;unfold bU;rw[if_neg h3];have e2:M+3-3=M:=by omega
  rw[e2,q4,ahj,ahk];omega
def uJ (y:Int):Bool:=decide (y%4=0)&&(!decide (y%100=0)||decide (y%400=0))
def GM (y:Int):uJ y=true↔y%4=0/\(y%100≠0\/y%400=0):=by
 simp[uJ]
def eR (y m:Int):Int:=if m=2 then(if uJ y=true then 29 else 28) else if m=4\/m=6\/m=9\/m=11 then 30 else 31
def lz (y:Int):Int:=if uJ y=true then 366 else 365
def GN (y m:Int):28<=eR y m/\eR y m<=31:=by
 unfold eR
 repeat' split
 all_goals omega
def ang (R:Int)(hR:0<=R/\R<146097):R-(365*((R-R/1460+R/36524-R/146096)/365)+(R-R/1460+R/36524-R/146096)/365/4-(R-R/1460+R/36524-R/146096)/365/100)<=364\/
 (((R-R/1460+R/36524-R/146096)/365+1)%4=0/\(((R-R/1460+R/36524-R/146096)/365+1)%100≠0\/((R-R/1460+R/36524-R/146096)/365+1)%400=0)):=by
 by_cases h4:R=146096
 .subst h4;decide
 have hc:R/146096=0:=by omega
 have hb:R/36524=0\/R/36524=1\/R/36524=2\/R/36524=3:=by omega
 obtain⟨b,RB⟩:∃b,b=R/36524:=⟨_,rfl⟩
 obtain⟨u,hu⟩:∃u,u=(R-36524*b)/1461:=⟨_,rfl⟩
 obtain⟨w,hw⟩:∃w,w=R-36524*b-1461*u:=⟨_,rfl⟩
 have cB:0<=b/\b<=3:=by omega
 have dk:0<=w/\w<=1460:=by omega
 have hu2:0<=u/\u<=24:=by omega
 have pw:R=36524*b+1461*u+w:=by omega
 rw[hc,<-RB];obtain⟨a,ha⟩:∃a,a=R/1460:=⟨_,rfl⟩
 rw[<-ha];have key:∀k:Int,0<=k->k<=3->365*k<=w->(k<3->w<365*k+365)->(R-a+b-0)/365=100*b+4*u+k:=by
  intro k k0 k3 h1 h2;by_cases hk:k=3
  .subst hk;have:a=25*b+u\/a=25*b+u+1:=by omega
   rcases this with e|e
   .by_cases hw3:w=1460
    .omega
    .omega
   .omega
  .have:=h2 (by omega);have e:a=25*b+u:=by omega
   omega
 have hk:∃k:Int,0<=k/\k<=3/\365*k<=w/\(k<3->w<365*k+365):=by
  by_cases h1:w<365
  .exact⟨0,by omega⟩
  by_cases h2:w<730
  .exact⟨1,by omega⟩
  by_cases h3:w<1095
  .exact⟨2,by omega⟩
  .exact⟨3,by omega⟩
 obtain⟨k,k0,k3,h1,h2⟩:=hk;rw[key k k0 k3 h1 h2];have e1:(100*b+4*u+k)/4=25*b+u:=by omega
 have e2:(100*b+4*u+k)/100=b:=by omega
 rw[e1,e2];by_cases sG:k=3
 .subst sG;by_cases aHr:u=24
  .left;omega
  .right;omega
 .have:=h2 (by omega);left;omega
def aa1 (n:Int)(h:0<=n/\n<=100400):(bD n).2.2<=eR (bD n).1 (bD n).2.1:=by
 unfold bD;simp only[];obtain⟨R,pw⟩:∃R,R=(n+730425)%146097:=⟨_,rfl⟩
 obtain⟨E,FG⟩:∃E,E=(n+730425)/146097:=⟨_,rfl⟩
 have hR:0<=R/\R<146097:=by omega
 rw[<-pw,<-FG];clear pw FG;obtain⟨⟨y0,y1⟩,d0,d1⟩:=aa3 R hR;have jJ:=ang R hR;generalize (R-R/1460+R/36524-R/146096)/365=Y at*;obtain⟨D,hD⟩:∃D,D=R-(365*Y+Y/4-Y/100):=⟨_,rfl⟩
 rw[<-hD] at d0 d1 jJ ⊢;obtain⟨M,hM⟩:∃M,M=(5*D+2)/153:=⟨_,rfl⟩
 rw[<-hM];have hM2:0<=M/\M<=11:=by omega
 by_cases ng:12<M+3
 .rw[if_pos ng,if_pos (by omega)];have hm:M=10\/M=11:=by omega
  rcases hm with hm|hm
  .subst hm;unfold eR;rw[if_neg (by omega),if_neg (by omega)];omega
  .subst hm;unfold eR;rw[if_pos (by omega)];split
   .omega
   .rename_i hl;have dL:¬uJ (Y+400*E+1)=true:=hl;rw[GM] at dL;omega
 .rw[if_neg ng,if_neg (by omega)];unfold eR;rw[if_neg (by omega)];split<;>omega
def MQ (y:Int)(hy:1<=y):bU (y+1) 1 1=bU y 1 1+lz y:=by
 unfold bU lz;rw[if_pos (by omega),if_pos (by omega)];have e:y+1-1=y:=by omega
 rw[e];split
 .rename_i h;rw[GM] at h;omega
 .rename_i h;rw[GM] at h;omega
def MO (y m:Int)(hm:1<=m/\m<=11)(hy:1<=y):bU y (m+1) 1=bU y m 1+eR y m:=by
 unfold bU eR;by_cases h1:m=1
 .subst h1;simp;omega
 by_cases h2:m=2
 .subst h2;rw[if_neg (by omega),if_pos (by omega),if_pos rfl];split
  .rename_i h;rw[GM] at h;omega
  .rename_i h;rw[GM] at h;omega
 .rw[if_neg (by omega),if_neg (by omega),if_neg h2];have:m=3\/m=4\/m=5\/m=6\/m=7\/m=8\/m=9\/m=10\/m=11:=by omega
  rcases this with h|h|h|h|h|h|h|h|h<;>subst h<;>simp<;>omega
def TF (y:Int)(hy:1<=y):bU (y+1) 1 1=bU y 12 1+31:=by
 unfold bU;rw[if_pos (by omega),if_neg (by omega)];have e:y+1-1=y:=by omega
 rw[e];omega
def uN (a b:Int)(h:a<=b):bU a 1 1<=bU b 1 1:=by
 unfold bU;rw[if_pos (by omega),if_pos (by omega)];omega
def TE (y m d:Int):bU y m d=bU y m 1+d-1:=by
 unfold bU;split<;>omega
def xf (y:Int)(hy:1<=y)(a b:Int)(ha:1<=a)(hb:b<=12)(h:a<=b):bU y a 1<=bU y b 1:=by
 rw[xg y a 1 (by omega),xg y b 1 (by omega)];have:=aeP (12*y+a-3) (by omega) (b-a).toNat;have e:((b-a).toNat:Int)=b-a:=by omega
 rw[e] at this;have e2:12*y+a-3+(b-a)=12*y+b-3:=by omega
 rw[e2] at this;omega
def QL (n:Int)(h:0<=n/\n<=100000):2000<=(bD n).1/\(bD n).1<=2300/\bU (bD n).1 1 1<=n/\n<bU ((bD n).1+1) 1 1:=by
 obtain⟨hm,hd,hy,hn⟩:=E2 n (by omega);have hl:=aa1 n (by omega);generalize (bD n).1=y at*;generalize (bD n).2.1=m at*;generalize (bD n).2.2=d at*;have e:=TE y m d;have h1:=xf y (by omega) 1 m (by omega) (by omega) (by omega);have h2:=xf y (by omega) m 12 (by omega) (by omega) (by omega);have h3:=TF y (by omega);have h5:n<bU (y+1) 1 1:=by
  by_cases ng:m=12
  .subst ng;omega
  .have h4:=MO y m (by omega) (by omega);have h6:=xf y (by omega) (m+1) 12 (by omega) (by omega) (by omega);omega
 refine⟨?_,?_,by omega,h5⟩
 .refine vB λhc=>?_;have:=uN (y+1) 2000 (by omega);have e0:bU 2000 1 1=0:=by decide
  omega
 .refine vB λhc=>?_;have:=uN 2301 y (by omega);have e0:bU 2301 1 1=109938:=by decide
  omega
def p5 (n:Int):ah T 92 [.int n] (.bool (bz n)):=by
 refine zyw 148 aAa ?_;simp[Xs];by_cases h1:0<=n<;>by_cases h2:n<=100000<;>simp[h1,h2,bz]
def U3 (y:Int)(hy:0<=y):ah T 207 [.int y] (.bool (uJ y)):=by
 refine zyw 155 aAd ?_;have t4:y.tmod 4=y%4:=xW hy;have t100:y.tmod 100=y%100:=xW hy;have azb:y.tmod 400=y%400:=xW hy;unfold uJ;by_cases h1:y%4=0<;>by_cases h2:y%100=0<;>by_cases h3:y%400=0<;>simp[Xv,t4,t100,azb,h1,h2,h3]
def U1 (y:Int)(hy:0<=y):ah T 206 [.int y] (.int (lz y)):=by
 refine zyw 154 aAb ?_;simp[Xt];refine⟨_,U3 y hy,?_⟩;unfold lz;cases h:uJ y<;>simp[h]
def Hm (y m:Int)(hy:0<=y):ah T 170 [.int y,.int m] (.int (eR y m)):=by
 refine zyw 156 az7 ?_;unfold eR;by_cases h2:m=2
 .simp[OR,h2];refine⟨_,U3 y hy,?_⟩;cases h:uJ y<;>simp[h]
 .simp[OR,h2];have hr:=U3 y hy;by_cases h4:m=4\/m=6\/m=9\/m=11
  .have pv:((m=4\/m=6)\/m=9)\/m=11:=by omega
   simp[pv]
   first|omega|(refine⟨⟨_,hr⟩,?_⟩;omega)
  .have pv:¬(((m=4\/m=6)\/m=9)\/m=11):=by omega
   simp[pv]
   first|omega|(refine⟨⟨_,hr⟩,?_⟩;omega)
def ahJ (n:Int):ah T 168 [.int n] (if bz n=true then .tup [.int (bD n).1,.int (bD n).2.1,.int (bD n).2.2,.int 0] else .tup [.int 0,.int 0,.int 0,.int 3]):=by
 refine zyw 153 az5 ?_;simp[Xo];refine⟨_,p5 n,?_⟩;cases hd:bz n
 .simp
 have hn:0<=n/\n<=100000:=by simpa [bz] using hd
 obtain⟨hm,wk,hy,Ge⟩:=E2 n (by omega);have hl:=aa1 n (by omega);obtain⟨y0,y1,yl,yu⟩:=QL n hn;generalize (bD n).1=y at*;generalize (bD n).2.1=m at*;generalize (bD n).2.2=d at*;have he:=TE y m d;have hY:=MQ y (by omega);simp;refine aN.forRounds (y-2000).toNat (λk=>[.int (2000+(k:Int)),.int (n-bU (2000+(k:Int)) 1 1)]) (λ_=>[]) ?_ (λk hk=>?_) ?_
 .have:bU 2000 1 1=0:=by decide
  simp[this]
 .have h1:=MQ (2000+(k:Int)) (by omega);have h2:=uN (2000+(k:Int)+1) y (by omega);have h3:=uN 2000 (2000+(k:Int)) (by omega);have h4:bU 2000 1 1=0:=by decide
  have Mo:365<=lz (2000+(k:Int))/\lz (2000+(k:Int))<=366:=by unfold lz;split<;>omega
  have hr:=U1 (2000+(k:Int)) (by omega);have e:(2000+((k+1:Nat):Int))=2000+(k:Int)+1:=by omega
  have hw:i64.wrap (2000+(k:Int)+1)=2000+(k:Int)+1:=aW (by omega);have dk:i64.wrap (n-bU (2000+(k:Int)) 1 1-lz (2000+(k:Int)))=n-bU (2000+(k:Int)+1) 1 1:=by rw[aW (by omega)];omega
  rw[e];have eQ:lz (2000+(k:Int))<=n-bU (2000+(k:Int)) 1 1:=by omega
  generalize 2000+(k:Int)=Y at*;simp[aij,NT];refine⟨_,hr,?_⟩;simp[eQ];refine⟨_,hr,?_⟩;simp[hw,dk]
 .have e:(2000+(((y-2000).toNat:Nat):Int))=y:=by omega
  have hr:=U1 y (by omega);have ak:¬lz y<=n-bU y 1 1:=by omega
  rw[e];simp[aij,NT];refine⟨_,hr,?_⟩;simp[ak];refine⟨by omega,?_⟩;refine aN.forRounds (m-1).toNat (λk=>[.int (n-bU y (k+1) 1),.int ((k:Int)+1)]) (λ_=>[]) ?_ (λk hk=>?_) ?_
  .simp
  .have h1:=MO y ((k:Int)+1) (by omega) (by omega);have h2:=xf y (by omega) ((k:Int)+1+1) m (by omega) (by omega) (by omega);have h3:=xf y (by omega) 1 ((k:Int)+1) (by omega) (by omega) (by omega);have h4:=GN y ((k:Int)+1);have h5:=uN 2000 y (by omega);have h6:bU 2000 1 1=0:=by decide
   have hr:=Hm y ((k:Int)+1) (by omega);have e:(((k+1:Nat):Int)+1)=(k:Int)+1+1:=by omega
   have hw:i64.wrap ((k:Int)+1+1)=(k:Int)+1+1:=aW (by omega);have dk:i64.wrap (n-bU y ((k:Int)+1) 1-eR y ((k:Int)+1))=n-bU y ((k:Int)+1+1) 1:=by rw[aW (by omega)];omega
   have eQ:eR y ((k:Int)+1)<=n-bU y ((k:Int)+1) 1:=by omega
   rw[e];generalize (k:Int)+1=M at*;simp[aik,NU];refine⟨_,hr,?_⟩;simp[eQ];refine⟨_,hr,?_⟩;simp[hw,dk]
  .have e:((((m-1).toNat:Nat):Int)+1)=m:=by omega
   have hr:=Hm y m (by omega);have ak:¬eR y m<=n-bU y m 1:=by omega
   have hw:i64.wrap (n-bU y m 1+1)=d:=by rw[aW (by omega)];omega
   rw[e];simp[aik,NU];refine⟨_,hr,?_⟩;simp[ak,hw]
   try omega
def U2 (l:List Int)(n:Int)(hl:l.length<=4294967296):ah T 208 [ints l,.int n] (.bool (l.contains n)):=by
 refine zyw 161 aAc ?_;simp[Xu];refine .scan l.length (λk=>l.getD k 0≠n) (λk=>[.bool false,.int k]) (λ_=>[]) ?_ (λk hk hj ho=>?_) (λk hk hj ho=>?_) (λhj=>?_)
 .simp
 .have hw:=bu hk hl;simp[hk] at ho;simp[Vo,HF,hk,hw,ho,ints]
 .simp[hk] at ho;have:n∈l:=by rw[<-ho];exact bW hk
  simp[Vo,HF,hk,ho,ints,this]
 .have:¬n∈l:=by
   intro h;obtain⟨k,hk,h⟩:=lE h;exact hj k hk (by simp[hk,h])
  simp[Vo,HF,ints,this]
def qH (y m d:Int):Bool:=decide (2000<=y/\y<=2300/\1<=m/\m<=12/\1<=d/\d<=eR y m)
def sl (y m d:Int):Int×Int:=if qH y m d=true/\bz (bU y m d)=true then(bU y m d,0) else(0,3)
def axd (y m d:Int)(hy:0<=y):ah T 169 [.int y,.int m,.int d] (.tup [.int (sl y m d).1,.int (sl y m d).2]):=by
 have hl:=Hm y m hy;refine zyw 157 az6 ?_;unfold sl;simp[Xp];by_cases h0:2000<=y/\y<=2300/\1<=m/\m<=12/\1<=d
 .obtain⟨a1,a2,a3,a4,a5⟩:=h0;have b1:¬y<2000:=by omega
  have b2:¬2300<y:=by omega
  have b3:¬m<1:=by omega
  have b4:¬12<m:=by omega
  have b5:¬d<1:=by omega
  have hlb:=GN y m;by_cases h6:d<=eR y m
  .have nk:qH y m d=true:=by simp[qH];omega
   have b6:¬eR y m<d:=by omega
   rw[nk];simp[b1,b2,b3,b4,b5];rw[if_pos ⟨⟨⟨⟨a1,a2⟩,a3⟩,a4⟩,a5⟩];refine⟨_,hl,?_⟩;have oq:i64.wrap (d-1)=d-1:=aW (by omega);have aqs:bU 2000 1 1=0:=by decide
   have wQ:=uN 2000 y (by omega);have hyu:=uN y 2300 (by omega);have aHw:bU 2300 1 1=109573:=by decide
   simp[b6,oq];refine aN.forRounds (y-2000).toNat (λk=>[.int (d-1+bU (2000+(k:Int)) 1 1),.int (2000+(k:Int))]) (λ_=>[]) ?_ (λk hk=>?_) ?_
   .simp[aqs,oq]
   .have h1:=MQ (2000+(k:Int)) (by omega);have h2:=uN (2000+(k:Int)+1) y (by omega);have h3:=uN 2000 (2000+(k:Int)) (by omega);have Mo:365<=lz (2000+(k:Int))/\lz (2000+(k:Int))<=366:=by unfold lz;split<;>omega
    have hr:=U1 (2000+(k:Int)) (by omega);have e:(2000+((k+1:Nat):Int))=2000+(k:Int)+1:=by omega
    have hw:i64.wrap (2000+(k:Int)+1)=2000+(k:Int)+1:=aW (by omega);have dk:i64.wrap (d-1+bU (2000+(k:Int)) 1 1+lz (2000+(k:Int)))=d-1+bU (2000+(k:Int)+1) 1 1:=by rw[aW (by omega)];omega
    have ak:2000+(k:Int)<y:=by omega
    rw[e];generalize 2000+(k:Int)=Y at*;simp[ail,NV,ak];refine⟨_,hr,?_⟩;simp[hw,dk]
   .have e:(2000+(((y-2000).toNat:Nat):Int))=y:=by omega
    rw[e];simp[ail,NV];refine aN.forRounds (m-1).toNat (λk=>[.int (d-1+bU y ((k:Int)+1) 1),.int ((k:Int)+1)]) (λ_=>[]) ?_ (λk hk=>?_) ?_
    .simp
    .have h1:=MO y ((k:Int)+1) (by omega) (by omega);have h2:=xf y (by omega) ((k:Int)+1+1) m (by omega) (by omega) (by omega);have h3:=xf y (by omega) 1 ((k:Int)+1) (by omega) (by omega) (by omega);have gQ:=xf y (by omega) ((k:Int)+1) 12 (by omega) (by omega) (by omega);have aGV:=TF y (by omega);have aGW:=MQ y (by omega);have Mo:365<=lz y/\lz y<=366:=by unfold lz;split<;>omega
     have h4:=GN y ((k:Int)+1);have hr:=Hm y ((k:Int)+1) (by omega);have e:(((k+1:Nat):Int)+1)=(k:Int)+1+1:=by omega
     have hw:i64.wrap ((k:Int)+1+1)=(k:Int)+1+1:=aW (by omega);have dk:i64.wrap (d-1+bU y ((k:Int)+1) 1+eR y ((k:Int)+1))=d-1+bU y ((k:Int)+1+1) 1:=by rw[aW (by omega)];omega
     have ak:(k:Int)+1<m:=by omega
     rw[e];generalize (k:Int)+1=M at*;simp[aim,NW,ak];refine⟨_,hr,?_⟩;simp[hw,dk]
    .have e:((((m-1).toNat:Nat):Int)+1)=m:=by omega
     have en:d-1+bU y m 1=bU y m d:=by have:=TE y m d;omega
     rw[e,en];simp[aim,NW];refine⟨_,p5 _,?_⟩;cases hv:bz (bU y m d)<;>simp[hv]
  .have nk:qH y m d=false:=by simp[qH];omega
   have b6:eR y m<d:=by omega
   rw[nk];simp[b1,b2,b3,b4,b5];rw[if_pos ⟨⟨⟨⟨a1,a2⟩,a3⟩,a4⟩,a5⟩];refine⟨_,hl,?_⟩;simp[b6];intro h;omega
 .have nk:qH y m d=false:=by simp[qH];omega
  have Cf:(((y<2000\/2300<y)\/m<1)\/12<m)\/d<1:=by omega
  rw[nk];simp[Cf];intro _ _ _ _ _;exact⟨_,hl⟩
def vN (n k:Int):Int×Int:=
 if 12*(bD n).1+(bD n).2.1-1+k<24000 then(0,3)
 else sl ((12*(bD n).1+(bD n).2.1-1+k)/12) ((12*(bD n).1+(bD n).2.1-1+k)%12+1) (min (bD n).2.2 (eR ((12*(bD n).1+(bD n).2.1-1+k)/12) ((12*(bD n).1+(bD n).2.1-1+k)%12+1)))
def axc (n k:Int):ah T 141 [.int n,.int k] (if bz n=false\/k< -5000\/5000<k then .tup [.int 0,.int 3] else .tup [.int (vN n k).1,.int (vN n k).2]):=by
 have hD:=ahJ n;refine zyw 152 az4 ?_;simp[Xn];refine⟨_,hD,?_⟩;cases hd:bz n
 .simp
 by_cases hk:k< -5000\/5000<k
 .simp[hk];intro h1 h2;omega
 have hn:0<=n/\n<=100000:=by simpa [bz] using hd
 obtain⟨hm,wk,hy,Ge⟩:=E2 n (by omega);obtain⟨y0,y1,yl,yu⟩:=QL n hn;unfold vN;generalize (bD n).1=y at*;generalize (bD n).2.1=m at*;generalize (bD n).2.2=d at*;obtain⟨A,hA⟩:∃A,A=12*y+m-1+k:=⟨_,rfl⟩
 have wA:i64.wrap (i64.wrap (i64.wrap (i64.wrap (12*y)+m)-1)+k)=A:=by
  rw[aW (n:=12*y) (by omega),aW (n:=12*y+m) (by omega),aW (n:=12*y+m-1) (by omega),aW (by omega)];exact hA.symm
 rw[<-hA];simp[hk,wA];by_cases h24:A<24000
 .simp[h24]
 have wY:i64.wrap (A.tdiv 12)=A/12:=by rw[AK (by omega)];exact aW (by omega)
 have wM:i64.wrap (A.tmod 12+1)=A%12+1:=by rw[xW (by omega)];exact aW (by omega)
 simp[h24,wY,wM];refine⟨_,Hm _ _ (by omega),?_⟩;have lT:(if eR (A/12) (A%12+1)<d then D.int (eR (A/12) (A%12+1)) else D.int d)=D.int (min d (eR (A/12) (A%12+1))):=by
  split
  .rw[Z1 (by omega)]
  .rw[Z0 (by omega)]
 simp
 try rw[lT]
 refine⟨_,axd _ _ _ (by omega),?_⟩;simp
def ahK (c:City)(hc:xC c)(n:Int)(hn:0<=n/\n<=100400):ah T 171 [gy c,.int n] (if bz n=true then .tup [.bool (nw c.rest c.feasts c.shut n),.int 0] else .tup [.bool false,.int 3]):=by
 have hD:=ahJ n;refine zyw 160 az9 ?_;simp[Xr];refine⟨_,hD,?_⟩;cases hd:bz n
 .simp
 obtain⟨hm,wk,hy,Ge⟩:=E2 n hn;obtain⟨h1,h2,h3⟩:=hc;unfold nw;generalize (bD n).1=y at*;generalize (bD n).2.1=m at*;generalize (bD n).2.2=d at*;have w1:i64.wrap (n+5)=n+5:=aW (by omega);have w2:(n+5).tmod 7=(n+5)%7:=xW (by omega);have w3:i64.wrap (100*m)=100*m:=aW (by omega);have w4:i64.wrap (100*m+d)=100*m+d:=aW (by omega);have r1:=U2 c.rest ((n+5)%7) (by omega);have r2:=U2 c.feasts (100*m+d) (by omega);have r3:=U2 c.shut n (by omega);simp[w1,w2,w3,w4];refine⟨_,r1,?_⟩;by_cases e1:(n+5)%7∈c.rest
 .simp[e1]
  try exact⟨⟨_,r2⟩,⟨_,r3⟩⟩
 simp[e1];refine⟨_,r2,?_⟩;by_cases e2:100*m+d∈c.feasts
 .simp[e2]
  try exact⟨_,r3⟩
 simp[e2];refine⟨_,r3,?_⟩;by_cases e3:n∈c.shut<;>simp[e3]
def avW (c:City)(d:Int)(k:Nat)(hd:bz d=true)(hk:k<=400)(h1:d+k<=100000)(h2:nw c.rest c.feasts c.shut (d+k)=true)(h3:∀j:Nat,j<k->nw c.rest c.feasts c.shut (d+j)=false):dh c d=(d+k,0):=by
 have ej:0<=d/\d<=100000:=by simpa [bz] using hd
 unfold dh;rw[if_neg (by rw[hd];decide)];obtain⟨N,hN⟩:∃N,N=(kU d-d+1).toNat:=⟨_,rfl⟩
 have hkN:k<N:=by
  unfold kU at hN;split at hN<;>omega
 rw[<-hN];have:(eE c d N).head?=some (d+k):=by
  unfold eE;rw[List.head?_filter,List.find?_map]
  rw[show(List.range N).find? ((nw c.rest c.feasts c.shut)∘λ(i:Nat)=>d+i)=some k from by
   rw[List.find?_range_eq_some];refine⟨h2,by simpa using hkN,λj hj=>?_⟩;simp[h3 j hj]]
  rfl
 cases hk:eE c d N with
 |nil=>rw[hk] at this;cases this
 |cons x l=>
  rw[hk] at this;injection this with this
  simp[this]
def avY (c:City)(d:Int)(hd:bz d=true)(h3:∀j:Nat,j<=400->d+j<=100000->nw c.rest c.feasts c.shut (d+j)=false):dh c d=(0,3):=by
 have ej:0<=d/\d<=100000:=by simpa [bz] using hd
 unfold dh;rw[if_neg (by rw[hd];decide)];have:eE c d (kU d-d+1).toNat=[]:=by
  unfold eE;rw[Z9];intro x hx;obtain⟨j,hj,rfl⟩:=dW.1 hx;have bf:=cw.1 hj;have:j<=400/\d+j<=100000:=by unfold kU at bf;split at bf<;>omega
  rw[h3 j this.1 this.2];decide
 rw[this]
def axe (c:City)(hc:xC c)(d:Int):ah T 142 [gy c,.int d] (.tup [.int (dh c d).1,.int (dh c d).2]):=by
 refine zyw 159 az8 ?_;simp[Xq];refine⟨_,p5 d,?_⟩;cases hd:bz d
 .simp[dh,hd]
 have ej:0<=d/\d<=100000:=by simpa [bz] using hd
 simp;refine aN.scan 401 (λk=>(bz (d+k)&&nw c.rest c.feasts c.shut (d+k))=false) (λk=>[.int 0,.int 0,.int k]) (λ_=>[]) ?_ (λk hk hj ho=>?_) (λk hk hj ho=>?_) (λhj=>?_)
 .simp
 .have hw:=bu (k:=k) (n:=401) hk (by omega);have dk:i64.wrap (d+k)=d+k:=aW (by omega);have hr:=ahK c hc (d+k) (by omega);have hle:(k:Int)<=400:=by omega
  simp[Vn,HE,hle,dk];refine⟨_,hr,?_⟩;cases e1:bz (d+k)
  .simp[hw]
  .rw[e1] at ho;simp at ho;simp[ho,hw]
 .have dk:i64.wrap (d+k)=d+k:=aW (by omega);have hr:=ahK c hc (d+k) (by omega);have hle:(k:Int)<=400:=by omega
  simp at ho
  have hx:=avW c d k hd (by omega) (by have:=ho.1;simp[bz] at this;omega) ho.2 (λj bf=>by
   have h1:=hj j bf;have h2:bz (d+j)=true:=by have:=ho.1;simp[bz] at this ⊢;omega
   rw[h2] at h1;simpa using h1)
  rw[hx];simp[Vn,HE,hle,dk];refine⟨_,hr,?_⟩;simp[ho.1,ho.2]
 .have hx:=avY c d hd (λj bf aGT=>by
   have h1:=hj j (by omega);have h2:bz (d+j)=true:=by simp[bz];omega
   rw[h2] at h1;simpa using h1)
  rw[hx];simp[Vn,HE]
def oS (r:Realm)(o z:Int):Prop:=∃h,h∈r.halts/\(h.order=o/\h.fr<=z)/\z<=h.to
def WC (r:Realm)(o d:Int):∀k,k<=r.halts.length->∀z,d<=z->z<fX r o d k->oS r o z
 |0,_,z,h1,h2=>by simp[fX] at h2;omega
 |k+1,hk,z,h1,h2=>by
  rw[OD r o d (by omega)] at h2;unfold xB at h2;split at h2
  .rename_i hc;by_cases h3:z<fX r o d k
   .exact WC r o d k (by omega) z h1 h3
   .exact⟨_,bW (show k<r.halts.length by omega),⟨hc.1.1,by omega⟩,by omega⟩
  .exact WC r o d k (by omega) z h1 h2
def ajd {r:Realm}(o d:Int):∀k,k<=r.halts.length->d<=fX r o d k/\∀h,h∈r.halts.take k->(h.order=o/\h.fr<=d)/\d<=h.to->d<fX r o d k
 |0,_=>⟨by simp[fX],λh hh=>by simp at hh⟩
 |k+1,hk=>by
  obtain⟨h1,h2⟩:=ajd (r:=r) o d k (by omega);rw[OD r o d (by omega)];have eQ:fX r o d k<=xB o (fX r o d k) r.halts[k]:=by
   unfold xB;split<;>omega
  refine⟨by omega,λh hh hc=>?_⟩;rw[lG (by omega),dH] at hh;rcases hh with hh|hh
  .have:=h2 h hh hc;omega
  .have Cq:h=r.halts[k]:=by simpa using hh
   rw[Cq] at hc;by_cases he:fX r o d k=d
   .rw[he];unfold xB;rw[if_pos hc];omega
   .omega
def ay0 {r:Realm}{o x:Int}(h:fX r o x r.halts.length=x):¬oS r o x:=by
 rintro⟨b,hb,hc⟩;have:=(ajd (r:=r) o x r.halts.length (bj _)).2 b (by rw[Ec];exact hb) hc;omega
def aje {r:Realm}(hh:kK r)(o:Int):∀(n:Nat) (d:Int),d<=100001->(100002-d).toNat<=n->¬oS r o (tA r o n d)/\∀z,d<=z->z<tA r o n d->oS r o z
 |0,d,hd,hn=>by omega
 |n+1,d,hd,hn=>by
  obtain⟨h1,h2⟩:=OC hh o d hd r.halts.length (bj _);unfold tA;by_cases he:fX r o d r.halts.length=d
  .rw[if_pos he];exact⟨ay0 he,λz h1 h2=>by omega⟩
  .rw[if_neg he];obtain⟨g1,g2⟩:=aje hh o n (fX r o d r.halts.length) h2 (by omega);refine⟨g1,λz z1 z2=>?_⟩;by_cases hz:z<fX r o d r.halts.length
   .exact WC r o d _ (bj _) z z1 hz
   .exact g2 z (by omega) z2
def IQ {r:Realm}(hh:kK r)(o d:Int)(hd:d<=100001):(d<=eB r o d/\eB r o d<=100001)/\¬oS r o (eB r o d)/\∀z,d<=z->z<eB r o d->oS r o z:=
 ⟨WD hh o _ d hd,aje hh o _ d hd (bj _)⟩
def ay1 {r:Realm}(hh:kK r)(o d e:Int)(hd:d<=100001)(he:e<=100001)(LP:d<=e)(h:∀z,d<=z->z<e->oS r o z):eB r o d=eB r o e:=by
 obtain⟨⟨a1,a2⟩,a3,a4⟩:=IQ hh o d hd;obtain⟨⟨b1,b2⟩,b3,b4⟩:=IQ hh o e he;rcases Int.lt_trichotomy (eB r o d) (eB r o e) with ak|heq|uu
 .by_cases h1:eB r o d<e
  .exact absurd (h _ a1 h1) a3
  .exact absurd (b4 _ (by omega) ak) a3
 .exact heq
 .exact absurd (a4 _ (by omega) uu) b3
def ay2 {r:Realm}(hh:kK r)(o d:Int)(hd:d<=100001)(h:¬oS r o d):eB r o d=d:=by
 obtain⟨⟨a1,a2⟩,a3,a4⟩:=IQ hh o d hd;by_cases he:eB r o d=d
 .exact he
 .exact absurd (a4 d (by omega) (by omega)) h
def avX (c:City)(d:Int):(dh c d).2=0\/dh c d=(0,3):=by
 unfold dh;split
 .exact .inr rfl
 .split
  .exact .inr rfl
  .exact .inl rfl
def Ww {r:Realm}(hh:kK r)(c:City)(o:Int):∀(n m:Nat) (d:Int),d<=100001->(100002-d).toNat<=n->(100002-d).toNat<=m->qj r c o n d=qj r c o m d
 |0,_,d,hd,hn,_=>by omega
 |n+1,0,d,hd,_,hm=>by omega
 |n+1,m+1,d,hd,hn,hm=>by
  obtain⟨⟨a1,a2⟩,_⟩:=IQ hh o d hd;rw[Aq,Aq];by_cases h1:(dh c (eB r o d)).2=0
  .have hx:=ML h1;have n1:¬((dh c (eB r o d)).2≠0):=λe=>e h1;rw[if_neg n1,if_neg n1];by_cases h2:(dh c (eB r o d)).1=eB r o d
   .rw[if_pos h2,if_pos h2]
   .rw[if_neg h2,if_neg h2];exact Ww hh c o n m _ (by omega) (by omega) (by omega)
  .have n1:(dh c (eB r o d)).2≠0:=h1;rw[if_pos n1,if_pos n1]
def qh (r:Realm)(c:City)(o d:Int):Int×Int:=qj r c o (100002-d).toNat d
def ayR {r:Realm}(hh:kK r)(c:City)(o d e:Int)(hd:d<=100001)(he:e<=100001)(LP:d<=e)(h:∀z,d<=z->z<e->oS r o z):qh r c o d=qh r c o e:=by
 unfold qh;rw[Ww hh c o (100002-e).toNat (100002-d).toNat e he (by omega) (by omega)];obtain⟨n,hn⟩:∃n,(100002-d).toNat=n+1:=⟨(100002-d).toNat-1,by omega⟩
 rw[hn,Aq,Aq,ay1 hh o d e hd he LP h]
def ayS {r:Realm}(hh:kK r)(c:City)(o d:Int)(hd:d<=100001)(h:¬oS r o d):
 qh r c o d=if(dh c d).2≠0 then(0,3) else if(dh c d).1=d then(d,0) else qh r c o (dh c d).1:=by
 have e:qh r c o d=qj r c o (100002-d).toNat d:=rfl;obtain⟨n,hn⟩:∃n,(100002-d).toNat=n+1:=⟨(100002-d).toNat-1,by omega⟩
 rw[e,hn,Aq,ay2 hh o d hd h];by_cases h1:(dh c d).2=0
 .have hx:=ML h1;have n1:¬((dh c d).2≠0):=λe=>e h1;rw[if_neg n1,if_neg n1];by_cases h2:(dh c d).1=d
  .rw[if_pos h2,if_pos h2]
  .rw[if_neg h2,if_neg h2];exact Ww hh c o _ _ _ (by omega) (by omega) (by omega)
 .have n1:(dh c d).2≠0:=h1;rw[if_pos n1,if_pos n1]
def ayQ {r:Realm}(hh:kK r)(c:City)(o d:Int)(hd:d<=100001)(h:100000<d):qh r c o d=(0,3):=by
 obtain⟨⟨a1,a2⟩,_⟩:=IQ hh o d hd;have e:qh r c o d=qj r c o (100002-d).toNat d:=rfl;obtain⟨n,hn⟩:∃n,(100002-d).toNat=n+1:=⟨(100002-d).toNat-1,by omega⟩
 rw[e,hn,Aq];have:dh c (eB r o d)=(0,3):=by
  unfold dh;rw[if_pos];simp[bz];omega
 rw[this];rfl
def Mu (o d:Int)(nx:Int)(h:Halt):Int:=if(h.order=o/\h.fr<=d)/\d<=h.to then max nx (h.to+1) else nx
def l6 (r:Realm)(o d:Int)(k:Nat):Int:=(r.halts.take k).foldl (Mu o d) d
def ad5 (r:Realm)(o d:Int){k:Nat}(hk:k<r.halts.length):l6 r o d (k+1)=Mu o d (l6 r o d k) r.halts[k]:=by
 unfold l6;rw[lG hk,Ea];rfl
def Mt {r:Realm}(hh:kK r)(o d:Int)(hd:d<=100001):∀k,k<=r.halts.length->(d<=l6 r o d k/\l6 r o d k<=100001)/\(∀z,d<=z->z<l6 r o d k->oS r o z)/\∀h,h∈r.halts.take k->(h.order=o/\h.fr<=d)/\d<=h.to->d<l6 r o d k
 |0,_=>⟨⟨by simp[l6],by simpa [l6] using hd⟩,λz h1 h2=>by simp[l6] at h2;omega,λh hm=>by simp at hm⟩
 |k+1,hk=>by
  obtain⟨⟨h1,h2⟩,h3,h4⟩:=Mt hh o d hd k (by omega);have hm:=bW (show k<r.halts.length by omega);have sL:=hh.2 _ hm;rw[ad5 r o d (by omega)];unfold Mu;by_cases hc:(r.halts[k].order=o/\r.halts[k].fr<=d)/\d<=r.halts[k].to
  .rw[if_pos hc];refine⟨by omega,λz z1 z2=>?_,λh bP nj=>by omega⟩;by_cases hz:z<l6 r o d k
   .exact h3 z z1 hz
   .exact⟨_,hm,⟨hc.1.1,by omega⟩,by omega⟩
  .rw[if_neg hc];refine⟨⟨h1,h2⟩,h3,λh bP nj=>?_⟩;rw[lG (by omega),dH] at bP;rcases bP with bP|bP
   .exact h4 h bP nj
   .have Cq:h=r.halts[k]:=by simpa using bP
    rw[Cq] at nj;exact absurd nj hc
def atK {r:Realm}(hh:kK r)(o d:Int)(hd:d<=100001)(h:l6 r o d r.halts.length=d):¬oS r o d:=by
 rintro⟨b,hb,hc⟩;have:=(Mt hh o d hd r.halts.length (bj _)).2.2 b (by rw[Ec];exact hb) hc;omega
def axs (r:Realm)(hh:kK r)(city d:Int)(hc:0<=city/\city<r.cities.length)(hs:∀c,c∈r.cities->xC c)(jK:r.cities.length<=100000)(h0:0<=d)(hd:d<=100001):ah T 96 [aU r,.int city,.int d] (.tup [.int (lq r city d).1,.int (lq r city d).2]):=by
 refine zyw 158 aAA ?_;simp[XQ];refine⟨_,NC r city jK,?_⟩;have bh:city.toNat<r.cities.length:=by omega
 have RG:r.cities.getD city.toNat default=r.cities[city.toNat]:=by simp[bh]
 have SF:=hs _ (bW bh);have hF:lq r city d=qh r r.cities[city.toNat] (cV r city) d:=by unfold lq qh;rw[RG]
 rw[hF];generalize cV r city=o at*;refine aN.forLoop (α:=Int) (λs vr vo=>vr=[.int s,.int 0,.int 0]/\vo=[]/\0<=s/\s<=100001/\qh r r.cities[city.toNat] o s=qh r r.cities[city.toNat] o d) (λs=>(100002-s).toNat) d ?_ ?_
 .simp;omega
 .rintro e vr vo ⟨rfl,rfl,h1,h2,h3⟩;by_cases he:e<=100000
  case neg=>
   have hx:=ayQ hh r.cities[city.toNat] o e h2 (by omega);rw[h3] at hx;rw[hx];simp[ain,N0,he]
  rw[<-h3];simp[ain,N0,he];refine aN.forRounds r.halts.length (λk=>[.int (l6 r o e k),.int k]) (λ_=>[]) ?_ (λk hk=>?_) ?_
  .simp[l6]
  .have hw:=bu hk (by have:=hh.1;omega);have dj:=(Mt hh o e h2 k (by omega)).1;have sL:=hh.2 _ (bW hk);rw[ad5 r o e hk];unfold Mu;generalize l6 r o e k=x at*;by_cases hc:(r.halts[k].order=o/\r.halts[k].fr<=e)/\e<=r.halts[k].to
   .have dk:i64.wrap (r.halts[k].to+1)=r.halts[k].to+1:=aW (by omega);simp[NZ,DB,hk,hw,hc,dk];split
    .rw[ZZ (by omega)]
    .rw[Pc (by omega)]
   .simp[NZ,DB,hk,hw,hc]
  .have hJ:=Mt hh o e h2 r.halts.length (bj _);have eH:=atK hh o e h2;generalize l6 r o e r.halts.length=x at*;by_cases hx:x=e
   .subst hx;have eH:=eH rfl;rw[ayS hh r.cities[city.toNat] o x h2 eH];have Cu:=axe r.cities[city.toNat] SF x;have oe:=ML (c:=r.cities[city.toNat]) (d:=x);have ac7:=avX r.cities[city.toNat] x;generalize dh r.cities[city.toNat] x=N at*;obtain⟨y,er⟩:=N;simp only at Cu oe ac7;simp[NZ,DB,bh,hc];refine⟨_,Cu,?_⟩;by_cases FV:er=0
    .obtain⟨g1,g2,g3⟩:=oe FV;by_cases hy:y=x
     .simp[FV,hy]
     .simp[FV,hy];have hyx:bz x=true:=g1;simp[bz] at hyx;exact⟨y,by omega,rfl,by omega,by omega,rfl⟩
    .have:er=3:=by
      rcases ac7 with h|h
      .exact absurd h FV
      .injection h
     simp[FV]
     try omega
   .have ak:e<x:=by omega
    have hG:=ayR hh r.cities[city.toNat] o e x h2 hJ.1.2 hJ.1.1 hJ.2.1;simp[NZ,DB,hx];exact⟨x,by omega,rfl,by omega,by omega,hG.symm⟩
def length_eq (y m:Int)(hy:1<=y/\y<=9000)(hm:1<=m/\m<=12):uK y m=eR y m:=by
 rw[avI y m hy hm];by_cases h:m=12
 .subst h;have h1:=TF y (by omega);rw[xg _ _ _ (by omega),xg _ _ _ (by omega)] at h1;have e:12*(y+1)+1-3=12*y+12-3+1:=by omega
  rw[e] at h1;have:eR y 12=31:=by unfold eR;simp
  omega
 .have h1:=MO y m (by omega) (by omega);rw[xg _ _ _ (by omega),xg _ _ _ (by omega)] at h1;have e:12*y+(m+1)-3=12*y+m-3+1:=by omega
  rw[e] at h1;omega
def ale (y m d:Int)(hy:1<=y/\y<=9000)(hm:1<=m/\m<=12)(hd:1<=d/\d<=eR y m):ah T 202 [.int y,.int m,.int d] (.tup [.int (sl y m d).1,.int (sl y m d).2]):=by
 have hle:=length_eq y m hy hm;have hlb:=GN y m;have Ge:zF y m d=bU y m d:=TG y m d (by omega) hm (by omega);refine .of_tree rfl Ek IV ?_;unfold sl;by_cases h0:2000<=y/\y<=2300
 .have nk:qH y m d=true:=by simp[qH];omega
  rw[nk];simp[xG];rw[if_pos ⟨⟨⟨⟨h0.1,h0.2⟩,hm.1⟩,hm.2⟩,hd.1⟩];refine⟨_,CM y m,?_⟩;rw[hle];have h2:¬eR y m<d:=by omega
  have gi:d<=eR y m:=hd.2;simp[h0,hm,hd,gi];rw[if_neg (by omega)];refine⟨_,CR _ _ _,_,xP _,?_⟩;rw[Ge];cases hv:bz (bU y m d)<;>simp[hv]
 .have nk:qH y m d=false:=by simp[qH];omega
  rw[nk];simp[xG];rw[if_neg (by omega)];intro a1 a2 a3 a4 a5;exact absurd ⟨a1,a2⟩ h0
def nu (d n:Int):Int×Int:=if 5000<n then(0,3) else vN d n
def ak6 (d n:Int)(hd:0<=d/\d<=100000)(hn:0<=n):ah T 165 [.int d,.int n] (.tup [.int (nu d n).1,.int (nu d n).2]):=by
 unfold nu;by_cases h5:5000<n
 .rw[if_pos h5];refine .of_tree rfl Jr OP ?_;simp[DW,h5];exact⟨_,xP d⟩
 rw[if_neg h5];obtain⟨hm,RL,hy,Ge⟩:=E2 d (by omega);obtain⟨y0,y1,yl,yu⟩:=QL d hd;have aq4:=QM d (by omega);unfold vN;generalize (bD d).1=y at*;generalize (bD d).2.1=m at*;generalize (bD d).2.2=Ld at*;obtain⟨A,hA⟩:∃A,A=12*y+m-1+n:=⟨_,rfl⟩
 have wA:i64.wrap (i64.wrap (i64.wrap (i64.wrap (12*y)+m)-1)+n)=A:=by
  rw[aW (n:=12*y) (by omega),aW (n:=12*y+m) (by omega),aW (n:=12*y+m-1) (by omega),aW (by omega)];exact hA.symm
 have wY:i64.wrap (A.tdiv 12)=A/12:=by rw[AK (by omega)];exact aW (by omega)
 have wM:i64.wrap (A.tmod 12+1)=A%12+1:=by rw[xW (by omega)];exact aW (by omega)
 rw[<-hA,if_neg (by omega)];have hle:=length_eq (A/12) (A%12+1) (by omega) (by omega);have hlb:=GN (A/12) (A%12+1);have n1:¬n< -5000:=by omega
 have hv:bz d=true:=by simp[bz];omega
 have cC:=xP d;rw[hv] at cC;have hD:=ale (A/12) (A%12+1) (min Ld (eR (A/12) (A%12+1))) (by omega) (by omega) (by omega);refine .of_tree rfl Jr OP ?_;simp[DW,n1,h5];refine⟨_,cC,?_⟩;simp;refine⟨_,aq4,?_⟩;simp[wA,wY,wM];refine⟨_,CM _ _,?_⟩;rw[hle];by_cases hl:eR (A/12) (A%12+1)<Ld
 .rw[Z1 (by omega)] at hD ⊢;simp[hl];exact⟨_,hD,rfl,rfl⟩
 .rw[Z0 (by omega)] at hD ⊢;simp[hl];exact⟨_,hD,rfl,rfl⟩
def aap (d:Int)(t:Tenor)(hd:0<=d/\d<=100000):vO d t=if t.n<0\/20000<t.n then(0,3) else if t.unit=1 then nu d t.n else(d+t.n,0):=by
 obtain⟨G,hG⟩:∃G,G=if t.n<0\/20000<t.n then(0,3) else if t.unit=1 then nu d t.n else(d+t.n,0):=⟨_,rfl⟩
 rw[<-hG];have h:ah T 138 [.int d,lK t] (.tup [.int G.1,.int G.2]):=by
  by_cases h0:t.n<0
  .rw[if_pos (.inl h0)] at hG;rw[hG];refine .of_tree rfl vR xL ?_;simp[tC,h0]
  by_cases h1:20000<t.n
  .rw[if_pos (.inr h1)] at hG;rw[hG];refine .of_tree rfl vR xL ?_;simp[tC,h0,h1]
  rw[if_neg (by omega)] at hG;by_cases h2:t.unit=1
  .rw[if_pos h2] at hG;rw[hG];refine .of_tree rfl vR xL ?_;simp[tC,h0,h1,h2];refine⟨_,ak6 d t.n hd (by omega),?_⟩;simp
  .rw[if_neg h2] at hG;rw[hG];have hw:i64.wrap (d+t.n)=d+t.n:=aW (by omega);refine .of_tree rfl vR xL ?_;simp[tC,h0,h1,h2,hw]
 have h2:=(Px d t).det h;simp at h2;exact Prod.ext h2.1 h2.2
def ahV (r:Realm)(n:Int):ah T 91 [aU r,.int n] (.bool (aG n r.cities.length)):=by
 refine zyw 147 aAz ?_;by_cases h1:0<=n<;>by_cases h2:n<r.cities.length<;>simp[XP,h1,h2,aG]
def axr (t:Tenor):ah T 93 [lK t] (.bool (rR t)):=by
 refine zyw 149 aAy ?_;by_cases h1:t.kind=0<;>by_cases h2:t.kind=1<;>simp[XO,h1,h2,rR]
def m6 (x:Int×Int):Int:=if x.2≠0\/bz x.1=false then-1 else x.1
def axp (r:Realm)(b:Bill)(seen:Int)(hl:r.usances.length<=100000)(hk:0<=b.tenor.kind/\b.tenor.kind<5)(hu:b.tenor.unit=0\/b.tenor.unit=1)(hd:0<=b.day/\b.day<=100000)(hs:b.tenor.kind=1->0<=seen/\seen<=100000):
 ah T 95 [aU r,eh b,.int seen] (.int (m6 (kS r.usances b seen))):=by
 refine zyw 151 aAw ?_;have fin:∀n:Int,m6 (n,0)=if bz n=true then n else-1:=by
  intro n;unfold m6;cases bz n<;>simp
 unfold kS;by_cases h0:b.tenor.kind=0
 .rw[if_pos h0,fin];simp[vm,h0];refine⟨_,p5 _,?_⟩;cases hv:bz seen<;>simp[hv]
 rw[if_neg h0];by_cases h3:b.tenor.kind=3
 .rw[if_neg (by omega),if_neg (by omega),if_neg (by omega),fin];simp[vm,h3];refine⟨_,p5 _,?_⟩;cases hv:bz b.tenor.n<;>simp[hv]
 by_cases h4:b.tenor.kind=4
 .rw[if_neg (by omega),if_neg (by omega),if_pos h4];have Gx:=ahO r b.city b.pay hl;generalize mW r.usances b.city b.pay=U at*;obtain⟨n,e⟩:=U;have mu:b.day+n=n+b.day:=by omega
  simp only[] at*;rw[mu];simp[vm,h4];refine⟨_,Gx,?_⟩;simp;by_cases he:e=0
  .subst he;rw[fin];simp;refine⟨_,p5 _,?_⟩;cases hv:bz (i64.wrap (n+b.day))<;>simp[hv]
  .have:m6 (i64.wrap (n+b.day),e)=-1:=by unfold m6;rw[if_pos (.inl he)]
   rw[this];simp[he]
   try exact⟨_,p5 _⟩
 have main:∀x:Int,(0<=x/\x<=100000)->x=(if b.tenor.kind=1 then seen else b.day)->(b.tenor.kind=1\/b.tenor.kind=2)->aJ T vm (lL [aU r,eh b,.int seen]) (λy=>y=.ret (.int (m6 (vO x b.tenor)))):=by
  intro x hx zl arQ;rw[aap x b.tenor hx];have RY:(b.tenor.kind=1\/b.tenor.kind=2)=True:=eq_true arQ;by_cases hn:b.tenor.n<0\/20000<b.tenor.n
  .rw[if_pos hn];simp[vm,h0,h3,h4,RY,hn];rfl
  rw[if_neg hn];have wL:(if b.tenor.kind=1 then D.int seen else D.int b.day)=D.int x:=by rw[zl];split<;>rfl
  by_cases h2:b.tenor.unit=1
  .rw[if_pos h2];have hA:=axc x b.tenor.n;have RH:bz x=true:=by simp[bz];omega
   rw[RH] at hA;have lT:(if 5000<b.tenor.n then D.tup [.int 0,.int 3] else .tup [.int (vN x b.tenor.n).1,.int (vN x b.tenor.n).2])=.tup [.int (nu x b.tenor.n).1,.int (nu x b.tenor.n).2]:=by
        unfold nu;split<;>rfl
   have hA':ah T 141 [.int x,.int b.tenor.n] (.tup [.int (nu x b.tenor.n).1,.int (nu x b.tenor.n).2]):=by
        rw[<-lT];by_cases h5:5000<b.tenor.n
        .rw[if_pos (.inr (.inr h5))] at hA;rw[if_pos h5];exact hA
        .rw[if_neg (by simp;omega)] at hA;rw[if_neg h5];exact hA
   simp[vm,h0,h3,h4,RY,hn,h2,wL];refine⟨_,hA',?_⟩;generalize nu x b.tenor.n=M at*;obtain⟨n,e⟩:=M;simp;by_cases he:e=0
   .subst he;rw[fin];simp;refine⟨_,p5 _,?_⟩;cases hv:bz n<;>simp[hv]
   .have:m6 (n,e)=-1:=by unfold m6;rw[if_pos (.inl he)]
    rw[this];simp[he]
    try exact⟨_,p5 _⟩
  .rw[if_neg h2,fin];have hw:i64.wrap (x+b.tenor.n)=x+b.tenor.n:=aW (by omega);simp[vm,h0,h3,h4,RY,hn,h2,<-zl,hw];refine⟨_,p5 _,?_⟩;cases hv:bz (x+b.tenor.n)<;>simp[hv]
 by_cases h1:b.tenor.kind=1
 .rw[if_pos h1];exact main seen (hs h1) (by rw[if_pos h1]) (.inl h1)
 .rw[if_neg h1,if_pos (by omega)];exact main b.day hd (by rw[if_neg h1]) (.inr (by omega))
def anA (y m d:Int):(sl y m d).2=0\/(sl y m d).2=3:=by
 unfold sl;split<;>simp
def avH (d n:Int):(nu d n).2=0\/(nu d n).2=3:=by
 unfold nu;split
 .simp
 .unfold vN;split
  .simp
  .exact anA _ _ _
def aCu (l:List Usance)(a b:Int):(mW l a b).2=0\/(mW l a b).2=4:=by
 unfold mW;split<;>simp
def amE (l:List Usance)(b:Bill)(seen:Int)(hd:0<=b.day/\b.day<=100000)(hs:b.tenor.kind=1->0<=seen/\seen<=100000)(h4:b.tenor.kind≠4):(kS l b seen).2=0\/(kS l b seen).2=3:=by
 have af:∀x,(0<=x/\x<=100000)->(vO x b.tenor).2=0\/(vO x b.tenor).2=3:=by
  intro x hx;rw[aap x _ hx];split
  .simp
  split
  .exact avH _ _
  .simp
 unfold kS;split
 .simp
 split
 .rename_i h;exact af _ (hs h)
 split
 .exact af _ hd
 simp
def axq (r:Realm)(hr:RightD r)(jK:r.cities.length<=100000)(b:Bill)(seen bE:Int):ah T 47 [aU r,eh b,.int seen,.int bE] (.tup [.int (tZ r b seen bE).1,.int (tZ r b seen bE).2]):=by
 have Mm:D.agg [D.int b.tenor.kind,D.int b.tenor.n,D.int b.tenor.unit]=lK b.tenor:=rfl;have gR:=ahL r hr.small;have Gx:=ahO r b.city b.pay (by have:=hr.small.us;omega);obtain⟨G,hG⟩:∃G,G=tZ r b seen bE:=⟨_,rfl⟩
 rw[<-hG];unfold tZ at hG;refine zyw 146 aAx ?_;simp[XN];refine⟨_,gR,?_⟩;by_cases h0:fC r=0
 case neg=>simp[h0] at hG ⊢;simp[hG]
 simp[h0] at hG ⊢;refine⟨_,ahV r b.city,?_⟩;cases h1:aG b.city r.cities.length
 .simp[h1] at hG ⊢;simp[hG]
 simp[h1] at hG ⊢;refine⟨_,ahV r b.pay,?_⟩;cases h2:aG b.pay r.cities.length
 .simp[h2] at hG ⊢;simp[hG]
 simp[h2] at hG ⊢;refine⟨_,p5 b.day,?_⟩;cases h3:bz b.day
 .simp[h3] at hG ⊢;simp[hG]
 simp[h3] at hG ⊢;have hp:0<=b.pay/\b.pay<r.cities.length:=by simpa [aG] using h2
 have bn:0<=b.day/\b.day<=100000:=by simpa [bz] using h3
 by_cases h4:((b.tenor.kind<0\/5<=b.tenor.kind)\/b.tenor.unit<0)\/2<=b.tenor.unit
 .rw[if_pos h4] at hG;rw[if_neg (by omega)];rw[if_pos (by omega)];simp[hG]
 rw[if_neg h4] at hG;have fin:G=(if rR b.tenor=true/\seen=-1 then(0,4) else CL r b.pay bE (kS r.usances b seen))->0<=bE->bE<=20000->(seen=-1\/(0<=seen/\seen<=100000))->
  ∃d,ah T 93 [lK b.tenor] d/\
     if d.b=true/\seen=-1 then 0=G.1/\4=G.2
     else
      if b.tenor.kind=4 then
       ∃d,ah T 94 [aU r,D.int b.city,D.int b.pay] d/\
            if(d.tget 1).i=0 then
             ∃d,ah T 95 [aU r,eh b,D.int seen] d/\
               if d.i<0\/100000<i64.wrap (d.i+bE) then 0=G.1/\3=G.2
               else ∃qG,ah T 96 [aU r,D.int b.pay,D.int (i64.wrap (d.i+bE))] qG/\qG.tget 0=D.int G.1/\qG.tget 1=D.int G.2
            else 0=G.1/\4=G.2
      else
       ∃d,ah T 95 [aU r,eh b,D.int seen] d/\
            if d.i<0\/100000<i64.wrap (d.i+bE) then 0=G.1/\3=G.2
            else ∃qG,ah T 96 [aU r,D.int b.pay,D.int (i64.wrap (d.i+bE))] qG/\qG.tget 0=D.int G.1/\qG.tget 1=D.int G.2:=by
  intro hG g0 g1 asT;refine⟨_,axr b.tenor,?_⟩;by_cases zb:rR b.tenor=true/\seen=-1
  .rw[if_pos zb] at hG;simp[zb,hG]
  rw[if_neg zb] at hG;simp only[abc];rw[if_neg zb];have bN:b.tenor.kind=1->0<=seen/\seen<=100000:=by
   intro h;rcases asT with h'|h'
   .exact absurd ⟨by simp[rR,h],h'⟩ zb
   .exact h'
  have hB:=axp r b seen (by have:=hr.small.us;omega) (by omega) (by omega) bn bN;have tail:((kS r.usances b seen).2=0\/(kS r.usances b seen).2=3)->∃d,ah T 95 [aU r,eh b,D.int seen] d/\
              if d.i<0\/100000<i64.wrap (d.i+bE) then 0=G.1/\3=G.2
              else ∃qG,ah T 96 [aU r,D.int b.pay,D.int (i64.wrap (d.i+bE))] qG/\qG.tget 0=D.int G.1/\qG.tget 1=D.int G.2:=by
   intro arp;refine⟨_,hB,?_⟩;unfold CL at hG;generalize kS r.usances b seen=B at*;obtain⟨n,e⟩:=B;simp only at hG arp;by_cases he:e=0
   .subst he;cases hv:bz n
    .have:m6 (n,0)=-1:=by unfold m6;rw[if_pos (.inr hv)]
     rw[if_neg (by simp),if_pos (.inl hv)] at hG;simp[this,hG]
    .have hn:0<=n/\n<=100000:=by simpa [bz] using hv
     have hw:i64.wrap (n+bE)=n+bE:=aW (by omega);have:m6 (n,0)=n:=by unfold m6;rw[if_neg (by simp[hv])]
     rw[if_neg (by simp),hw] at hG;rw[this];simp only[abe,hw];by_cases hle:100000<n+bE
     .rw[if_pos (.inr hle)] at hG;rw[if_pos (.inr hle)];simp[hG]
     .rw[if_neg (by simp[hv];omega)] at hG;rw[if_neg (by omega)];refine⟨_,axs r hr.halts b.pay (n+bE) hp hr.cities jK (by omega) (by omega),?_⟩;simp[hG]
   .have:m6 (n,e)=-1:=by unfold m6;rw[if_pos (.inl he)]
    have h3:e=3:=by omega
    subst h3;rw[if_pos he] at hG;simp[this,hG]
  by_cases k4:b.tenor.kind=4
  .rw[if_pos k4];refine⟨_,Gx,?_⟩;have yM:(kS r.usances b seen).2=(mW r.usances b.city b.pay).2:=by
        unfold kS;rw[if_neg (by omega),if_neg (by omega),if_neg (by omega),if_pos k4]
   by_cases he:(mW r.usances b.city b.pay).2=0
   .simp[he];exact tail (.inl (by rw[yM,he]))
   .have h4:(mW r.usances b.city b.pay).2=4:=by
      rcases aCu r.usances b.city b.pay with h|h
      .exact absurd h he
      .exact h
    unfold CL at hG;rw[if_pos (by rw[yM];exact he),yM,h4] at hG;simp[h4,hG]
  .rw[if_neg k4];exact tail (amE _ _ _ bn bN k4)
 by_cases hs:seen=-1
 .rw[if_neg (by simp[hs])];by_cases h5:bE<0\/20000<bE
  .rw[if_pos (by rcases h5 with h|h;exact .inl (.inr h);exact .inr h)] at hG;rw[if_pos (by omega)];simp[hG]
  .rw[if_neg (by rintro((h|h)|h);exact h.1 hs;exact h5 (.inl h);exact h5 (.inr h))] at hG;rw[if_neg (by omega)];exact fin hG (by omega) (by omega) (.inl hs)
 .rw[if_pos ⟨hs,by omega⟩];refine⟨_,p5 seen,?_⟩;simp only[abc];by_cases h5:(¬seen=-1/\bz seen=false\/bE<0)\/20000<bE
  .rw[if_pos h5] at hG;rw[if_pos (by rcases h5 with(h|h)|h<;>simp[h])];simp[hG]
  .rw[if_neg h5] at hG;rw[if_neg (by rintro((((h|h)|h)|h));exact h4 h;exact h5 (.inl (.inl h));exact h5 (.inl (.inr h));exact h5 (.inr h))];have hv:0<=seen/\seen<=100000:=by
     cases e:bz seen
     .exact absurd (.inl (.inl ⟨hs,e⟩)) h5
     .simpa [bz] using e
   exact fin hG (by omega) (by omega) (.inr hv)
def minD:List Int->Int
 |[]=>0
 |x::l=>l.foldl min x
def aeO (l:List Int)(x:Int):minD (l++[x])=if l=[] then x else min (minD l) x:=by
 cases l with
 |nil=>rfl
 |cons y l=>
  rw[if_neg (by simp)];show(l++[x]).foldl min y=_;rw[Ea];rfl
def avG {l:List Int}(h:l≠[]):zD l=minD l:=by
 cases l with
 |nil=>exact absurd rfl h
 |cons x l=>rfl
def mT (f:File)(n:Nat):List Int:=((f.signs.take n).filter (λs=>decide (s.kind=1))).map (·.day)
def mj (f:File)(n:Nat):List Int:=((f.acts.take n).filter (λs=>decide (s.kind=1))).map (·.day)
def ayN (f:File):oM f=if f.bill.tenor.kind=0 then(match f.acts.find? (λa=>decide (a.kind=2)) with|some a=>a.day|none=>-1) else if f.bill.tenor.kind=1/\mT f f.signs.length++mj f f.acts.length≠[] then minD (mT f f.signs.length++mj f f.acts.length) else-1:=by
 unfold oM;by_cases h0:f.bill.tenor.kind=0
 .rw[if_pos h0]
  have e:vk f=λa=>decide (a.kind=2):=by
   funext a;simp[vk,h0]
  rw[e];have hn:¬f.bill.tenor.kind=1:=by omega
  have e2:ki f f.signs.length++jx f f.acts.length=[]:=by simp[ki,jx,hn]
  rw[e2];rfl
 .rw[if_neg h0];have e:f.acts.find? (vk f)=none:=by
   rw[vE];intro a _;simp[vk,h0]
  rw[e];simp only;by_cases h1:f.bill.tenor.kind=1
  .have e2:ki f f.signs.length++jx f f.acts.length=mT f f.signs.length++mj f f.acts.length:=by simp only[ki,jx,if_pos h1,mT,mj]
   rw[e2];by_cases h2:mT f f.signs.length++mj f f.acts.length=[]
   .rw[if_neg (by simp[h2]),h2];rfl
   .rw[if_pos ⟨h1,h2⟩];exact avG h2
  .have e2:ki f f.signs.length++jx f f.acts.length=[]:=by simp[ki,jx,h1]
   rw[if_neg (λh=>h1 h.1),e2];rfl
def axv (f:File)(h1:f.signs.length<=100000)(h2:f.acts.length<=100000):ah T 48 [dK f] (.int (oM f)):=by
 refine zyw 145 aAE ?_;rw[ayN];by_cases h0:f.bill.tenor.kind=0
 .rw[if_pos h0];simp[OT,h0];refine aN.scan f.acts.length (λk=>¬(f.acts.getD k default).kind=2) (λk=>[.int 0,.int k]) (λ_=>[]) ?_ (λk hk hj av=>?_) (λk hk hj av=>?_) (λhj=>?_)
  .simp
  .have hw:=bu hk (by omega);have hn:¬f.acts[k].kind=2:=by simpa [hk] using av
   simp[VH,HZ,hk,hw,hn]
  .have fQ:=sy (p:=λa:Act=>decide (a.kind=2)) hk (by simpa [hk] using av) (λj bf=>by have:=hj j bf;simpa [show j<f.acts.length by omega] using this);have hc:f.acts[k].kind=2:=by simpa [hk] using av
   rw[fQ];simp[VH,HZ,hk,hc]
  .have fQ:=uj (l:=f.acts) (p:=λa:Act=>decide (a.kind=2)) (λj bf=>by have:=hj j bf;simpa [bf] using this);rw[fQ];simp[VH,HZ]
 rw[if_neg h0];obtain⟨G,hG⟩:∃G,G=if f.bill.tenor.kind=1/\mT f f.signs.length++mj f f.acts.length≠[] then minD (mT f f.signs.length++mj f f.acts.length) else-1:=⟨_,rfl⟩
 rw[<-hG];simp[OT,h0];refine aN.forRounds f.signs.length (λk=>[.bool (!(mT f k).isEmpty),.int (minD (mT f k)),.int k]) (λ_=>[]) ?_ (λk hk=>?_) ?_
 .simp[mT,minD]
 .have hw:=bu hk (by omega);have hs:mT f (k+1)=mT f k++if f.signs[k].kind=1 then[f.signs[k].day] else[]:=by
   unfold mT;simp only[xE _ _ hk,mi]
   congr 1
   by_cases h':f.signs[k].kind=1<;>simp[h']
  rw[hs];generalize mT f k=A at*;by_cases hc:f.signs[k].kind=1
  .rw[if_pos hc,aeO];cases A with
   |nil=>simp[H0,Ai,hk,hw,hc]
   |cons x A=>
    have lT:(if f.signs[k].day<minD (x::A) then f.signs[k].day else minD (x::A))=min (minD (x::A)) f.signs[k].day:=by
      split<;>omega
    generalize minD (x::A)=m at*;by_cases hl:f.signs[k].day<m
    .rw[if_pos hl] at lT;simp[H0,Ai,hk,hw,hc,hl,<-lT]
    .rw[if_neg hl] at lT;simp[H0,Ai,hk,hw,hc,hl,<-lT]
  .rw[if_neg hc,km];simp[H0,Ai,hk,hw,hc]
 .generalize mT f f.signs.length=S at*;simp[H0,Ai];refine aN.forRounds f.acts.length (λk=>[.bool (!(S++mj f k).isEmpty),.int (minD (S++mj f k)),.int k]) (λ_=>[]) ?_ (λk hk=>?_) ?_
  .simp[mj]
  .have hw:=bu hk (by omega);have hs:mj f (k+1)=mj f k++if f.acts[k].kind=1 then[f.acts[k].day] else[]:=by
        unfold mj;simp only[xE _ _ hk,mi]
        congr 1
        by_cases h':f.acts[k].kind=1<;>simp[h']
   rw[hs,<-qq];generalize S++mj f k=A at*;by_cases hc:f.acts[k].kind=1
   .rw[if_pos hc,aeO];cases A with
    |nil=>simp[Aj,vd,hk,hw,hc]
    |cons x A=>
     have lT:(if f.acts[k].day<minD (x::A) then f.acts[k].day else minD (x::A))=min (minD (x::A)) f.acts[k].day:=by
       split<;>omega
     generalize minD (x::A)=m at*;by_cases hl:f.acts[k].day<m
     .rw[if_pos hl] at lT;simp[Aj,vd,hk,hw,hc,hl,<-lT]
     .rw[if_neg hl] at lT;simp[Aj,vd,hk,hw,hc,hl,<-lT]
   .rw[if_neg hc,km];simp[Aj,vd,hk,hw,hc]
  .generalize S++mj f f.acts.length=A at*;by_cases h3:f.bill.tenor.kind=1
   .cases A with
    |nil=>
     rw[if_neg (by simp)] at hG;simp[Aj,vd,h3,hG]
    |cons x A=>
     rw[if_pos ⟨h3,by simp⟩] at hG;simp[Aj,vd,h3,hG]
   .rw[if_neg (λh=>h3 h.1)] at hG;simp[Aj,vd,h3,hG]
def atT {r:Realm}{a q:Int}{l:List Int}(h:(dg r a q l).1≠[]):jY r a q l=true/\l.getD 0 0=a:=by
 unfold dg at h;split at h
 .assumption
 .exact absurd rfl h
def Vb (r:Realm)(hr:Right r)(hc:fC r=0)(jK:r.cities.length<=100000)(forum q:Int)(c:Case)(hf:FewS c.file):ah T 9 [aU r,.int forum,.int q,dJ c] (iO (fB r forum q c)):=by
 have hP:=aia r hc jK forum c hf;have hQ:=U9 q;refine zyw 103 aBd ?_;simp[Yi];refine⟨_,hP,?_⟩;by_cases hp:dA r forum c=[]
 .rw[ad4 (.inl hp),hp];simp
  try rfl
 have dM:¬((dA r forum c).length:Int)=0:=by
  have:=AM.mpr hp;omega
 by_cases hq:q<0\/22<=q
 .rw[ad4 (.inr hq)];have:¬(0<=q/\q<22):=by omega
  simp[hp,dM];refine⟨_,hQ,?_⟩;simp[this]
  try rfl
 have hj:=atJ hr hc hp hq;have hqq:0<=q/\q<22:=by omega
 obtain⟨LU,uq⟩:=atT hj.path;have hL:=axJ r hr.by_ (awc hc) hr.len forum q (dA r forum c) LU hqq uq;have hC:=Vc r jK c hf;have hlen:=Ti r forum q (dA r forum c);have R1:=Mx hr (a:=forum) (q:=q) (l:=dA r forum c) (by have:=(B0 LU).2.1;omega);have Md:=hr.len;rw[hj.ask];have adh:=hj.path;simp[hp,dM];refine⟨_,hQ,?_⟩;simp[hqq];refine⟨_,hL,?_⟩;generalize dg r forum q (dA r forum c)=L at*;obtain⟨path,err⟩:=L;simp only at*;have Mg:=AM.mpr adh;have Cw:¬(path.length:Int)=0:=by omega
 by_cases he:err=0
 .obtain⟨h1,h2⟩:=R1 he;have zk:i64.wrap ((path.length:Int)-1)=(path.length:Int)-1:=aW (by omega);have y2:((path.length:Int)-1).toNat=path.length-1:=by omega
  have ak:path.length-1<path.length:=by omega
  have jJ:cD path=path[path.length-1]:=by simp[cD,ak]
  have h3:(cD path).toNat<r.orders.length:=by omega
  have h4:fT r (cD path)=r.orders[(cD path).toNat]:=by simp[fT,h3]
  obtain⟨av,hrl⟩:=hr.ok _ (bW h3);simp[he,adh,zk,y2,ak,<-jJ,h2,h3,h4];refine⟨by omega,_,hC,_,axF _ q _ av (by omega),?_⟩;simp
  try rfl
 .simp[he]
  try rfl
def ah8 (r:Realm)(hr:Right r)(hc:fC r=0)(jK:r.cities.length<=100000)(forum q:Int)(f:File)(day:Int)(hf:FewS f):ah T 11 [aU r,.int forum,.int q,dK f,.int day] (iO (il r forum q f day)):=by
 refine zyw 137 aBe ?_;simp[Yj];refine⟨iO (il r forum q f day),Vb r hr hc jK forum q ⟨{f with facts:=[]},0,-1,-1,-1,day⟩ ⟨hf.1,hf.2,hf.3,by simp⟩,?_⟩;simp
 try rfl
def al7 {r:Realm}{forum q:Int}{c d:Case}(h:bH c=bH d):fB r forum q c=fB r forum q d:=by
 have e:cO r forum q c=cO r forum q d:=by unfold cO;rw[h]
 unfold fB;rw[e]
def amH (r:Realm)(forum q:Int)(f:File)(day:Int):il r forum q (dc f day) day=il r forum q f day:=by
 unfold il;refine al7 ?_;unfold bH;simp only[ama,al9 _ (Int.le_refl day)]
def av4 (r:Realm)(forum:Int)(f:File)(day:Int):-1<=kc (il r forum 6 f day):=by
 unfold kc;split
 .omega
 rename_i h;have hk:(il r forum 6 f day).cell.known=true:=by
  cases e:(il r forum 6 f day).cell.known
  .exact absurd (.inr e) h
  .rfl
 unfold il fB at hk ⊢;split
 .rename_i h1;rw[if_pos h1] at hk;unfold cO at hk;split at hk
  .cases hk
  split at hk
  .cases hk
  split at hk
  .cases hk
  .cases hk
 .rename_i h1;rw[if_neg h1] at hk;simp only at hk ⊢;unfold nQ at hk ⊢;split
  .rename_i h2;rw[if_pos h2] at hk;cases hk
  .rename_i h2;rw[if_neg h2] at hk;have ht:(fu 6).1=0:=rfl;split
   .simp only;omega
   .rename_i h3;have:(qO (cO r forum 6 ⟨{f with facts:=[]},0,-1,-1,-1,day⟩).2 (findF (fT r (cO r forum 6 ⟨{f with facts:=[]},0,-1,-1,-1,day⟩).1.order) 6).1).known=false:=by
     cases e:(qO (cO r forum 6 ⟨{f with facts:=[]},0,-1,-1,-1,day⟩).2 (findF (fT r (cO r forum 6 ⟨{f with facts:=[]},0,-1,-1,-1,day⟩).1.order) 6).1).known
     .rfl
     .exact absurd ⟨ht,e⟩ h3
    rw[if_neg h3] at hk;simp only at hk;rw[this] at hk;cases hk
def axM (r:Realm)(hr:Right r)(hd:RightD r)(hc:fC r=0)(jK:r.cities.length<=100000)(forum:Int)(f:File)(day:Int)(hf:FewS f):ah T 23 [aU r,.int forum,dK f,.int day] (.int (rn r forum f day)):=by
 refine zyw 144 aBh ?_;simp[Ym];refine⟨_,ahZ f day (by have:=hf.signs;omega) (by have:=hf.acts;omega) (by have:=hf.alters;omega) (by have:=hf.facts;omega),?_⟩;have hg:=hf.at_ day;have hB:=ah8 r hr hc jK forum 6 f day hf;have q9:=av4 r forum f day;unfold rn;rw[amH];generalize il r forum 6 f day=B at*;generalize dc f day=g at*;simp;by_cases h0:g.signs=[]
 .simp[h0]
 simp[h0];refine⟨_,hB,_,ah9 B,_,axv g (by have:=hg.signs;omega) (by have:=hg.acts;omega),?_⟩;have hm:(if kc B=-1 then D.int 0 else D.int (kc B))=D.int (max (kc B) 0):=by
  split
  .rename_i h;rw[h];rfl
  .rw[Pc (by omega)]
 have wq:=axq r hd jK f.bill (oM g) (max (kc B) 0);rw[<-anM hd] at wq;simp
 try rw[hm]
 refine⟨_,wq,?_⟩;by_cases he:(qK r f.bill (oM g) (max (kc B) 0)).2=0<;>simp[he]
def adR:∀{a b:List Int},a.Pairwise (·<·)->b.Pairwise (·<·)->(∀x,x∈a↔x∈b)->a=b
 |[],[],_,_,_=>rfl
 |[],y::b,_,_,h=>by have:=(h y).2 (by simp);cases this
 |x::a,[],_,_,h=>by have:=(h x).1 (by simp);cases this
 |x::a,y::b,ha,hb,h=>by
  obtain⟨a1,a2⟩:=x9.1 ha;obtain⟨b1,b2⟩:=x9.1 hb;have ou:x=y:=by
   rcases cU.1 ((h x).1 (by simp)) with e|e
   .exact e
   .rcases cU.1 ((h y).2 (by simp)) with e'|e'
    .exact e'.symm
    .have:=b1 x e;have:=a1 y e';omega
  subst ou
  congr 1
  refine adR a2 b2 λz=>⟨λhz=>?_,λhz=>?_⟩
  .rcases cU.1 ((h z).1 (by simp[hz])) with e|e
   .have:=a1 z hz;omega
   .exact e
  .rcases cU.1 ((h z).2 (by simp[hz])) with e|e
   .have:=b1 z hz;omega
   .exact e
def upto (l:List Int)(n:Nat):List Int:=((List.range n).filter λv:Nat=>l.contains (v:Int)).map Int.ofNat
def aCt (l:List Int)(n:Nat):upto l (n+1)=upto l n++if l.contains (n:Int)=true then[(n:Int)] else[]:=by
 unfold upto;rw[Jh,D9,mi];simp only[List.filter_cons,List.filter_nil];cases h:l.contains (n:Int)<;>rfl
def aCs (l:List Int)(n:Nat):(upto l n).length<=n:=by
 have:=qt (λv:Nat=>l.contains (v:Int)) (List.range n);simpa [upto] using this
def aCr {l:List Int}{n:Nat}(h:∀y,y∈l->0<=y/\y<n):upto l n=gh (kE l):=by
 refine adR ?_ (anI (Mq l)) λx=>?_
 .unfold upto;rw[List.pairwise_map];exact(List.Pairwise.sublist (List.filter_sublist) aag).imp λh=>Int.ofNat_lt.2 h
 .rw[anH (Mq l),atC];unfold upto;simp only[dW,eO,cw];constructor
  .rintro⟨a,⟨h1,h2⟩,rfl⟩;simpa using h2
  .intro hx;have:=h x hx;exact⟨x.toNat,⟨by omega,by rw[Int.toNat_of_nonneg this.1];simpa using hx⟩,Int.toNat_of_nonneg this.1⟩
def ah3:∀(L:Nat) (cs:List Cell) (t:Tm) (k v:Int),t.OK->bm L t<=60->ba L t=(k,0)->ah T 127 [cQ t,cells cs,.int v] (.bool ((cm L cs t).contains v))
 |0,cs,t,k,v,ht,hm,hc=>by simp[bm] at hm
 |L+1,cs,t,k,v,ht,hm,hc=>by
  refine zyw 143 aAZ ?_;obtain⟨hl,hp⟩:=zB hm;obtain⟨ha,_⟩:=yr hc;obtain⟨hn,acR⟩:=vS hc;have dS:∀a,a∈t.args->ah T 127 [cQ a,cells cs,.int v] (.bool ((cm L cs a).contains v)):=λa bP=>ah3 L cs a (ba L a).1 v (ht.arg bP) (hp a bP) (by rw[<-ha a bP]);have bT:∀a,a∈t.args->ah T 120 [cQ a,cells cs] (cg (aH L cs a)):=λa bP=>NH L cs a (ba L a).1 (ht.arg bP) (hp a bP) (by rw[<-ha a bP]);have lV:∀a,a∈t.args->oW (ba L a).1 (aH L cs a):=λa bP=>Fo cs (show ba L a=((ba L a).1,0) by rw[<-ha a bP]);have Sd:=aeR (L+1) cs t k hm hc;have hE:=NH (L+1) cs t k ht hm hc;obtain⟨B,hB⟩:∃B,B=(cm (L+1) cs t).contains v:=⟨_,rfl⟩
  rw[<-hB];simp[X4];refine⟨_,hE,?_⟩;by_cases ku:(aH (L+1) cs t).known=true
  .rw[Sd.2 ku] at hB;rw[hB];simp[ku]
  have mE:(aH (L+1) cs t).known=false:=by simpa using ku
  simp[mE];rw[uh] at ku;rw[zE] at hB;by_cases cI:t.op=0\/t.op=1
  .rw[if_pos cI] at ku;exact absurd rfl ku
  rw[if_neg cI] at ku hB;by_cases h2:t.op=2
  .rw[if_pos h2] at ku hB;rw[if_neg ku] at hB;have FF:B=decide (t.n=v):=by rw[hB,rU];simp;exact⟨λe=>e.symm,λe=>e.symm⟩
   simp[h2,FF]
  rw[if_neg h2] at ku hB;by_cases h6:t.op=6/\(aT (t.args.map (aH L cs)) 0).known=true
  .rw[if_pos h6] at hB;cases hn with
   |ite k o6 hk=>
    obtain⟨a,b,c,dL,ea,eb,ec⟩:=zx hk;have ra:=lV a (by simp[dL]);rw[ea] at ra;have c0:aT (t.args.map (aH L cs)) 0=aH L cs a:=by rw[dL];rfl
    have hA:=bT a (by simp[dL]);have hBb:=dS b (by simp[dL]);have hCc:=dS c (by simp[dL]);rw[c0] at h6 hB;have h7:=h6.2;rw[dL] at hB;simp[h2,o6,dL];refine⟨_,hA,?_⟩;rcases(ra.2 h7).1 rfl with e|e
    .have w:i64.wrap 2=2:=aW (by omega);rw[e] at hB;simp[h7,e,w];rw[hB];exact hCc
    .have w:i64.wrap 1=1:=aW (by omega);rw[e] at hB;simp[h7,e,w];rw[hB];exact hBb
   |_=>omega
  rw[if_neg h6] at ku hB;rw[if_neg ku] at hB;have Rt:((t.args.map (cm L cs)).flatten).contains v=true↔∃a,a∈t.args/\(cm L cs a).contains v=true:=by
   simp only[List.contains_iff_mem,List.mem_flatten,dW];exact⟨λ⟨l,⟨a,h1,h2⟩,h3⟩=>⟨a,h1,h2▸h3⟩,λ⟨a,h1,h2⟩=>⟨_,⟨a,h1,rfl⟩,h2⟩⟩
  rw[<-hB] at Rt;have h6c:t.op=6->∃h0:0<t.args.length,(aH L cs t.args[0]).known=false:=by
   intro o6;cases hn with
   |ite k o6 hk=>
    obtain⟨a,b,c,dL,ea,eb,ec⟩:=zx hk;have h0:0<t.args.length:=by rw[dL];simp
    refine⟨h0,?_⟩;have c0:aT (t.args.map (aH L cs)) 0=aH L cs t.args[0]:=by rw[am0 _ _ 0 h0]
    rw[c0] at h6;cases e:(aH L cs t.args[0]).known with
    |true=>exact absurd ⟨o6,e⟩ h6
    |false=>rfl
   |_=>omega
  by_cases o6:t.op=6
  case' pos=>
   obtain⟨h0,gD⟩:=h6c o6;simp[h2,o6,h0];refine⟨_,bT _ (bW h0),?_⟩;simp[gD]
  case' neg=>
   simp[h2,o6]
  all_goals
   refine .scan t.args.length (λk=>(cm L cs (t.args.getD k default)).contains v=false) (λk=>[.bool false,.int k]) (λ_=>[]) ?_ (λk hk hj ho=>?_) (λk hk hj ho=>?_) (λhj=>?_)
   .simp
   .have hw:=bu hk (by omega);have hr:=dS _ (bW hk);simp[hk] at ho;simp[VJ,H3,hk,hw];refine⟨_,hr,?_⟩;simp[ho]
   .have hr:=dS _ (bW hk);simp[hk] at ho;have FF:B=true:=Rt.2 ⟨_,bW hk,by simpa using ho⟩;simp[VJ,H3,hk];refine⟨_,hr,?_⟩;simp[ho,FF]
   .have FF:B=false:=by
     cases e:B with
     |false=>rfl
     |true=>
      obtain⟨a,h1,h2⟩:=Rt.1 e;obtain⟨k,hk,rfl⟩:=lE h1;have:=hj k hk;simp[hk] at this h2;exact absurd h2 this
    simp[VJ,H3,FF]
def axy (t:Tm)(cs:List Cell)(ht:t.OK):ah T 83 [cQ t,cells cs] (ints (tj t cs)):=by
 refine zyw 142 aAO ?_;simp[X0];refine⟨_,U5 t ht,?_⟩;by_cases h:(jc t).2=0
 .obtain⟨h1,h2⟩:=E0 h;have hv:=TB 8 cs t _ h2;have hR:tj t cs=upto (cm 8 cs t) 20:=by
   unfold tj;rw[if_pos h,aCr λy hy=>by have:=(hv y hy).1;omega]
  rw[hR];have hr:=λv:Int=>ah3 8 cs t _ v ht h1 h2;generalize cm 8 cs t=l at*;refine aN.forRounds 20 (λk=>[.none,.int k]) (λk=>[ints (upto l k)]) ?_ (λk hk=>?_) ?_
  .simp
   try rfl
  .have hw:=bu hk (by omega);have hlen:=aCs l k;rw[aCt];have hrk:=hr (k:Int);generalize upto l k=A at*;have br:(k:Int)<20:=by omega
   simp[VI,H2,br,hw,h];refine⟨_,hrk,?_⟩;by_cases hm:(k:Int)∈l
   .simp[hm,hw];exact⟨by omega,by simp[ints]⟩
   .simp[hm,hw]
  .simp[VI,H2,h]
 .have hR:tj t cs=[]:=by unfold tj;rw[if_neg h]
  rw[hR];refine aN.forRounds 0 (λk=>[.none,.int k]) (λk=>[ints []]) ?_ (λk hk=>by omega) ?_
  .simp
   try rfl
  .simp[VI,H2,h]
   try rfl
def axG (o:Order)(ask:Int)(cs:List Cell)(ho:o.OK)(hl:o.rules.length<=4294967296):ah T 43 [gz o,.int ask,cells cs] (ints (zL o ask cs)):=by
 refine zyw 141 aA4 ?_;simp[X9];refine⟨_,ah6 o ask ho hl,?_⟩;unfold zL;by_cases h:(findF o ask).2=0
 .have RW:∃m:Nat,m<o.rules.length/\l0 o.rules.length (ln o ask)=m/\(findF o ask).1=tq o m:=by
   unfold findF at h ⊢;split at h
   .cases h
   rename_i h0;rw[if_neg h0];split at h
   .cases h
   rename_i h1;rw[if_neg h1];split at h
   .cases h
   rename_i h2;rw[if_neg h2];rcases wW o.rules.length (ln o ask) with⟨g1,g2⟩|⟨m,hm,g1,g2,g3⟩
   .exact absurd (by rw[g1];decide) h1
   .exact⟨m,hm,g1,by rw[g1]⟩
  obtain⟨m,hm,g1,g2⟩:=RW;have zf:o.rules[m].term.OK:=II ho hm;have mm:(findF o ask).1=o.rules[m].term:=by rw[g2];simp[tq,hm]
  simp[h,mm];refine⟨_,Va o ask hl,?_⟩;rw[g1];simp[hm];exact axy _ cs zf
 .simp[h]
  try rfl
def al8 {r:Realm}{forum q:Int}{c:Case}:(fB r forum q c).order=(cO r forum q c).1.order:=by unfold fB;split<;>rfl
def axN (r:Realm)(hr:Right r)(hc:fC r=0)(jK:r.cities.length<=100000)(forum q:Int)(c:Case)(hf:FewS c.file):ah T 21 [aU r,.int forum,.int q,dJ c] (ints (xc r forum q c)):=by
 refine zyw 140 aBi ?_;simp[Yn];refine⟨_,Vb r hr hc jK forum q c hf,?_⟩;have ho:=PK hr forum q c;have dF:=Vc r jK c hf;have e1:=al8 (r:=r) (forum:=forum) (q:=q) (c:=c);unfold xc;by_cases h:(cO r forum q c).1.order=-1
 .rw[if_pos h];simp[e1,h]
  try rfl
 .rw[if_neg h];have h1:0<=(cO r forum q c).1.order/\(cO r forum q c).1.order<r.orders.length:=by omega
  have h2:(cO r forum q c).1.order.toNat<r.orders.length:=by omega
  have h3:fT r (cO r forum q c).1.order=r.orders[(cO r forum q c).1.order.toNat]:=by simp[fT,h2]
  have h4:(cO r forum q c).2=dD r (bH c):=by
   unfold cO at h ⊢;split at h
   .exact absurd rfl h
   split at h
   .exact absurd rfl h
   split at h
   .exact absurd rfl h
   rename_i a1 a2 a3;rw[if_neg a1,if_neg a2,if_neg a3]
  obtain⟨av,hlen⟩:=hr.ok _ (bW h2);rw[h3,h4];simp[e1,h,h1,h2];refine⟨_,dF,?_⟩;exact axG _ q _ av (by omega)
def aha {r:Realm}(hr:Right r)(forum q:Int)(c:Case):(fB r forum q c).path.length<=100001:=by
 have:(fB r forum q c).path=(cO r forum q c).1.path:=by unfold fB;split<;>rfl
 rw[this];unfold cO;split
 .simp[xd]
 split
 .simp[xd]
 split
 .simp[xd]
 .have h1:=Ti r forum q (fU r forum (bH c));have h2:=hr.len;show(dg r forum q (fU r forum (bH c))).1.length<=_;omega
def axO (s:Said):ah T 14 [iO s] (.int (IZ s)):=by
 refine zyw 138 aBn ?_;unfold IZ;by_cases h1:s.err=0<;>cases h2:s.cell.known<;>by_cases h3:s.cell.n=0<;>simp[Yq,h1,h2,h3]
def ajy:PT:=
 (.call ⟨[],[]⟩ [(98,true)] 110 23 [(aq 8 o5),r1,(aq 19 o8),r4] (.ret (.pick NP (peq Ho ahS) pF)))
def ajI:PT:=
 (.call ⟨[(98,(.pick bV (.pick rJ Af pF) pF))],[]⟩ [(98,true)] 104 22 [(aq 8 o5),r1,(aq 19 o8),r4] ajy)
def ajK:PT:=
 (.call ⟨[],[]⟩ [(81,true)] 92 17 [HA,Dx] ajI)
def ajL:PT:=
 (.call ⟨[],[]⟩ [(81,true)] 91 21 [(aq 8 o5),r1,r2,(aq 24 o8)] ajK)
def ajM:PT:=
 (.call ⟨[(81,th)],[]⟩ [(81,true)] 86 20 [(aq 8 o5),r1,r2,(aq 24 o8)] ajL)
def ajN:PT:=
 (.call ⟨[],[]⟩ [] 80 17 [vb,Dw] ajM)
def ajO:PT:=
 (.call ⟨[],[]⟩ [] 79 19 [(aq 8 o5),r1,(aq 24 o8)] ajN)
def ajP:PT:=
 (.call ⟨[],[]⟩ [] 75 18 [(aq 8 o5),r1,(aq 24 o8)] ajO)
def ajQ:PT:=
 (.call ⟨[],[]⟩ [(65,false)] 69 16 [(aq 5 MT)] (.ite (.pick Hv pT (aR qe oI)) (.ret pF) ajP))
def ajz:PT:=
 (.call ⟨[(65,(.pick xq pT (aR xr qd)))],[]⟩ [(65,false)] 67 15 [(aq 5 MS)] ajQ)
def ajA:PT:=
 (.call ⟨[],[]⟩ [(58,false)] 62 14 [(aq 5 zG)] ajz)
def ajB:PT:=
 (.call ⟨[(58,(.pick tg pT (.nt va)))],[]⟩ [(58,false)] 60 13 [(aq 5 MR)] ajA)
def ajC:PT:=
 (.call ⟨[(52,(.nt nD))],[]⟩ [(52,false)] 55 12 [(aq 5 MS),(aq 5 MT)] ajB)
def ajD:PT:=
 (.call ⟨[],[(15,(.setc (.con (.agg [(.bool false),(.int 0),(.int 0),(.list []),(.int 0)])) 0 Vd))]⟩ [] 50 12 [(aq 5 MR),(aq 5 zG)] ajC)
def ajE:PT:=
 (.call ⟨[],[(14,(.setc (.con (.agg [(.bool false),(.int 0),(.int 0),(.list []),(.int 0)])) 0 ma))]⟩ [] 47 11 [(aq 8 o5),r1,r2,(aq 19 o8),r4] ajD)
def ajF:PT:=
 (.call ⟨[],[(13,(.setc (.con (.agg [(.bool false),(.int 0),(.int 0),(.list []),(.int 0)])) 0 oH))]⟩ [] 40 10 [(aq 8 o5),r1,r2,(aq 19 o8),r4] ajE)
def ajG:PT:=
 (.call ⟨[],[(12,(.setc (.con (.agg [(.bool false),(.int 0),(.int 0),(.list []),(.int 0)])) 0 nB))]⟩ [] 33 9 [(aq 8 o5),r1,r2,(aq 24 o8)] ajF)
def ZF:PT:=
 (.call ⟨[],[]⟩ [] 28 8 [(aq 8 o5),r1,r2,(aq 24 o8)] ajG)
def ajH:PT:=
 (.call ⟨[(11,iy)],[]⟩ [] 21 7 [(aq 8 o5),(aq 19 o8)] (.ite (.nt jt) (.ret bV) ZF))
def ajJ:PT:=
 (.call ⟨[],[(8,(.mk [r3])),(5,(.mk [r0]))]⟩ [] 17 6 [] ajH)
def azR:Xc=ajJ:=rfl
def ak9 (r:Realm)(hr:r.OK)(forum q:Int)(c:Case)(day:Int):ah T 3 [aU r,.int forum,.int q,dJ c,.int day] (.bool true):=by
 refine zyw 0 azS ?_;rw[azR];simp[ajJ];refine⟨_,ayH,?_⟩;simp[ajH];refine⟨_,amy r hr c.file,?_⟩;cases hg:yE r c.file
 .simp[ZF]
 have G:=aqi hr hg;have gR:fC r=0:=by simp[yE] at hg;exact hg.2
 have jK:r.cities.length<=100000:=by have:=G.rightD.small.cities;omega
 have a1:=PL r G.right forum q c G.few;have a2:=Vb r G.right gR jK forum q c G.few;have b1:=aay r G.right forum q c.file day G.few;have b2:=ah8 r G.right gR jK forum q c.file day G.few;have n1:=al6 r G.right forum q c G.few;have n2:=axN r G.right gR jK forum q c G.few;have p1:=aaz r forum c G.few;have p2:=aia r gR jK forum c G.few;have m1:=aah r G.right G.rightD forum c.file day G.few;have m2:=axM r G.right G.rightD gR jK forum c.file day G.few;have sn:=NG (xc r forum q c) (by have:=avT r forum q c;omega);have sp:=NG (dA r forum c) (by
  unfold dA;split
  .simp
  .have:=UA r forum (bH c);omega)
 have sa:=Hr (fB r forum q c) (ij (aha G.right forum q c) (by omega));have sb:=Hr (il r forum q c.file day) (ij (aha G.right forum q _) (by omega));have t1:=Jp (fB r forum q c);have t2:=axO (fB r forum q c);have k1:=PM (il r forum q c.file day);have k2:=ah9 (il r forum q c.file day);generalize fB r forum q c=a at*;generalize il r forum q c.file day=b at*;generalize xc r forum q c=n at*;generalize dA r forum c=p at*;generalize rn r forum c.file day=m at*;simp[ZF];refine⟨_,a1,?_⟩;simp[ajG];refine⟨_,a2,?_⟩;simp[ajF];refine⟨_,b1,?_⟩;simp[ajE];refine⟨_,b2,?_⟩;simp[ajD];refine⟨_,sa,?_⟩;simp[ajC];refine⟨_,sb,?_⟩;simp[ajB];refine⟨_,t1,?_⟩;simp[ajA];refine⟨_,t2,?_⟩;simp[ajz];refine⟨_,k1,?_⟩;simp[ajQ];refine⟨_,k2,?_⟩;simp[ajP];refine⟨_,p1,?_⟩;simp[ajO];refine⟨_,p2,?_⟩;simp[ajN];refine⟨_,sp,?_⟩;simp[ajM];refine⟨_,n1,?_⟩;simp[ajL];refine⟨_,n2,?_⟩;simp[ajK];refine⟨_,sn,?_⟩;simp[ajI];refine⟨_,m1,?_⟩;simp[ajy];refine⟨_,m2,?_⟩;simp
end Rm
