/-
  Shared texts of this claim.
-/
import Derived.Test.YtepfoekldooaeaaGreatDoorKAO
set_option linter.unusedSimpArgs false
set_option linter.unusedVariables false
namespace Rm
open Go Go.Proofs Cx
theorem Xg {v1 v0 u32 d:Nat}(hv:0<v1)(hd:d<4294967296)(hu:u32<v1*4294967296+v0):(u32*4294967296+d)/(v1*4294967296+v0)≤u32/v1:=by
 have h1:(u32*4294967296+d)/(v1*4294967296+v0)≤(u32*4294967296+d)/(v1*4294967296):=Nat.div_le_div_left (by omega) (by omega);have h2:(u32*4294967296+d)/(v1*4294967296)=u32/v1:=by
  rw[Nat.mul_comm v1,←Nat.div_div_eq_div_mul]
  congr 1;omega
 omega
theorem Xj {v1 v0 u32:Nat}(jm:v0<4294967296)(aP:2147483648≤v1)(hu:u32<v1*4294967296+v0):u32/v1≤4294967297:=by
 have h1:u32/v1*v1≤u32:=Nat.div_mul_le_self u32 v1;have h2:u32/v1*v1<4294967298*v1:=by omega
 have:=Nat.lt_of_mul_lt_mul_right h2;omega
theorem N9 (q v1 v0:Nat):q*(v1*4294967296+v0)=q*v1*4294967296+q*v0:=by rw[Nat.mul_add,Nat.mul_assoc]
theorem Xi {v1 v0 u32 d q r:Nat}(hu:u32<v1*4294967296+v0)(hd:d<4294967296)(h1:q*v1+r=u32)(c:4294967296≤q∨4294967296*r+d<q*v0):(u32*4294967296+d)/(v1*4294967296+v0)<q:=by
 rw[Nat.div_lt_iff_lt_mul (by omega)];rcases c with c|c
 ·have h2:4294967296*(v1*4294967296+v0)≤q*(v1*4294967296+v0):=Nat.mul_le_mul_right _ c;omega
 ·rw[N9];omega
theorem Xh {v1 v0 u32 d q r:Nat}(hv:0<v1)(h1:q*v1+r=u32)(c:q*v0≤4294967296*r+d):q≤(u32*4294967296+d)/(v1*4294967296+v0):=by
 rw[Nat.le_div_iff_mul_le (by omega),N9];omega
theorem Xf {v1 v0 u32 d q r:Nat}(jm:v0<4294967296)(h1:q*v1+r=u32)(hu:u32<v1*4294967296+v0)(c:4294967296≤r):q≤(u32*4294967296+d)/(v1*4294967296+v0):=by
 have hv:0<v1*4294967296+v0:=by omega
 have hq:q<4294967296:=by
  rcases Nat.lt_or_ge q 4294967296 with h|h
  ·exact h
  ·have:4294967296*v1≤q*v1:=Nat.mul_le_mul_right _ h;omega
 have h2:q*v0≤4294967295*4294967295:=Nat.mul_le_mul (by omega) (by omega);rw[Nat.le_div_iff_mul_le hv,N9];omega
theorem avy (ρ:Env)(q0 r0 v1 v0 u32 d:Nat)(jm:v0<4294967296)(aP:2147483648≤v1)(auW:v1<4294967296)(hd:d<4294967296)(hu:u32<v1*4294967296+v0)
 (hq:q0=u32/v1) (hr:r0=u32%v1) (h9:ρ.r 9=u v1) (gP:ρ.r 10=u v0) (sO:ρ.r 13=u d) (vw:ρ.r 15=u q0) (PS:ρ.r 16=u r0) (K:Env→Prop) (Q:Out→Prop)
 (hK:∀ρ':Env,ρ'.r 15=u ((u32*4294967296+d)/(v1*4294967296+v0))→(∀t,t∉[15,16,67,68,69,78]→ρ'.r t=ρ.r t)→K ρ'):aO T (CM uI) ρ (fu K Q):=by
 have dm:=fun q r=>Xi (v1:=v1) (v0:=v0) (u32:=u32) (d:=d) (q:=q) (r:=r) hu hd;have dl:=fun q r=>Xh (v1:=v1) (v0:=v0) (u32:=u32) (d:=d) (q:=q) (r:=r) (by omega);have dd:=fun q r=>Xf (v1:=v1) (v0:=v0) (u32:=u32) (d:=d) (q:=q) (r:=r) jm;have di:=Xg (v1:=v1) (v0:=v0) (u32:=u32) (d:=d) (by omega) hd hu;have hQ0:0≤(u32*4294967296+d)/(v1*4294967296+v0):=Nat.zero_le _;generalize (u32*4294967296+d)/(v1*4294967296+v0)=QQ at*;refine aO.forLoop (α:=Nat×Nat) (fun s vr vo=>s.1*v1+s.2=u32∧QQ≤s.1∧s.2<4294967296∧s.1≤4294967297∧vr=[u s.1,u s.2]∧vo=[]) (fun s=>s.1) (q0,r0) ⟨?_,?_,?_,?_,?_,rfl⟩ ?_
 ·subst hq hr;exact Nat.div_add_mod' u32 v1
 ·subst hq;exact di
 ·subst hr;have:=Nat.mod_lt u32 (show v1>0 by omega);omega
 ·subst hq;exact Xj jm aP hu
 ·simp[vw,PS]
 ·rintro⟨q,r⟩ vr vo ⟨h1,h2,h3,h4,rfl,rfl⟩;dsimp only at h1 h2 h3 h4;have hm:q*v0≤4294967297*4294967295:=Nat.mul_le_mul h4 (by omega);have w1:IntKind.u64.wrap ((q:Int)*(v0:Int))=(q*v0:Nat):=by rw[←Int.natCast_mul];exact dT (by omega)
  have w2:IntKind.u64.wrap (4294967296*(r:Int))=(4294967296*r:Nat):=by rw[iS (by omega)];omega
  have w3:IntKind.u64.wrap (((4294967296*r:Nat):Int)+(d:Int))=(4294967296*r+d:Nat):=by rw[iS (by omega)];omega
  have dm:=dm q r h1;have dl:=dl q r h1;generalize q*v0=M at*;by_cases c:4294967296≤q∨4294967296*r+d<M
  ·have af:=dm c;have w4:IntKind.u64.wrap ((q:Int)-1)=(q-1:Nat):=by rw[iS (by omega)];omega
   have w5:IntKind.u64.wrap ((r:Int)+(v1:Int))=(r+v1:Nat):=by rw[iS (by omega)];omega
   have e1:(q-1)*v1+(r+v1)=u32:=by rw[Nat.sub_mul,Nat.one_mul];have:v1≤q*v1:=Nat.le_mul_of_pos_left v1 (by omega);omega
   have qQ:(4294967296:Int)≤(q:Int)∨4294967296*r+d<M:=by omega
   by_cases c2:4294967296≤r+v1
   ·have uK:(4294967296:Int)≤((r+v1:Nat):Int):=by omega
    have:=dd _ _ e1 hu c2;have e2:q-1=QQ:=by omega
    simp[Sl,Dt,h9,gP,sO,w1,w2,w3,w4,w5,qQ,uK,-Int.natCast_add,-Int.natCast_mul];refine hK _ ?_ ?_
    ·simp[w4,e2]
    ·intro t ht;simp at ht;simp[ht]
   ·have uK:¬(4294967296:Int)≤((r+v1:Nat):Int):=by omega
    simp[Sl,Dt,h9,gP,sO,w1,w2,w3,w4,w5,qQ,uK,-Int.natCast_add,-Int.natCast_mul];exact⟨q-1,by omega,r+v1,e1,by omega,by omega,by omega,rfl,rfl⟩
  ·have:=dl (by omega);have e2:q=QQ:=by omega
   have qQ:¬((4294967296:Int)≤(q:Int)):=by omega
   have NU:¬(4294967296*r+d<M):=by omega
   simp[Sl,Dt,h9,gP,sO,w1,w2,w3,qQ,NU,-Int.natCast_add,-Int.natCast_mul];refine hK _ ?_ ?_
   ·simp[e2]
   ·intro t ht;simp at ht;simp[ht]
theorem avz (ρ:Env)(q0 r0 v1 v0 u32 d:Nat)(jm:v0<4294967296)(aP:2147483648≤v1)(auW:v1<4294967296)(hd:d<4294967296)(hu:u32<v1*4294967296+v0)
 (hq:q0=u32/v1) (hr:r0=u32%v1) (h9:ρ.r 9=u v1) (gP:ρ.r 10=u v0) (sO:ρ.r 14=u d) (vw:ρ.r 18=u q0) (PS:ρ.r 16=u r0) (K:Env→Prop) (Q:Out→Prop)
 (hK:∀ρ':Env,ρ'.r 18=u ((u32*4294967296+d)/(v1*4294967296+v0))→(∀t,t∉[16,18,102,103,104,113]→ρ'.r t=ρ.r t)→K ρ'):aO T (CN uI) ρ (fu K Q):=by
 have dm:=fun q r=>Xi (v1:=v1) (v0:=v0) (u32:=u32) (d:=d) (q:=q) (r:=r) hu hd;have dl:=fun q r=>Xh (v1:=v1) (v0:=v0) (u32:=u32) (d:=d) (q:=q) (r:=r) (by omega);have dd:=fun q r=>Xf (v1:=v1) (v0:=v0) (u32:=u32) (d:=d) (q:=q) (r:=r) jm;have di:=Xg (v1:=v1) (v0:=v0) (u32:=u32) (d:=d) (by omega) hd hu;have hQ0:0≤(u32*4294967296+d)/(v1*4294967296+v0):=Nat.zero_le _;generalize (u32*4294967296+d)/(v1*4294967296+v0)=QQ at*;refine aO.forLoop (α:=Nat×Nat) (fun s vr vo=>s.1*v1+s.2=u32∧QQ≤s.1∧s.2<4294967296∧s.1≤4294967297∧vr=[u s.2,u s.1]∧vo=[]) (fun s=>s.1) (q0,r0) ⟨?_,?_,?_,?_,?_,rfl⟩ ?_
 ·subst hq hr;exact Nat.div_add_mod' u32 v1
 ·subst hq;exact di
 ·subst hr;have:=Nat.mod_lt u32 (show v1>0 by omega);omega
 ·subst hq;exact Xj jm aP hu
 ·simp[vw,PS]
 ·rintro⟨q,r⟩ vr vo ⟨h1,h2,h3,h4,rfl,rfl⟩;dsimp only at h1 h2 h3 h4;have hm:q*v0≤4294967297*4294967295:=Nat.mul_le_mul h4 (by omega);have w1:IntKind.u64.wrap ((q:Int)*(v0:Int))=(q*v0:Nat):=by rw[←Int.natCast_mul];exact dT (by omega)
  have w2:IntKind.u64.wrap (4294967296*(r:Int))=(4294967296*r:Nat):=by rw[iS (by omega)];omega
  have w3:IntKind.u64.wrap (((4294967296*r:Nat):Int)+(d:Int))=(4294967296*r+d:Nat):=by rw[iS (by omega)];omega
  have dm:=dm q r h1;have dl:=dl q r h1;generalize q*v0=M at*;by_cases c:4294967296≤q∨4294967296*r+d<M
  ·have af:=dm c;have w4:IntKind.u64.wrap ((q:Int)-1)=(q-1:Nat):=by rw[iS (by omega)];omega
   have w5:IntKind.u64.wrap ((r:Int)+(v1:Int))=(r+v1:Nat):=by rw[iS (by omega)];omega
   have e1:(q-1)*v1+(r+v1)=u32:=by rw[Nat.sub_mul,Nat.one_mul];have:v1≤q*v1:=Nat.le_mul_of_pos_left v1 (by omega);omega
   have qQ:(4294967296:Int)≤(q:Int)∨4294967296*r+d<M:=by omega
   by_cases c2:4294967296≤r+v1
   ·have uK:(4294967296:Int)≤((r+v1:Nat):Int):=by omega
    have:=dd _ _ e1 hu c2;have e2:q-1=QQ:=by omega
    simp[Sm,Du,h9,gP,sO,w1,w2,w3,w4,w5,qQ,uK,-Int.natCast_add,-Int.natCast_mul];refine hK _ ?_ ?_
    ·simp[w4,e2]
    ·intro t ht;simp at ht;simp[ht]
   ·have uK:¬(4294967296:Int)≤((r+v1:Nat):Int):=by omega
    simp[Sm,Du,h9,gP,sO,w1,w2,w3,w4,w5,qQ,uK,-Int.natCast_add,-Int.natCast_mul];exact⟨q-1,by omega,r+v1,e1,by omega,by omega,by omega,rfl,rfl⟩
  ·have:=dl (by omega);have e2:q=QQ:=by omega
   have qQ:¬((4294967296:Int)≤(q:Int)):=by omega
   have NU:¬(4294967296*r+d<M):=by omega
   simp[Sm,Du,h9,gP,sO,w1,w2,w3,qQ,NU,-Int.natCast_add,-Int.natCast_mul];refine hK _ ?_ ?_
   ·simp[e2]
   ·intro t ht;simp at ht;simp[ht]
end Rm
namespace Rm
open Go Go.Proofs Cx
def bh:Nat→List Cell→Tm→Cell
 |0,_,_=>dI
 |L+1,cs,t=>if t.op=0∨t.op=1 then⟨true,t.n⟩ else if t.op=2 then jz cs t.n else
   if t.op=6∧(aN (t.args.map (bh L cs)) 0).known=true then aN (t.args.map (bh L cs)) (2-(aN (t.args.map (bh L cs)) 0).n).toNat else fa t.op (t.args.map (bh L cs))
def dQ:Nat→List Cell→Tm→List Int
 |0,_,_=>[]
 |L+1,cs,t=>if t.op=0∨t.op=1 then[] else if t.op=2 then(if(jz cs t.n).known=true then[] else[t.n]) else
   if t.op=6∧(aN (t.args.map (bh L cs)) 0).known=true then(t.args.map (dQ L cs)).getD (2-(aN (t.args.map (bh L cs)) 0).n).toNat [] else
   if(fa t.op (t.args.map (bh L cs))).known=true then[] else(t.args.map (dQ L cs)).flatten
theorem xw (L:Nat)(cs:List Cell)(t:Tm):bh (L+1) cs t=if t.op=0∨t.op=1 then⟨true,t.n⟩ else if t.op=2 then jz cs t.n else
 if t.op=6∧(aN (t.args.map (bh L cs)) 0).known=true then aN (t.args.map (bh L cs)) (2-(aN (t.args.map (bh L cs)) 0).n).toNat else fa t.op (t.args.map (bh L cs)):=rfl
theorem Il (L:Nat)(cs:List Cell)(t:Tm):dQ (L+1) cs t=if t.op=0∨t.op=1 then[] else if t.op=2 then(if(jz cs t.n).known=true then[] else[t.n]) else
 if t.op=6∧(aN (t.args.map (bh L cs)) 0).known=true then(t.args.map (dQ L cs)).getD (2-(aN (t.args.map (bh L cs)) 0).n).toNat [] else
 if(fa t.op (t.args.map (bh L cs))).known=true then[] else(t.args.map (dQ L cs)).flatten:=rfl
theorem GA {L:Nat}{t:Tm}{k:Int}(h:bP (L+1) t=(k,0)):(∀a,a∈t.args→(bP L a).2=0)∧vY t (t.args.map fun a=>(bP L a).1)=(k,0):=by
 rw[N1] at h;by_cases e:fc t.args.length (fun k=>(bP L (t.args.getD k default)).2)=0
 ·rw[if_neg (by simpa using e)] at h;refine⟨fun a ha=>?_,h⟩;obtain⟨j,hj,rfl⟩:=List.getElem_of_mem ha;have:=Ov.1 e j hj;simpa [hj] using this
 ·rw[if_pos e] at h;injection h with _ h
  exact absurd h e
inductive Node (ks:List Int) (t:Tm):Int→Prop where
 |int (h:t.op=0) (ha:t.args=[]) (hn:-1099511627776≤t.n∧t.n≤1099511627776):Node ks t 0
 |bool (h:t.op=1) (ha:t.args=[]) (hn:t.n=0∨t.n=1):Node ks t 1
 |var (h:t.op=2) (ha:t.args=[]) (hn:0≤t.n∧t.n≤19):Node ks t (lR t.n).1
 |not (h:t.op=3) (hk:ks=[1]):Node ks t 1
 |log (h:t.op=4∨t.op=5) (hk:ks=[1,1]):Node ks t 1
 |ite (k:Int) (h:t.op=6) (hk:ks=[1,k,k]):Node ks t k
 |less (h:t.op=7) (hk:ks=[0,0]):Node ks t 1
 |equal (k:Int) (h:t.op=8) (hk:ks=[k,k]):Node ks t 1
 |num (h:9≤t.op∧t.op≤13) (hk:ks=[0,0]):Node ks t 0
theorem aCh (v:Int):(lR v).1=0∨(lR v).1=1:=by
 unfold lR;repeat' split
 all_goals simp
theorem aw2 {t:Tm}{ks:List Int}{k:Int}(hl:ks.length=t.args.length)(hH:∀x,x∈ks→x=0∨x=1)(h:vY t ks=(k,0)):Node ks t k:=by
 unfold vY at h;split at h
 ·injection h with _ h;cases h
 rename_i bF;split at h
 ·rename_i h3;unfold CJ at h;split at h
  ·injection h with _ h;cases h
  rename_i ha0;have ha:t.args=[]:=List.eq_nil_of_length_eq_zero (by omega);split at h
  ·rename_i h0;split at h
   ·injection h with _ h;cases h
   ·rename_i hc;injection h with h _
    subst h;refine .int h0 ha ?_;unfold oc at hc;omega
  split at h
  ·rename_i h0;split at h
   ·injection h with _ h;cases h
   ·rename_i hc;injection h with h _
    subst h;exact .bool h0 ha (by omega)
  split at h
  ·injection h with _ h;cases h
  ·rename_i g0 g1 hc;injection h with h _
   subst h;refine .var (by omega) ha ?_;unfold lR at hc;split at hc
   ·simp at hc
   ·omega
 rename_i h3;split at h
 ·injection h with _ h;cases h
 rename_i hlen;have nr:ks.length=(eI t.op).1.length:=by
  refine Classical.byContradiction fun hh=>hlen (.inl hh)
 split at h
 ·injection h with _ h;cases h
 rename_i az;have ji:∀j,j<(eI t.op).1.length→ny (eI t.op).1 ks j=true:=zS.1 (by simpa using az)
 have two:∀{n:Nat},ks.length=2→∃a b,ks=[a,b]:=fun h=>by
  match ks,h with
  |[a,b],_=>exact⟨a,b,rfl⟩
 by_cases o3:t.op=3
 ·have e:eI t.op=([1],1):=by simp[eI,o3]
  rw[e] at nr ji h
  match ks,nr with
  |[a],_=>
   have:=ji 0 (by simp);simp[ny] at this;simp at h;subst h this;exact .not o3 rfl
 by_cases Is:t.op=4∨t.op=5
 ·have e:eI t.op=([1,1],1):=by simp[eI,o3,Is]
  rw[e] at nr ji h
  match ks,nr with
  |[a,b],_=>
   have t1:=ji 0 (by simp);have t2:=ji 1 (by simp);simp[ny] at t1 t2;simp at h;subst h t1 t2;exact .log Is rfl
 by_cases o6:t.op=6
 ·have e:eI t.op=([1,-1,-1],-1):=by simp[eI,o6]
  rw[e] at nr ji h
  match ks,nr,hH with
  |[a,b,c],_,hH=>
   have t1:=ji 0 (by simp);have t3:=ji 2 (by simp);have hb:=hH b (by simp);have pS:¬b=-1:=by omega
   simp[ny] at t1;simp[ny,mM,pS] at t3;simp[mM,pS] at h;subst h t1 t3;exact .ite _ o6 rfl
 by_cases o7:t.op=7
 ·have e:eI t.op=([0,0],1):=by simp[eI,o7]
  rw[e] at nr ji h
  match ks,nr with
  |[a,b],_=>
   have t1:=ji 0 (by simp);have t2:=ji 1 (by simp);simp[ny] at t1 t2;simp at h;subst h t1 t2;exact .less o7 rfl
 by_cases o8:t.op=8
 ·have e:eI t.op=([-1,-1],1):=by simp[eI,o8]
  rw[e] at nr ji h
  match ks,nr,hH with
  |[a,b],_,hH=>
   have t2:=ji 1 (by simp);have ha:=hH a (by simp);have han:¬a=-1:=by omega
   simp[ny,mM,han] at t2;simp at h;subst h t2;exact .equal _ o8 rfl
 have e:eI t.op=([0,0],0):=by simp[eI,o3,Is,o6,o7,o8]
 rw[e] at nr ji h
 match ks,nr with
 |[a,b],_=>
  have t1:=ji 0 (by simp);have t2:=ji 1 (by simp);simp[ny] at t1 t2;simp at h;subst h t1 t2;exact .num (by omega) rfl
theorem GB:∀{L:Nat} {t:Tm} {k:Int},bP (L+1) t=(k,0)→Node (t.args.map fun a=>(bP L a).1) t k∧(k=0∨k=1)
 |L,t,k,h=>by
  obtain⟨h1,h2⟩:=GA h
  have hH:∀x,x∈(t.args.map fun a=>(bP L a).1)→x=0∨x=1:=by
   intro x hx;obtain⟨a,ha,rfl⟩:=List.mem_map.1 hx;cases L with
   |zero=>exact .inl rfl
   |succ L=>exact(GB (L:=L) (t:=a) (k:=(bP (L+1) a).1) (by rw[←h1 a ha])).2
  have hn:=aw2 (by simp) hH h2;refine⟨hn,?_⟩;cases hn with
  |int=>simp
  |bool=>simp
  |var=>exact aCh _
  |not=>simp
  |log=>simp
  |ite k _ hk=>exact hH k (by rw[hk];simp)
  |less=>simp
  |equal=>simp
  |num=>simp
end Rm
namespace Rm
open Go Go.Proofs Cx
def se (k:Int)(c:Cell):Prop:=(c.known=false→c=dI)∧(c.known=true→(k=1→c.n=0∨c.n=1)∧(k=0→-1099511627776≤c.n∧c.n≤1099511627776))
theorem ua (k:Int):se k dI:=⟨fun _=>rfl,fun h=>by cases h⟩
theorem zm (b:Bool):se 1 (dU b):=⟨fun h=>(by cases b<;>cases h),fun _=>⟨fun _=>(by cases b<;>simp[dU]),fun h=>by cases h⟩⟩
theorem N7 (n:Int):-1099511627776≤oc n∧oc n≤1099511627776:=by unfold oc;omega
theorem ay1 (cs:List Cell)(v:Int)(hv:0≤v∧v≤19):se (lR v).1 (jz cs v):=by
 unfold jz;split
 ·exact ua _
 ·split
  ·rename_i h;rw[h];exact zm _
  ·rename_i h;refine⟨fun h=>(by cases h),fun _=>⟨fun h'=>absurd h' h,fun _=>N7 _⟩⟩
theorem ayh (a b:Int):-1099511627776≤yW a b∧yW a b≤1099511627776:=by
 unfold yW;have:=aeT (a.natAbs*b.natAbs);split<;>omega
theorem aij (op a b:Int)(ha:-1099511627776≤a∧a≤1099511627776)(hb:-1099511627776≤b∧b≤1099511627776):-1099511627776≤xf op a b∧xf op a b≤1099511627776:=by
 unfold xf;split
 ·exact N7 _
 split
 ·exact N7 _
 split
 ·exact ayh _ _
 split<;>omega
theorem awE {α β:Type}{f:α→β}{l:List α}{x:β}(h:l.map f=[x]):∃a,l=[a]∧f a=x:=by
 match l,h with
 |[a],h=>exact⟨a,rfl,by simpa using h⟩
theorem yr {α β:Type}{f:α→β}{l:List α}{x y:β}(h:l.map f=[x,y]):∃a b,l=[a,b]∧f a=x∧f b=y:=by
 match l,h with
 |[a,b],h=>exact⟨a,b,rfl,by simpa using h⟩
theorem Ia {α β:Type}{f:α→β}{l:List α}{x y z:β}(h:l.map f=[x,y,z]):∃a b c,l=[a,b,c]∧f a=x∧f b=y∧f c=z:=by
 match l,h with
 |[a,b,c],h=>exact⟨a,b,c,rfl,by simpa using h⟩
theorem On:∀{L:Nat} {t:Tm} {k:Int} (cs:List Cell),bP L t=(k,0)→se k (bh L cs t)
 |0,t,k,cs,h=>ua _
 |L+1,t,k,cs,h=>by
  obtain⟨hn,hk⟩:=GB h;obtain⟨ha,_⟩:=GA h;have ih:∀a,a∈t.args→se (bP L a).1 (bh L cs a):=fun a hm=>On cs (show bP L a=((bP L a).1,0) by rw[←ha a hm]);rw[xw];cases hn with
  |int h0 ha hn=>rw[if_pos (.inl h0)];exact⟨fun h=>(by cases h),fun _=>⟨fun h=>(by cases h),fun _=>hn⟩⟩
  |bool h0 ha hn=>rw[if_pos (.inr h0)];exact⟨fun h=>(by cases h),fun _=>⟨fun _=>hn,fun h=>by cases h⟩⟩
  |var h0 ha hn=>rw[if_neg (by omega),if_pos h0];exact ay1 cs _ hn
  |not h0 hk=>
   rw[if_neg (by omega),if_neg (by omega),if_neg (by omega)];unfold fa;rw[if_pos h0];split
   ·exact zm _
   ·exact ua _
  |log h0 hk=>
   rw[if_neg (by omega),if_neg (by omega),if_neg (by omega)];unfold fa;rw[if_neg (by omega)];split
   ·exact zm _
   rw[if_neg (by omega)];split
   ·exact ua _
   exact zm _
  |ite k h0 ct=>
   obtain⟨a,b,c,hl,e1,e2,e3⟩:=Ia ct;rw[hl] at ih ⊢;have r1:=ih a (by simp);have r2:=ih b (by simp);have r3:=ih c (by simp);rw[e1] at r1;rw[e2] at r2;rw[e3] at r3;rw[if_neg (by omega),if_neg (by omega)];simp only[List.map_cons,List.map_nil,aN,List.getD_cons_zero];split
   ·rename_i hh;rcases(r1.2 hh.2).1 rfl with h1|h1<;>rw[h1]
    ·exact r3
    ·exact r2
   ·unfold fa;rw[if_neg (by omega),if_neg (by omega),if_pos h0];simp only[aN,List.getD_cons_zero,List.getD_cons_succ];split
    ·exact r2
    ·exact ua _
  |less h0 hk=>
   rw[if_neg (by omega),if_neg (by omega),if_neg (by omega)];unfold fa;rw[if_neg (by omega),if_neg (by omega),if_neg (by omega)];split
   ·exact ua _
   repeat' split
   all_goals exact zm _
  |equal k h0 hk=>
   rw[if_neg (by omega),if_neg (by omega),if_neg (by omega)];unfold fa;rw[if_neg (by omega),if_neg (by omega),if_neg (by omega)];split
   ·exact ua _
   repeat' split
   all_goals exact zm _
  |num h0 ct=>
   obtain⟨a,b,hl,e1,e2⟩:=yr ct;rw[hl] at ih ⊢;have r1:=ih a (by simp);have r2:=ih b (by simp);rw[e1] at r1;rw[e2] at r2;rw[if_neg (by omega),if_neg (by omega),if_neg (by omega)];unfold fa;rw[if_neg (by omega),if_neg (by omega),if_neg (by omega)];simp only[List.map_cons,List.map_nil,aN,List.getD_cons_zero,List.getD_cons_succ];split
   ·exact ua _
   rename_i oC;rw[if_neg (by omega),if_neg (by omega),if_neg (by omega)];have k1:(bh L cs a).known=true:=by
    cases e:(bh L cs a).known with
    |true=>rfl
    |false=>exact absurd (.inl e) oC
   have k2:(bh L cs b).known=true:=by
    cases e:(bh L cs b).known with
    |true=>rfl
    |false=>exact absurd (.inr e) oC
   exact⟨fun h=>(by cases h),fun _=>⟨fun h=>(by cases h),fun _=>aij _ _ _ ((r1.2 k1).2 rfl) ((r2.2 k2).2 rfl)⟩⟩
theorem acP:∀(L:Nat) (cs:List Cell) (t:Tm),cG L t≤60→((dQ L cs t).length:Int)≤cG L t
 |0,cs,t,h=>by simp[cG] at h
 |L+1,cs,t,h=>by
  have h1:=vV (L+1) t;obtain⟨hl,hp⟩:=QC h;have hs:∀(l:List Tm) (n:Int),(∀a,a∈l→cG L a≤60)→fm (cG L) l n≤60→((l.map (dQ L cs)).flatten.length:Int)+n≤fm (cG L) l n∧∀j,(((l.map (dQ L cs)).getD j []).length:Int)+n≤fm (cG L) l n:=by
   intro l
   induction l with
   |nil=>intro n _ _;simp[fm]
   |cons a l ih=>
    intro n hp hm;have ha:=acP L cs a (hp a (by simp));unfold fm at hm ⊢;split at hm
    ·omega
    ·rename_i h60;rw[if_neg h60];obtain⟨i1,i2⟩:=ih (n+cG L a) (fun b hb=>hp b (by simp[hb])) hm;refine⟨by rw[List.map_cons,List.flatten_cons,List.length_append];omega,fun j=>?_⟩;cases j with
     |zero=>simp;omega
     |succ j=>have:=i2 j;simp at this ⊢;omega
  obtain⟨Cr,dj⟩:=hs t.args 1 hp h;rw[Il];split
  ·simp;omega
  split
  ·split<;>simp<;>omega
  split
  ·have:=dj (2-(aN (t.args.map (bh L cs)) 0).n).toNat;show _≤fm _ _ _;omega
  split
  ·simp;omega
  ·show _≤fm _ _ _;omega
@[simp] theorem aJK (x y:List Int):uh (ints x) 0 (ints y)=ints y:=_root_.id rfl
@[simp] theorem azt (x y:Cell):uh (cM x) 0 (cM y)=cM y:=_root_.id rfl
@[simp] theorem aH9 (a b:List Int):D.list (a.map D.int++b.map D.int)=ints (a++b):=by simp[ints]
def lists (l:List (List Int)):D:=.list (l.map ints)
@[simp] theorem aIm (l:List (List Int)):(lists l).l=l.map ints:=_root_.id rfl
theorem ag6 (l:List (List Int))(hl:l.length≤1000)(hs:l.flatten.length≤1000000):aj T acf [lists l] (ints l.flatten):=by
 refine .of_tree rfl ajV aBs ?_;simp[U9];have hb:∀k,(l.take k).flatten.length≤l.flatten.length:=by
  intro k
  conv=>rhs;rw[←List.take_append_drop k l]
  rw[List.flatten_append,List.length_append];omega
 have cD:∀k (hk:k<l.length),(l.take (k+1)).flatten=(l.take k).flatten++l[k]:=fun k hk=>by
  rw[List.take_succ_eq_append_getElem hk,List.flatten_append];simp
 refine aO.forRounds l.length (fun k=>[.int ((l.take k).flatten.length:Nat),.int k]) (fun k=>[]) ?_ (fun k hk=>?_) ?_
 ·simp
 ·have hw:=bI hk (by omega);have h1:=cD k hk;have h2:=hb (k+1);rw[h1] at h2 ⊢;rw[List.length_append] at h2 ⊢;generalize (l.take k).flatten.length=m at*;have rA:IntKind.i64.wrap ((m:Int)+(l[k].length:Int))=(m:Int)+l[k].length:=aW (by omega);have Cb:¬((m:Int)+l[k].length<0):=by omega
  simp[afS,LY,hk,hw,rA,Cb]
 ·simp[afS,LY];have YE:aj T 225 [.list [],.int (l.flatten.length:Nat)] (.list []):=by
   refine .of_ext (g:=fun _ ds=>GY ds) rfl ⟨0,fun _ _=>?_⟩;show(if(0:Int)≤(l.flatten.length:Nat)∧((l.flatten.length:Nat):Int)≤4294967296 then some (D.list []) else none)=some (D.list []);rw[if_pos (by omega)]
  rw[List.length_flatten] at YE;refine⟨_,YE,?_⟩;refine aO.forRounds l.length (fun k=>[.none,.int k]) (fun k=>[ints (l.take k).flatten]) ?_ (fun k hk=>?_) ?_
  ·simp[ints]
  ·have hw:=bI hk (by omega);have h1:=cD k hk;have h2:=hb (k+1);rw[h1] at h2 ⊢;rw[List.length_append] at h2;generalize (l.take k).flatten=m at*;simp[afT,LZ,hk,hw];omega
  ·simp[afT,LZ]
theorem anr {op:Int}{l:List Cell}(h:(fa op l).known=false):fa op l=dI:=by
 have hy:∀b,(dU b).known=true:=fun b=>by cases b<;>simp[dU]
 unfold fa at h ⊢;split<;>rename_i c1
 ·rw[if_pos c1] at h;split<;>rename_i c2
  ·rw[if_pos c2,hy] at h;cases h
  ·rfl
 rw[if_neg c1] at h;split<;>rename_i c2
 ·rw[if_pos c2,hy] at h;cases h
 rw[if_neg c2] at h;split<;>rename_i c3
 ·rw[if_pos c3] at h;split<;>rename_i c4
  ·rw[if_pos c4,c4.1] at h;cases h
  ·rfl
 rw[if_neg c3] at h;split<;>rename_i c4
 ·rfl
 rw[if_neg c4] at h
 repeat' split at h
 all_goals first|(rw[hy] at h;cases h)|cases h
theorem agE:∀(L:Nat) (cs:List Cell) (t:Tm) (k:Int),t.OK→cG L t≤60→bP L t=(k,0)→aj T QT [Oi cs,dB t] (.tup [cM (bh L cs t),ints (dQ L cs t)])
 |0,cs,t,k,ht,hm,hc=>by simp[cG] at hm
 |L+1,cs,t,k,ht,hm,hc=>by
  refine .of_tree rfl akj aBQ ?_;obtain⟨hl,hp⟩:=QC hm;obtain⟨ha,_⟩:=GA hc;obtain⟨hn,aHF⟩:=GB hc;have gT:∀a,a∈t.args→aj T QT [Oi cs,dB a] (.tup [cM (bh L cs a),ints (dQ L cs a)]):=fun a eQ=>agE L cs a (bP L a).1 (ht.arg eQ) (hp a eQ) (by rw[←ha a eQ]);have Co:∀a,a∈t.args→se (bP L a).1 (bh L cs a):=fun a eQ=>On cs (show bP L a=((bP L a).1,0) by rw[←ha a eQ]);have Zc:∀a,a∈t.args→(dQ L cs a).length≤60:=fun a eQ=>by have:=acP L cs a (hp a eQ);have:=hp a eQ;omega
  by_cases hH:t.op=0∨t.op=1
  ·
   have e1:bh (L+1) cs t=⟨true,t.n⟩:=by rw[xw,if_pos hH]
   have e2:dQ (L+1) cs t=[]:=by rw[Il,if_pos hH]
   rw[e1,e2];rcases hH with h|h<;>simp[Es,h]<;>exact⟨rfl,rfl⟩
  have o0:t.op≠0:=fun h=>hH (.inl h);have o1:t.op≠1:=fun h=>hH (.inr h);by_cases o2:t.op=2
  ·have hv:0≤t.n:=by
    cases hn with
    |var h0 ha hn=>exact hn.1
    |_=>omega
   have e1:bh (L+1) cs t=jz cs t.n:=by rw[xw,if_neg hH,if_pos o2]
   have e2:dQ (L+1) cs t=if(jz cs t.n).known=true then[] else[t.n]:=by rw[Il,if_neg hH,if_pos o2]
   rw[e1,e2];simp[Es,o2];refine⟨_,azL cs t.n hv,?_⟩;cases e:(jz cs t.n).known
   ·have:jz cs t.n=dI:=by
     unfold jz at e ⊢;split
     ·rfl
     ·rename_i h;rw[if_neg h] at e;split at e
      ·cases hb:decide ((cellAt cs t.n).n≠0)<;>rw[hb] at e<;>cases e
      ·cases e
    rw[this];simp[ints]
   ·have h:jz cs t.n=⟨true,(jz cs t.n).n⟩:=by rw[←e]
    rw[h];simp[ints]
    try rfl
  have hlen:1≤t.args.length∧(t.op≠3→2≤t.args.length)∧(t.op=6→3≤t.args.length):=by
   cases hn with
   |int h0 ha hn=>omega
   |bool h0 ha hn=>omega
   |var h0 ha hn=>omega
   |not h0 hk=>obtain⟨a,hl,_⟩:=awE hk;rw[hl];simp;omega
   |log h0 hk=>obtain⟨a,b,hl,_⟩:=yr hk;rw[hl];simp;omega
   |ite k h0 hk=>obtain⟨a,b,c,hl,_⟩:=Ia hk;rw[hl];simp
   |less h0 hk=>obtain⟨a,b,hl,_⟩:=yr hk;rw[hl];simp;omega
   |equal k h0 hk=>obtain⟨a,b,hl,_⟩:=yr hk;rw[hl];simp;omega
   |num h0 hk=>obtain⟨a,b,hl,_⟩:=yr hk;rw[hl];simp;omega
  have hb9:9≤t.op→(-1099511627776≤(aN (t.args.map (bh L cs)) 0).n∧(aN (t.args.map (bh L cs)) 0).n≤1099511627776)∧(-1099511627776≤(aN (t.args.map (bh L cs)) 1).n∧(aN (t.args.map (bh L cs)) 1).n≤1099511627776):=by
   intro h9;have rb:∀c:Cell,se 0 c→-1099511627776≤c.n∧c.n≤1099511627776:=by
    intro c hr;cases e:c.known with
    |false=>rw[hr.1 e];simp
    |true=>exact(hr.2 e).2 rfl
   cases hn with
   |num h0 hk=>
    obtain⟨a,b,hl,ea,eb⟩:=yr hk;rw[hl] at Co ⊢;have r1:=Co a (by simp);have r2:=Co b (by simp);rw[ea] at r1;rw[eb] at r2;exact⟨rb _ r1,rb _ r2⟩
   |log h0 hk=>omega
   |_=>omega
  have h6:t.op=6→(aN (t.args.map (bh L cs)) 0).known=true→(aN (t.args.map (bh L cs)) 0).n=0∨(aN (t.args.map (bh L cs)) 0).n=1:=by
   intro o6 oC;cases hn with
   |ite k h0 hk=>
    obtain⟨a,b,c,hl,ea,_⟩:=Ia hk;rw[hl] at Co oC ⊢;have r1:=Co a (by simp);rw[ea] at r1;exact(r1.2 oC).1 rfl
   |log h0 hk=>omega
   |num h0 hk=>omega
   |_=>omega
  have bF:t.op<3∨8<t.op→9≤t.op:=by
   cases hn with
   |log h0 hk=>omega
   |num h0 hk=>omega
   |_=>omega
  have e1:bh (L+1) cs t=if t.op=6∧(aN (t.args.map (bh L cs)) 0).known=true then aN (t.args.map (bh L cs)) (2-(aN (t.args.map (bh L cs)) 0).n).toNat else fa t.op (t.args.map (bh L cs)):=by
   rw[xw,if_neg hH,if_neg o2]
  have e2:dQ (L+1) cs t=if t.op=6∧(aN (t.args.map (bh L cs)) 0).known=true then(t.args.map (dQ L cs)).getD (2-(aN (t.args.map (bh L cs)) 0).n).toNat [] else if(fa t.op (t.args.map (bh L cs))).known=true then[] else(t.args.map (dQ L cs)).flatten:=by
   rw[Il,if_neg hH,if_neg o2]
  rw[e1,e2];simp[Es,o0,o1,o2];refine⟨by omega,?_⟩;refine aO.forRounds t.args.length (fun k=>[.int k]) (fun k=>[cells ((t.args.map (bh L cs)).take k++List.replicate (t.args.length-k) dI),lists ((t.args.map (dQ L cs)).take k++List.replicate (t.args.length-k) [])]) ?_ (fun k hk=>?_) ?_
  ·simp[cells,lists,ints]
  ·have hw:=bI hk (by omega);have cS:=List.getElem_mem hk;have hr:=gT _ cS;have s1:=Tn (t.args.map (bh L cs)) dI (n:=t.args.length) (by simp) hk;have s2:=Tn (t.args.map (dQ L cs)) [] (n:=t.args.length) (by simp) hk;rw[←s1,←s2];have l1:((t.args.map (bh L cs)).take k++List.replicate (t.args.length-k) dI).length=t.args.length:=by simp;omega
   have l2:((t.args.map (dQ L cs)).take k++List.replicate (t.args.length-k) []).length=t.args.length:=by simp;omega
   have g1:(t.args.map (bh L cs))[k]'(by simpa using hk)=bh L cs t.args[k]:=by simp
   have g2:(t.args.map (dQ L cs))[k]'(by simpa using hk)=dQ L cs t.args[k]:=by simp
   rw[g1,g2];generalize (t.args.map (bh L cs)).take k++List.replicate (t.args.length-k) dI=A at*;generalize (t.args.map (dQ L cs)).take k++List.replicate (t.args.length-k) []=B at*;generalize bh L cs t.args[k]=c at*;generalize dQ L cs t.args[k]=d at*;simp[SY,DZ,hk];refine⟨_,hr,?_⟩;simp[hw,hk,l1,l2,cells,lists]
  ·have hA:(t.args.map (bh L cs)).take t.args.length++List.replicate (t.args.length-t.args.length) dI=t.args.map (bh L cs):=by rw[Nat.sub_self,List.replicate_zero,List.append_nil,List.take_of_length_le (by simp)]
   have hB:(t.args.map (dQ L cs)).take t.args.length++List.replicate (t.args.length-t.args.length) []=t.args.map (dQ L cs):=by rw[Nat.sub_self,List.replicate_zero,List.append_nil,List.take_of_length_le (by simp)]
   have lA:(t.args.map (bh L cs)).length=t.args.length:=by simp
   have lB:(t.args.map (dQ L cs)).length=t.args.length:=by simp
   have jI:∀l:List Tm,(∀a,a∈l→a∈t.args)→((l.map (dQ L cs)).flatten.length≤l.length*60):=by
    intro l
    induction l with
    |nil=>intro _;simp
    |cons a l ih=>
     intro h;have h1:=Zc a (h a (by simp));have h2:=ih (fun b hb=>h b (by simp[hb]));rw[List.map_cons,List.flatten_cons,List.length_append,List.length_cons];omega
   have jI:=jI t.args (fun a h=>h);have hBg:∀m:Nat,(Option.map (dQ L cs) t.args[m]?).getD []=(t.args.map (dQ L cs)).getD m []:=fun m=>by simp[List.getD_eq_getElem?_getD]
   rw[hA,hB];generalize t.args.map (bh L cs)=A at*;generalize t.args.map (dQ L cs)=B at*;have g0:0<A.length:=by omega
   have uW:A[0]=aN A 0:=by simp[aN,g0]
   by_cases G7:t.op=6∧(aN A 0).known=true
   ·obtain⟨o6,kn⟩:=G7;have hv:=h6 o6 kn;have hw:IntKind.i64.wrap (2-(aN A 0).n)=2-(aN A 0).n:=aW (by omega);have h3:3≤t.args.length:=hlen.2.2 o6;rw[if_pos ⟨o6,kn⟩,if_pos ⟨o6,kn⟩];obtain⟨m,eQ⟩:∃m:Nat,m=(2-(aN A 0).n).toNat:=⟨_,rfl⟩
    have B8:m<A.length:=by omega
    have Pk:m<B.length:=by omega
    simp[SY,DZ,o6,kn,g0,uW,hw,←eQ,B8,Pk,cells,lists];refine⟨by omega,by omega,by simp[aN,B8],?_⟩;rw[hBg,List.getD_eq_getElem?_getD,List.getElem?_eq_getElem Pk];rfl
   ·rw[if_neg G7,if_neg G7];have asI:=azH t.op A (by omega) (by omega) (by omega) hb9 bF;have asK:=ag6 B (by omega) (by omega);simp[SY,DZ,g0,uW];rw[if_neg G7];refine⟨_,asI,?_⟩;cases e:(fa t.op A).known
    ·have fN:fa t.op A=dI:=anr e;rw[fN];simp;exact asK
    ·have h:fa t.op A=⟨true,(fa t.op A).n⟩:=by rw[←e]
     rw[h];simp[ints]
     try rfl
end Rm
namespace Rm
open Go Go.Proofs Cx
def mL (n:Nat)(g:Nat→Bool):Int:=if(List.range n).findIdx g<n then((List.range n).findIdx g:Nat) else-1
theorem CH (n:Nat)(g:Nat→Bool):(mL n g=-1∧∀k,k<n→g k=false)∨∃k:Nat,k<n∧mL n g=k∧g k=true∧∀i,i<k→g i=false:=by
 unfold mL;split
 ·rename_i h;refine .inr ⟨_,h,rfl,?_,fun i hi=>?_⟩
  ·have:=List.findIdx_getElem (p:=g) (xs:=List.range n) (w:=by simpa using h);simpa using this
  ·have:=List.not_of_lt_findIdx (p:=g) (xs:=List.range n) hi;simpa using this
 ·rename_i h;refine .inl ⟨rfl,fun k hk=>?_⟩;have:=List.not_of_lt_findIdx (p:=g) (xs:=List.range n) (i:=k) (by omega);simpa using this
theorem Qi {n:Nat}{g:Nat→Bool}(h:∀k,k<n→g k=false):mL n g=-1:=by
 rcases CH n g with⟨h1,_⟩|⟨k,hk,_,h2,_⟩
 ·exact h1
 ·rw[h k hk] at h2;cases h2
theorem Qj {n k:Nat}{g:Nat→Bool}(hk:k<n)(h:g k=true)(hj:∀i,i<k→g i=false):mL n g=k:=by
 rcases CH n g with⟨_,h1⟩|⟨m,hm,h1,h2,h3⟩
 ·rw[h1 k hk] at h;cases h
 ·rcases Nat.lt_trichotomy m k with h4|h4|h4
  ·rw[hj m h4] at h2;cases h2
  ·rw[h1,h4]
  ·rw[h3 k h4] at h;cases h
theorem ZU (n:Nat)(g:Nat→Bool):decide (0≤mL n g)=(List.range n).any g:=by
 rcases CH n g with⟨h1,h2⟩|⟨m,hm,h1,h2,h3⟩
 ·rw[h1]
  symm
  simp;exact h2
 ·rw[h1];simp;exact⟨m,hm,h2⟩
theorem ahd (l:List Rule)(f:Nat)(caps:List D)(g:Nat→Bool)(hg:∀k (hk:k<l.length),aj T f (q9 l[k]::caps) (.bool (g k)))(hl:l.length≤4294967296):
 aj T acm [rules l,.clo f caps] (.int (mL l.length g)):=by
 refine .of_tree rfl aj1 aBy ?_;simp[Vf];refine .scan l.length (fun k=>g k=false) (fun k=>[.int 0,.int k]) (fun _=>[]) ?_ (fun k hk hj ho=>?_) (fun k hk hj ho=>?_) (fun hj=>?_)
 ·simp
 ·have hw:=bI hk hl;simp[SR,DU,hk,hw];refine⟨_,_,⟨rfl,rfl⟩,_,hg k hk,?_⟩;simp[ho,hw]
 ·have he:=Qj hk (by simpa using ho) hj;simp[SR,DU,hk,he];refine⟨_,_,⟨rfl,rfl⟩,_,hg k hk,?_⟩;simp[ho]
 ·have he:=Qi hj;simp[SR,DU,he]
theorem ahe (l:List Int)(f:Nat)(caps:List D)(g:Nat→Bool)(hg:∀k (hk:k<l.length),aj T f (.int l[k]::caps) (.bool (g k)))(hl:l.length≤4294967296):
 aj T acn [ints l,.clo f caps] (.int (mL l.length g)):=by
 refine .of_tree rfl aj2 aBz ?_;simp[Vg];refine .scan l.length (fun k=>g k=false) (fun k=>[.int 0,.int k]) (fun _=>[]) ?_ (fun k hk hj ho=>?_) (fun k hk hj ho=>?_) (fun hj=>?_)
 ·simp
 ·have hw:=bI hk hl;simp[SS,DV,hk,hw,ints];refine⟨_,_,⟨rfl,rfl⟩,_,hg k hk,?_⟩;simp[ho,hw]
 ·have he:=Qj hk (by simpa using ho) hj;simp[SS,DV,hk,he,ints];refine⟨_,_,⟨rfl,rfl⟩,_,hg k hk,?_⟩;simp[ho]
 ·have he:=Qi hj;simp[SS,DV,he,ints]
theorem ahc (l:List Alter)(f:Nat)(caps:List D)(g:Nat→Bool)(hg:∀k (hk:k<l.length),aj T f (og l[k]::caps) (.bool (g k)))(hl:l.length≤4294967296):
 aj T ack [alters l,.clo f caps] (.int (mL l.length g)):=by
 refine .of_tree rfl aj0 aBx ?_;simp[Ve];refine .scan l.length (fun k=>g k=false) (fun k=>[.int 0,.int k]) (fun _=>[]) ?_ (fun k hk hj ho=>?_) (fun k hk hj ho=>?_) (fun hj=>?_)
 ·simp
 ·have hw:=bI hk hl;simp[SQ,DT,hk,hw];refine⟨_,_,⟨rfl,rfl⟩,_,hg k hk,?_⟩;simp[ho,hw]
 ·have he:=Qj hk (by simpa using ho) hj;simp[SQ,DT,hk,he];refine⟨_,_,⟨rfl,rfl⟩,_,hg k hk,?_⟩;simp[ho]
 ·have he:=Qi hj;simp[SQ,DT,he]
theorem ag8 (l:List Int)(f:Nat)(caps:List D)(g:Nat→Bool)(hg:∀k (hk:k<l.length),aj T f (.int l[k]::caps) (.bool (g k)))(hl:l.length≤4294967296):
 aj T ach [ints l,.clo f caps] (.bool ((List.range l.length).any g)):=by
 refine .of_tree rfl ajX aBu ?_;simp[Vb];refine⟨_,ahe l f caps g hg hl,?_⟩;have:=ZU l.length g;simp[←this]
theorem ag7 (l:List Alter)(f:Nat)(caps:List D)(g:Nat→Bool)(hg:∀k (hk:k<l.length),aj T f (og l[k]::caps) (.bool (g k)))(hl:l.length≤4294967296):
 aj T acg [alters l,.clo f caps] (.bool ((List.range l.length).any g)):=by
 refine .of_tree rfl ajW aBt ?_;simp[Va];refine⟨_,ahc l f caps g hg hl,?_⟩;have:=ZU l.length g;simp[←this]
def pM (cs:List Cell)(t:Tm):Cell:=if(lX t).2=0 then bh 8 cs t else dI
theorem W2 {t:Tm}(h:(lX t).2=0):cG 8 t≤60∧bP 8 t=((lX t).1,0):=by
 unfold lX at h ⊢;split at h
 ·cases h
 ·rename_i hm;rw[if_neg hm];exact⟨by omega,by rw[←h]⟩
theorem azF (t:Tm)(cs:List Cell)(ht:t.OK):aj T acx [dB t,cells cs] (cM (pM cs t)):=by
 refine .of_tree rfl akc aBJ ?_;simp[Vr,pM];refine⟨_,agC t ht,?_⟩;by_cases h:(lX t).2=0
 ·obtain⟨h1,h2⟩:=W2 h;simp[h];refine⟨_,agE 8 cs t _ ht h1 h2,?_⟩;simp
  try rfl
 ·simp[h]
  try rfl
def QW:List Int:=[6,7,10,12,13,14,15,16,20,21]
def lQ (ask:Int):Int×Bool:=if ask<0∨22≤ask then(0,false) else if hasB QW ask then(0,true) else(1,true)
theorem RA (ask:Int):aj T abB [.int ask] (.tup [.int (lQ ask).1,.bool (lQ ask).2]):=by
 refine .of_tree rfl ajb aAI ?_;simp[Uq,lQ];by_cases h0:ask<0
 ·simp[h0]
 by_cases h1:22≤ask
 ·simp[h0,h1]
 simp[h0,h1];refine⟨_,uE QW ask (by decide),?_⟩;cases h:hasB QW ask<;>simp[h]
def Io:Tm:=⟨0,0,[]⟩
def ub (o:Order)(ask:Int)(k:Nat):Bool:=decide ((o.rules.getD k default).ask=ask)
def Eb (o:Order)(i:Int):Tm:=(o.rules.getD i.toNat default).term
def findF (o:Order)(ask:Int):Tm×Int:=
 if(lQ ask).2=false then(Io,1) else if mL o.rules.length (ub o ask)<0 then(Io,4) else
    if(lX (Eb o (mL o.rules.length (ub o ask)))).2≠0∨(lX (Eb o (mL o.rules.length (ub o ask)))).1≠(lQ ask).1 then(Io,11) else(Eb o (mL o.rules.length (ub o ask)),0)
theorem age {o:Order}(ho:o.OK){m:Nat}(hm:m<o.rules.length):o.rules[m].term.OK:=(ho.2.2 _ (List.getElem_mem hm)).2
theorem QV:Io.OK:=by
 exact .mk 0 0 [] (by unfold aT;omega) (by unfold aT;omega) (by decide) (fun _ h=>by cases h)
theorem ao5 {o:Order}(ho:o.OK)(ask:Int):(findF o ask).1.OK:=by
 unfold findF;split
 ·exact QV
 split
 ·exact QV
 split
 ·exact QV
 ·rename_i h _;rcases CH o.rules.length (ub o ask) with⟨h1,h2⟩|⟨m,hm,h1,h2,h3⟩
  ·exact absurd (by rw[h1];decide) h
  ·rw[h1];simp[Eb,hm];exact age ho hm
theorem ao3 (r:Rule)(ask:Int):aj T QK [q9 r,.ref (.int ask)] (.bool (decide (r.ask=ask))):=by
 refine .of_tree rfl ajd aAJ ?_;simp[Us]
theorem axP (o:Order)(ask:Int)(ho:o.OK)(hl:o.rules.length≤4294967296):aj T abC [jZ o,.int ask] (.tup [dB (findF o ask).1,.int (findF o ask).2]):=by
 refine .of_tree rfl ajc aAK ?_;simp[Ur,findF];refine⟨_,RA ask,?_⟩;cases h0:(lQ ask).2
 ·simp[h0]
  try rfl
 simp[h0];refine⟨_,ahd o.rules QK [.ref (.int ask)] (ub o ask) (fun k hk=>by simpa [ub,hk] using ao3 o.rules[k] ask) hl,?_⟩;rcases CH o.rules.length (ub o ask) with⟨h1,h2⟩|⟨m,hm,h1,h2,h3⟩
 ·rw[h1];simp
  try rfl
 ·rw[h1];have Cb:¬((m:Int)<0):=by omega
  have htm:o.rules[m].term.OK:=age ho hm;simp[hm,Eb,Cb];refine⟨_,agC _ htm,?_⟩;by_cases h4:(lX o.rules[m].term).2=0<;>by_cases h5:(lX o.rules[m].term).1=(lQ ask).1<;>simp[h4,h5]<;>try rfl
def kB (o:Order)(ask:Int)(cs:List Cell):Cell×Int:=
 if(findF o ask).2≠0 then(dI,(findF o ask).2) else
    (if(lQ ask).1=0∧(pM cs (findF o ask).1).known=true then⟨true,min (max (pM cs (findF o ask).1).n 0) 20000⟩ else pM cs (findF o ask).1,0)
theorem axO (o:Order)(ask:Int)(cs:List Cell)(ho:o.OK)(hl:o.rules.length≤4294967296):aj T abA [jZ o,.int ask,cells cs] (.tup [cM (kB o ask cs).1,.int (kB o ask cs).2]):=by
 refine .of_tree rfl aja aAH ?_;simp[Up];refine⟨_,axP o ask ho hl,?_⟩;have hf:(findF o ask).1.OK:=ao5 ho ask;by_cases h:(findF o ask).2=0
 ·simp[h,kB];refine⟨_,azF _ cs hf,_,RA ask,?_⟩;generalize pM cs (findF o ask).1=c;obtain⟨kn,n⟩:=c;by_cases h1:(lQ ask).1=0
  ·cases kn
   ·simp[h1,cM]
   ·by_cases h2:n<0
    ·have:min (max n 0) 20000=0:=by omega
     simp[h1,cM,h2,this];rfl
    ·by_cases h3:20000<n
     ·have:min (max n 0) 20000=20000:=by omega
      simp[h1,cM,h2,h3,this];rfl
     ·have:min (max n 0) 20000=n:=by omega
      simp[h1,cM,h2,h3,this];rfl
  ·simp[h1,cM]
 ·simp[h,kB]
  try rfl
end Rm
namespace Rm
open Go Go.Proofs Cx
theorem af0 (b:Bool):aj T acd [.bool b] (cM (dU b)):=by
 refine .of_tree rfl ajT aBq ?_;cases b<;>simp[U7,dU]<;>rfl
def ld (kind sign:Int)(x:Fact):Bool:=decide (x.kind=kind)&&decide (x.at_=sign)
def cF (f:File)(kind sign:Int):Cell:=match f.facts.find? (ld kind sign) with|none=>dI|some x=>dU (decide (x.n≠0))
theorem Bs {α:Type}{p:α→Bool}:∀{l:List α} {k:Nat} (hk:k<l.length),p l[k]=true→(∀j (hj:j<k),p (l[j]'(by omega))=false)→l.find? p=some l[k]
 |a::l,0,hk,h,hj=>by simp at h;simp[h]
 |a::l,k+1,hk,h,hj=>by
  have h0:=hj 0 (by omega);simp at h0;simp only[List.find?_cons,h0,List.getElem_cons_succ];exact Bs (by simpa using hk) (by simpa using h) (fun j cN=>by simpa using hj (j+1) (by omega))
theorem GQ {α:Type}{p:α→Bool}{l:List α}(h:∀j (hj:j<l.length),p l[j]=false):l.find? p=none:=by
 rw[List.find?_eq_none];intro x hx;obtain⟨j,hj,rfl⟩:=List.getElem_of_mem hx;rw[h j hj];decide
theorem D6 (f:File)(kind sign:Int)(hl:f.facts.length≤4294967296):aj T ab8 [bT f,.int kind,.int sign] (cM (cF f kind sign)):=by
 refine .of_tree rfl ajP aBm ?_;simp[U4];refine .scan f.facts.length (fun k=>ld kind sign (f.facts.getD k default)=false) (fun k=>[.int k]) (fun _=>[cM dI]) ?_ (fun k hk hj ho=>?_) (fun k hk hj ho=>?_) (fun hj=>?_)
 ·simp
 ·have hw:=bI hk hl;simp[hk,ld] at ho;by_cases h1:f.facts[k].kind=kind<;>by_cases h2:f.facts[k].at_=sign
  ·exact absurd h2 (ho h1)
  all_goals simp[SM,DQ,hk,hw,h1,h2]
 ·have hw:=bI hk hl;have hf:cF f kind sign=dU (decide (f.facts[k].n≠0)):=by
   unfold cF;rw[Bs hk (by simpa [hk] using ho) (fun j cN=>by have:=hj j cN;simpa [show j<f.facts.length by omega] using this)]
  simp[hk,ld] at ho;simp[SM,DQ,hk,hw,ho,hf];refine⟨_,af0 _,?_⟩;simp
  try rfl
 ·have hf:cF f kind sign=dI:=by
   unfold cF;rw[GQ (fun j cN=>by have:=hj j cN;simpa [cN] using this)]
  simp[SM,DQ,hf]
  try rfl
def fC (r:Realm)(c:Int):Int:=if aF c r.cities.length=true then(r.cities.getD c.toNat default).order else-1
theorem ph (r:Realm)(c:Int):aj T abW [aZ r,.int c] (.int (fC r c)):=by
 refine .of_tree rfl ajC aA9 ?_;simp[UQ,fC];refine⟨_,fq c r.cities.length,?_⟩;cases h:aF c r.cities.length
 ·simp[h]
 ·simp[aF] at h;have h1:c.toNat<r.cities.length:=by omega
  simp[h,h1]
def mY (day:Int)(l:List Sign):List Sign:=l.takeWhile fun s=>decide (s.day≤day)
def wY (day:Int)(l:List Act):List Act:=l.takeWhile fun s=>decide (s.day≤day)
def nY (n:Nat)(a:Alter):Bool:=decide (a.at_≤(n:Int))
def j0 (n:Nat)(x:Fact):Bool:=aF x.at_ n
def aG (f:File)(day:Int):File:=
 ⟨f.bill,mY day f.signs,f.alters.filter (nY (mY day f.signs).length),wY day f.acts,f.facts.filter (j0 (mY day f.signs).length)⟩
theorem zz {α:Type}(p:α→Bool):∀(l:List α),∃m,m≤l.length∧l.takeWhile p=l.take m∧(∀k (hk:k<l.length),k<m→p l[k]=true)∧(∀hk:m<l.length,p l[m]=false)
 |[]=>⟨0,by simp,by simp,fun k hk=>by simp at hk,fun hk=>by simp at hk⟩
 |a::l=>by
  by_cases h:p a=true
  ·obtain⟨m,h1,h2,h3,h4⟩:=zz p l;refine⟨m+1,by simp;omega,by simp[h,h2],fun k hk hm=>?_,fun hk=>?_⟩
   ·cases k with
    |zero=>simpa using h
    |succ k=>simpa using h3 k (by simpa using hk) (by omega)
   ·simpa using h4 (by simpa using hk)
  ·refine⟨0,by simp,by simp[h],fun k hk hm=>by omega,fun hk=>by simpa using h⟩
theorem Ms {α:Type}(p:α→Bool)(l:List α){k:Nat}(hk:k<l.length):(l.take (k+1)).filter p=(l.take k).filter p++if p l[k] then[l[k]] else[]:=by
 rw[List.take_succ_eq_append_getElem hk,List.filter_append]
 congr 1
 cases h:p l[k]<;>simp[h]
def sk (b:Bill)(w x y z:D):D:=.agg [.int b.drawer,.int b.drawee,.int b.payee,.int b.sum,.int b.currency,.int b.tenor.kind,.int b.tenor.n,.int b.tenor.unit,.int b.day,.int b.city,.int b.pay,.int b.need,.int b.rate,.int b.flags,.int b.parts,w,x,y,z]
@[simp] theorem aFj (b:Bill)(w x y z:D):D.agg (cH (sk b w x y z).cells 18 [D.none])=sk b w x y .none:=_root_.id rfl
def mF {α:Type}(l:List α):D:=match l with|[]=>.list []|_=>.none
@[simp] theorem aHS {α:Type}:mF ([]:List α)=.list []:=rfl
@[simp] theorem aHR {α:Type}(l:List α)(x:α):mF (l++[x])=.none:=by cases l<;>rfl
theorem D5 (f:File)(day:Int)(h1:f.signs.length≤4294967295)(h2:f.acts.length≤4294967295)(h3:f.alters.length≤4294967295)(h4:f.facts.length≤4294967295):aj T ab7 [bT f,.int day] (bT (aG f day)):=by
 refine .of_tree rfl ajO aBl ?_;simp[U3];obtain⟨m,hm,hS,Yf,xF⟩:=zz (fun s:Sign=>decide (s.day≤day)) f.signs;obtain⟨n,hn,hA,hA1,hA2⟩:=zz (fun s:Act=>decide (s.day≤day)) f.acts;refine aO.forRounds m (fun k=>[.int k]) (fun k=>[signs (f.signs.take k),sk f.bill (mF (f.signs.take k)) (.list []) (.list []) (.list [])]) ?_ (fun k hk=>?_) ?_
 ·simp[sk,signs]
  try rfl
 ·have bU:k<f.signs.length:=by omega
  have hw:=bI bU (by omega);have hd:=Yf k bU hk;simp at hd;have dH:¬day<f.signs[k].day:=by omega
  have hle:(k:Int)+1≤4294967296:=by omega
  have ht:=List.take_succ_eq_append_getElem bU;rw[ht];have hlen:(f.signs.take k).length=k:=by simp;omega
  generalize f.signs.take k=A at*;simp[SI,DM,bU,hw,dH,hlen];exact⟨hle,by simp[signs],rfl⟩
 have hSl:(f.signs.take m).length≤4294967295:=by rw[List.length_take];omega
 have hAt:aG f day=⟨f.bill,f.signs.take m,f.alters.filter (nY (f.signs.take m).length),f.acts.take n,f.facts.filter (j0 (f.signs.take m).length)⟩:=by
  unfold aG mY wY;rw[hS,hA]
 rw[hAt];generalize f.signs.take m=S at*;have hAl:(f.acts.take n).length≤4294967295:=by rw[List.length_take];omega
 by_cases eQ:m<f.signs.length
 case' pos=>
  have hd:=xF eQ;simp at hd;simp[SI,DM,eQ,hd];generalize D.bool true=bb
 case' neg=>
  have vp:m=f.signs.length:=by omega
  simp[SI,DM,eQ,vp];generalize D.bool false=bb
 all_goals
  refine aO.forRounds n (fun k=>[.int k]) (fun k=>[acts (f.acts.take k),sk f.bill (mF S) (.list []) (mF (f.acts.take k)) (.list [])]) ?_ (fun k hk=>?_) ?_
  ·simp[acts]
  ·have bU:k<f.acts.length:=by omega
   have hw:=bI bU (by omega);have hd:=hA1 k bU hk;simp at hd;have dH:¬day<f.acts[k].day:=by omega
   have hle:(k:Int)+1≤4294967296:=by omega
   have ht:=List.take_succ_eq_append_getElem bU;rw[ht];have hlen:(f.acts.take k).length=k:=by simp;omega
   generalize f.acts.take k=A at*;simp[SJ,DN,bU,hw,dH,hlen];exact⟨hle,by simp[acts],rfl⟩
  generalize f.acts.take n=A at*;by_cases gx:n<f.acts.length
  case' pos=>
   have hd:=hA2 gx;simp at hd;simp[SJ,DN,gx,hd];generalize D.bool true=bc
  case' neg=>
   have mC:n=f.acts.length:=by omega
   simp[SJ,DN,gx,mC];generalize D.bool false=bc
  all_goals
   refine aO.forRounds f.alters.length (fun k=>[.int k]) (fun k=>[sk f.bill (mF S) (mF ((f.alters.take k).filter (nY S.length))) (mF A) (.list []),alters ((f.alters.take k).filter (nY S.length))]) ?_ (fun k hk=>?_) ?_
   ·simp[alters]
   ·have hw:=bI hk (by omega);have ht:=Ms (nY S.length) f.alters hk;rw[ht];have hlen:((f.alters.take k).filter (nY S.length)).length≤k:=Nat.le_trans (List.length_filter_le _ _) (by simp;omega);generalize (f.alters.take k).filter (nY S.length)=B at*;by_cases hd:f.alters[k].at_≤(S.length:Int)
    ·simp[SK,DO,nY,hk,hw,hd];exact⟨by omega,rfl,by simp[alters]⟩
    ·simp[SK,DO,nY,hk,hw,hd]
   simp[SK,DO];generalize f.alters.filter (nY S.length)=B at*;refine aO.forRounds f.facts.length (fun k=>[.int k]) (fun k=>[sk f.bill (mF S) (mF B) (mF A) (mF ((f.facts.take k).filter (j0 S.length))),facts ((f.facts.take k).filter (j0 S.length))]) ?_ (fun k hk=>?_) ?_
   ·simp[facts]
   ·have hw:=bI hk (by omega);have ht:=Ms (j0 S.length) f.facts hk;rw[ht];have hlen:((f.facts.take k).filter (j0 S.length)).length≤k:=Nat.le_trans (List.length_filter_le _ _) (by simp;omega);generalize (f.facts.take k).filter (j0 S.length)=C at*;cases hd:aF f.facts[k].at_ S.length
    ·simp[SL,DP,j0,hk,hw,hd];refine⟨_,pj _ _,?_⟩;simp[hd,hw]
    ·simp[SL,DP,j0,hk,hw,hd];refine⟨_,pj _ _,?_⟩;simp[hd,hw];exact⟨by omega,rfl,by simp[facts]⟩
   simp[SL,DP];rfl
end Rm
namespace Rm
open Go Go.Proofs Cx
def yy:List Int→Int
 |[]=>-1
 |x::l=>l.foldl min x
theorem ahk (x:Int)(l:List Int)(hl:l.length<4294967296):aj T acq [ints (x::l)] (.int (yy (x::l))):=by
 refine .of_tree rfl aj5 aBC ?_;have h0:¬((l.length:Int)+1<1):=by omega
 simp[Vj,h0,yy,ints];refine aO.forRounds l.length (fun k=>[.int ((l.take k).foldl min x),.int ((k:Int)+1)]) (fun k=>[]) ?_ (fun k hk=>?_) ?_
 ·simp
 ·have hw:IntKind.i64.wrap ((k:Int)+1+1)=(k:Int)+1+1:=aW (by omega);rw[List.take_succ_eq_append_getElem hk,List.foldl_append];generalize (l.take k).foldl min x=y;have ht:((k:Int)+1).toNat=k+1:=by omega
  have af:(k:Int)+1<(l.length:Int)+1:=by omega
  simp[afU,L1,hk,hw,ht,af];refine⟨by omega,?_⟩;by_cases h:l[k]<y
  ·simp[h];omega
  ·simp[h];omega
 ·simp[afU,L1]
def lL (f:File)(n:Nat):List Int:=if f.bill.tenor.kind=1 then((f.signs.take n).filter (fun s=>decide (s.kind=1))).map (·.day) else[]
def iM (f:File)(n:Nat):List Int:=if f.bill.tenor.kind=1 then((f.acts.take n).filter (fun s=>decide (s.kind=1))).map (·.day) else[]
def ku (f:File)(a:Act):Bool:=decide (f.bill.tenor.kind=0)&&decide (a.kind=2)
def iN (f:File):Int:=match f.acts.find? (ku f) with|some a=>a.day|none=>yy (lL f f.signs.length++iM f f.acts.length)
theorem ayQ (f:File)(h1:f.signs.length≤100000)(h2:f.acts.length≤100000):aj T ab9 [bT f] (.int (iN f)):=by
 refine .of_tree rfl ajQ aBn ?_;simp[U5];refine aO.forRounds f.signs.length (fun k=>[.none,.int k]) (fun k=>[ints (lL f k)]) ?_ (fun k hk=>?_) ?_
 ·simp[lL,ints]
 ·have hw:=bI hk (by omega);have hs:lL f (k+1)=lL f k++if f.bill.tenor.kind=1∧f.signs[k].kind=1 then[f.signs[k].day] else[]:=by
   unfold lL;by_cases h:f.bill.tenor.kind=1
   ·simp only[if_pos h,Ms _ _ hk,List.map_append,h,true_and]
    congr 1
    by_cases h':f.signs[k].kind=1<;>simp[h']
   ·simp[h]
  have hlen:(lL f k).length≤k:=by
   unfold lL;split
   ·rw[List.length_map];exact Nat.le_trans (List.length_filter_le _ _) (by simp;omega)
   ·simp
  rw[hs];generalize lL f k=A at*;by_cases hc:f.bill.tenor.kind=1∧f.signs[k].kind=1
  ·simp[SN,DR,hk,hw,hc];exact⟨by omega,by simp[ints]⟩
  ·simp[SN,DR,hk,hw,hc]
 ·have hlS:(lL f f.signs.length).length≤100000:=by
   unfold lL;split
   ·rw[List.length_map];exact Nat.le_trans (List.length_filter_le _ _) (by simp;omega)
   ·simp
  have hE:iN f=match f.acts.find? (ku f) with|some a=>a.day|none=>yy (lL f f.signs.length++iM f f.acts.length):=rfl
  generalize lL f f.signs.length=A at*;simp[SN,DR];refine aO.scan f.acts.length (fun k=>ku f (f.acts.getD k default)=false) (fun k=>[.int 0,.none,.int k]) (fun k=>[ints (A++iM f k)]) ?_ (fun k hk hj ho=>?_) (fun k hk hj ho=>?_) (fun hj=>?_)
  ·simp[iM,ints]
  ·have hw:=bI hk (by omega);have hs:iM f (k+1)=iM f k++if f.bill.tenor.kind=1∧f.acts[k].kind=1 then[f.acts[k].day] else[]:=by
        unfold iM;by_cases h:f.bill.tenor.kind=1
        ·simp only[if_pos h,Ms _ _ hk,List.map_append,h,true_and]
         congr 1
         by_cases h':f.acts[k].kind=1<;>simp[h']
        ·simp[h]
   have hlen:(iM f k).length≤k:=by
        unfold iM;split
        ·rw[List.length_map];exact Nat.le_trans (List.length_filter_le _ _) (by simp;omega)
        ·simp
   rw[hs];generalize iM f k=B at*;simp[ku,hk] at ho;by_cases hc:f.bill.tenor.kind=1∧f.acts[k].kind=1
   ·simp[DS,wL,hk,hw,hc];exact⟨by omega,by simp[ints]⟩
   ·have hn:¬(f.bill.tenor.kind=0∧f.acts[k].kind=2):=fun h=>ho h.1 h.2;simp[DS,wL,hk,hw,hc,hn]
  ·have hf:iN f=f.acts[k].day:=by
        rw[hE,Bs hk (by simpa [hk] using ho) (fun j cN=>by have:=hj j cN;simpa [show j<f.acts.length by omega] using this)]
   simp[ku,hk] at ho;simp[DS,wL,hk,ho,hf]
  ·have hf:iN f=yy (A++iM f f.acts.length):=by
        rw[hE,GQ (fun j cN=>by have:=hj j cN;simpa [cN] using this)]
   have hlA:(iM f f.acts.length).length≤100000:=by
        unfold iM;split
        ·rw[List.length_map];exact Nat.le_trans (List.length_filter_le _ _) (by simp;omega)
        ·simp
   rw[hf];have hL:(A++iM f f.acts.length).length≤200000:=by rw[List.length_append];omega
   generalize A++iM f f.acts.length=L at*;cases L with
   |nil=>simp[DS,wL,yy,ints]
   |cons x l=>
    have aE:¬((l.length:Int)+1=0):=by omega
    simp[DS,wL,aE];exact ahk x l (by simp at hL;omega)
end Rm
namespace Rm
open Go Go.Proofs Cx
def gn (g:Nat→Cell):D:=.list ((List.range 20).map fun i=>cM (g i))
theorem WX {g g':Nat→Cell}(h:∀i,i<20→g i=g' i):gn g=gn g':=by
 unfold gn
 congr 1
 exact List.map_congr_left fun i hi=>by rw[h i (by simpa using hi)]
theorem WY (g:Nat→Cell)(k:Nat)(c:Cell):D.list ((gn g).l.set k (cM c))=gn (fun i=>if i=k then c else g i):=by
 unfold gn
 congr 1
 show((List.range 20).map fun i=>cM (g i)).set k (cM c)=_;apply List.ext_getElem
 ·simp
 ·intro i h1 h2;simp at h2;rw[List.getElem_set];by_cases h:k=i
  ·simp[h]
  ·have h':¬i=k:=fun e=>h e.symm;simp[h,h']
@[simp] theorem aFR (g:Nat→Cell):(gn g).l.length=20:=by
  show((List.range 20).map fun i=>cM (g i)).length=20;simp
theorem EY (g:Nat→Cell){k:Nat}(hk:k<20):(gn g).l[k]?.getD D.none=cM (g k):=by
 show((List.range 20).map fun i=>cM (g i))[k]?.getD D.none=cM (g k);simp[hk]
theorem akQ (g:Nat→Cell){k:Nat}(hk:k<(gn g).l.length):(gn g).l[k]=cM (g k):=by
 have h:=EY g (k:=k) (by simpa using hk);rw[List.getElem?_eq_getElem hk] at h;exact h
theorem akS (g:Nat→Cell)(k:Nat)(c:Cell):(gn g).l.set k (cM c)=(gn (fun i=>if i=k then c else g i)).l:=congrArg D.l (WY g k c)
theorem akR (g:Nat→Cell):D.list (gn g).l=gn g:=rfl
@[simp] theorem aJI (x:Cell)(b:Bool)(n:Int):uh (cM x) 0 (D.agg [D.bool b,D.int n])=cM ⟨b,n⟩:=_root_.id rfl
def xy {α:Type}(l:List (Int×α))(val:α→Cell)(g0:Nat→Cell)(i:Nat):Cell:=match l.find? (fun p=>decide (p.1=(i:Int))) with|some p=>val p.2|none=>g0 i
def qq {α:Type}(enc:α→D)(p:Int×α):D:=.tup [.int p.1,enc p.2]
theorem aat {α:Type}{J o:Nat}{ps cR:List Nat}{a:PC}{ρ:Env}{Q:Out→Prop}(l:List (Int×α))(enc:α→D)(val:α→Cell)(g0:Nat→Cell)
 (nd:∀p q,p∈l→q∈l→p.1=q.1→p=q) (Td:∀p,p∈l→0≤p.1) (he:ρ.o J=.tup [.list [],.map (l.map fun p=>(.int p.1,enc p.2))]) (h0:ρ.o o=gn g0)
 (step:∀p,p∈l→∀g done,aI T (po [o] a) ((ρ.put ps (cR.map (qq enc p).tget) [o] [gn g]).setO J (.tup [.list (done++[qq enc p]),.map (l.map fun p=>(.int p.1,enc p.2))])) (fun y=>∃ρ',y=.next ρ'∧ρ'.o o=.list ((gn g).l.set p.1.toNat (cM (val p.2)))))
 (last:Q (.next (ρ.put [] [] [o] [gn (xy l val g0)]))):aO T (.meach J ps cR [o] a) ρ Q:=by
 have mG:gE (.map (l.map fun p=>((D.int p.1,enc p.2):D×D)))=l.map (qq enc):=by
  simp[gE,qq]
 refine .meachR _ he (fun done vo=>∃g:Nat→Cell,vo=[gn g]∧(∀p,p∈l→qq enc p∈done→g p.1.toNat=val p.2)∧∀i:Nat,(∀p,p∈l→qq enc p∈done→p.1≠i)→g i=g0 i) ⟨g0,by simp[h0],(fun p _ h=>by cases h),fun i _=>rfl⟩ (fun done x rest vo hp ⟨g,hv,gR,fy⟩=>?_) ⟨_,fun done hp vo ⟨g,hv,gR,fy⟩=>?_,last⟩
 ·subst hv;rw[mG] at hp;have hx:x∈l.map (qq enc):=hp.subset (by simp);obtain⟨p,fh,rfl⟩:=List.mem_map.mp hx;refine xc _ (fun y ⟨ρ',e,ho⟩=>⟨ρ',e,fun i=>if i=p.1.toNat then val p.2 else g i,by simp[ho,WY],fun q hq PM=>?_,fun i hi=>?_⟩) (step p fh g done)
  ·have vw:=Td q hq;have oF:=Td p fh;by_cases h:q.1=p.1
   ·rw[nd q p hq fh h];simp
   ·show(if q.1.toNat=p.1.toNat then val p.2 else g q.1.toNat)=val q.2;rw[if_neg (by omega)];rcases List.mem_append.mp PM with h1|h1
    ·exact gR q hq h1
    ·simp[qq] at h1;exact absurd h1.1 h
  ·have oF:=Td p fh;have du:=hi p fh (by simp);show(if i=p.1.toNat then val p.2 else g i)=g0 i;rw[if_neg (by omega)];exact fy i fun q hq PM=>hi q hq (by simp[PM])
 ·rw[hv,mG] at*
  congr 1
  refine WX fun i hi=>?_;unfold xy;cases hf:l.find? (fun p=>decide (p.1=(i:Int))) with
  |some p=>
   have fh:=List.mem_of_find?_eq_some hf;have HG:p.1=(i:Int):=by simpa using List.find?_some hf
   have:=gR p fh (hp.symm.subset (List.mem_map_of_mem fh));simp only;rw[←this,HG];rfl
  |none=>
   refine fy i fun p fh _=>?_;have:=List.find?_eq_none.mp hf p fh;simpa using this
@[simp] theorem aIj (a b:Int):dZ (D.int a) (D.int b)=decide (a=b):=by
  show((a==b)&&true)=decide (a=b);rw[Bool.and_true];by_cases h:a=b<;>simp[h]
def Bz (n k:Int):Bool:=decide (bD .and .i64 n k≠0)
def vN (s:Sign)(due:Int):Int:=if due=-1 then 0 else s.day-due
def xe (f:File)(sign:Int):Bool:=(List.range f.alters.length).any fun k=>decide ((f.alters.getD k default).at_≤sign)
def fO (c:Case):Int:=if c.holder<0 then 0 else c.holder
def kq (c:Case)(s:Sign):List (Int×Int):=[(0,c.file.bill.sum),(1,c.file.bill.parts),(2,c.file.bill.tenor.kind),(3,c.file.bill.rate),(4,s.kind),(5,c.defence),(6,vN s c.due)]
def kS (r:Realm)(c:Case)(s:Sign):List (Int×Bool):=[(7,Bz c.file.bill.flags 1),(8,decide (c.file.bill.payee=-1)),(9,Bz c.file.bill.flags 4),(10,Bz c.file.bill.flags 2),(11,decide (fC r c.file.bill.city≠fC r c.file.bill.pay)),(12,xe c.file c.sign),(13,Bz s.flags 1),(14,decide (0<vN s c.due))]
def oq (r:Realm)(c:Case)(s:Sign):List Cell:=
 (kq c s).map (fun p=>⟨true,p.2⟩)++(kS r c s).map (fun p=>dU p.2)++
    [cF c.file 0 c.sign,cF c.file 1 c.sign,cF c.file 2 c.sign,cF c.file 3 (fO c),cF c.file 4 (fO c)]
@[simp] theorem aFn (x:Case):gM 19 (eN x)=bT x.file:=_root_.id rfl
@[simp] theorem aFl (x:Case):gM 15 (eN x)=dp x.file.bill:=_root_.id rfl
@[simp] theorem aFm (x:File):gM 15 (bT x)=dp x.bill:=_root_.id rfl
def jD (c:Case):Bool:=aF c.sign c.file.signs.length&&decide (-1≤c.holder)&&decide (fO c<c.file.signs.length)&&(decide (c.due=-1)||aF c.due 100001)
def ew (r:Realm)(c:Case):List Cell:=if jD c=true∧aF (c.file.signs.getD c.sign.toNat default).day 100001=true then oq r c (c.file.signs.getD c.sign.toNat default) else[]
theorem ayR (r:Realm)(c:Case)(h2:c.file.facts.length≤100000)(h3:c.file.alters.length≤100000):aj T aca [aZ r,eN c] (cells (ew r c)):=by
 refine .of_tree rfl ajR aBp ?_;cases hs:aF c.sign c.file.signs.length
 ·have hv:ew r c=[]:=by unfold ew jD;rw[hs];simp
  rw[hv];simp[um];refine⟨_,pj _ _,?_⟩;simp[hs];rfl
 by_cases hh:c.holder< -1
 ·have hv:ew r c=[]:=by unfold ew jD;rw[hs];simp;intros;omega
  rw[hv];simp[um,hh];exact⟨⟨_,pj _ _⟩,rfl⟩
 by_cases hm:(c.file.signs.length:Int)≤fO c
 ·have hv:ew r c=[]:=by unfold ew jD;rw[hs];simp;intros;omega
  rw[hv];unfold fO at hm;simp[um,hm];exact⟨⟨_,pj _ _⟩,rfl⟩
 by_cases hd:c.due≠-1∧aF c.due 100001=false
 ·have hv:ew r c=[]:=by unfold ew jD;rw[hs];simp[hd]
  rw[hv];unfold fO at hm;obtain⟨bf,dt⟩:=hd;simp[um,hh,hm,bf];refine⟨_,pj _ _,?_⟩;simp[hs,hh,hm,bf];refine⟨_,pj _ _,?_⟩;simp[hs,hh,hm,bf,dt];rfl
 have BS:jD c=true:=by
  unfold jD;rw[hs];simp;refine⟨⟨by omega,by omega⟩,?_⟩;by_cases h:c.due=-1
  ·exact .inl h
  ·right;cases hb:aF c.due 100001
   ·exact absurd ⟨h,hb⟩ hd
   ·rfl
 have hlen:c.sign.toNat<c.file.signs.length:=by simp[aF] at hs;omega
 have dj:0≤c.sign∧c.sign<(c.file.signs.length:Int):=by simpa [aF] using hs
 obtain⟨s,Cs⟩:∃s:Sign,s=c.file.signs[c.sign.toNat]:=⟨_,rfl⟩
 have kJ:c.file.signs.getD c.sign.toNat default=s:=by rw[Cs];simp[hlen]
 have hv:ew r c=if aF s.day 100001=true then oq r c s else[]:=by
  unfold ew;rw[kJ,BS];simp
 rw[hv];unfold fO at hm;by_cases BV:c.due=-1
 case' pos=>
  have Yr:(c.due=-1)=True:=eq_true BV;simp[um,hh,hm,Yr];refine⟨_,pj _ _,?_⟩;simp[hs,hh,hm,Yr,hlen,←Cs,dj]
 case' neg=>
  have BT:aF c.due 100001=true:=by
   cases hb:aF c.due 100001
   ·exact absurd ⟨BV,hb⟩ hd
   ·rfl
  simp[um,hh,hm,BV];refine⟨_,pj _ _,?_⟩;simp[hs,hh,hm,BV];refine⟨_,pj _ _,?_⟩;simp[hs,hh,hm,BV,BT,hlen,←Cs,dj]
 all_goals
  refine⟨_,pj _ _,?_⟩;cases sM:aF s.day 100001
  ·simp[sM];rfl
  simp[sM,eF];refine aat (kq c s) D.int (fun n=>⟨true,n⟩) (fun _=>dI) ?_ ?_ ?_ ?_ (fun p hp g done=>?_) ?_
  ·intro p q hp hq h;simp[kq] at hp hq;rcases hp with rfl|rfl|rfl|rfl|rfl|rfl|rfl<;>rcases hq with rfl|rfl|rfl|rfl|rfl|rfl|rfl<;>first|rfl|(simp at h)
  ·intro p hp;simp[kq] at hp;rcases hp with rfl|rfl|rfl|rfl|rfl|rfl|rfl<;>simp
  ·have O9:(if c.due=-1 then(0:Int) else IntKind.i64.wrap (s.day-c.due))=vN s c.due:=by
        unfold vN;by_cases h:c.due=-1
        ·simp[h]
        ·have BT:aF c.due 100001=true:=by
          cases hb:aF c.due 100001
          ·exact absurd ⟨h,hb⟩ hd
          ·rfl
         simp[aF] at BT sM;rw[if_neg h,if_neg h];exact aW (by omega)
   simp[kq,eF,hlen,←Cs];rw[←O9];by_cases h:c.due=-1<;>simp[h]
  ·simp[gn];rfl
  ·have hr:0≤p.1∧p.1<20:=by
        simp[kq] at hp;rcases hp with rfl|rfl|rfl|rfl|rfl|rfl|rfl<;>simp
   have hk:p.1.toNat<20:=by omega
   simp[ayH,SO,qq,EY g hk];exact hr
  have atD:∀k (hk:k<c.file.alters.length),aj T acb (og c.file.alters[k]::[.ref (eN c)]) (.bool (decide ((c.file.alters.getD k default).at_≤c.sign))):=fun k hk=>by
   refine .of_tree rfl ajS aBo ?_;simp[U6,hk]
  simp;refine⟨_,ag7 c.file.alters _ _ _ atD (by omega),_,ph r _,_,ph r _,?_⟩;have O9:(if c.due=-1 then(0:Int) else IntKind.i64.wrap (s.day-c.due))=vN s c.due:=by
   unfold vN;by_cases h:c.due=-1
   ·simp[h]
   ·have BT:aF c.due 100001=true:=by
     cases hb:aF c.due 100001
     ·exact absurd ⟨h,hb⟩ hd
     ·rfl
    simp[aF] at BT sM;rw[if_neg h,if_neg h];exact aW (by omega)
  have O8:cells (oq r c s)=gn (fun i=>if i=15 then cF c.file 0 c.sign else if i=16 then cF c.file 1 c.sign else if i=17 then cF c.file 2 c.sign else if i=18 then cF c.file 3 (fO c) else if i=19 then cF c.file 4 (fO c) else xy (kS r c s) dU (xy (kq c s) (fun n=>⟨true,n⟩) (fun _=>dI)) i):=by
   rfl
  generalize xy (kq c s) (fun n=>(⟨true,n⟩:Cell)) (fun _=>dI)=g1 at*;refine aat (kS r c s) D.bool dU g1 ?_ ?_ ?_ ?_ (fun p hp g done=>?_) ?_
  ·intro p q hp hq h;simp[kS] at hp hq;rcases hp with rfl|rfl|rfl|rfl|rfl|rfl|rfl|rfl<;>rcases hq with rfl|rfl|rfl|rfl|rfl|rfl|rfl|rfl<;>first|rfl|(simp at h)
  ·intro p hp;simp[kS] at hp;rcases hp with rfl|rfl|rfl|rfl|rfl|rfl|rfl|rfl<;>simp
  ·simp[kS,eF,hlen,←Cs,Bz];rw[←O9];by_cases h:c.due=-1<;>simp[h,xe]
  ·simp
  ·have hr:0≤p.1∧p.1<20:=by
        simp[kS] at hp;rcases hp with rfl|rfl|rfl|rfl|rfl|rfl|rfl|rfl<;>simp
   have hk:p.1.toNat<20:=by omega
   simp[ayI,SP,qq,EY g hk];refine⟨_,af0 _,?_⟩;simp[EY g hk];exact hr
  simp;generalize xy (kS r c s) dU g1=g2 at*;have hho:(if c.holder<0 then D.int 0 else D.int c.holder)=D.int (fO c):=by
   unfold fO;split<;>rfl
  rw[hho];refine⟨_,D6 _ _ _ (by omega),_,D6 _ _ _ (by omega),_,D6 _ _ _ (by omega),_,D6 _ _ _ (by omega),_,D6 _ _ _ (by omega),?_⟩;rw[O8];simp only[akQ,azt,akS,akR];refine WX fun i hi=>?_;by_cases G0:i=15
  ·subst G0;simp
  by_cases G1:i=16
  ·subst G1;simp
  by_cases G3:i=17
  ·subst G3;simp
  by_cases G4:i=18
  ·subst G4;simp
  by_cases X3:i=19
  ·subst X3;simp
  simp[G0,G1,G3,G4,X3]
end Rm
namespace Rm
open Go Go.Proofs Cx
def IG (n:Nat)(x:Int):Bool:=decide (x<0)||decide ((n:Int)≤x)
def lf (r:Realm)(a q:Int)(l:List Int):Bool:=
 !(decide (a<0)||decide ((r.orders.length:Int)≤a)||decide (q<0)||decide (22≤q)||decide (l.length≠5))&& !((List.range l.length).any fun k=>IG r.orders.length (l.getD k 0))
theorem ao7 (x n:Int):aj T QJ [.int x,.ref (.int n)] (.bool (decide (x<0)||decide (n≤x))):=by
 refine .of_tree rfl aiX aAu ?_;by_cases h:x<0<;>simp[Ud,h]
theorem XJ (r:Realm)(a q:Int)(l:List Int)(hl:l.length≤100000):aj T abn [aZ r,.int a,.int q,ints l] (.bool (lf r a q l)):=by
 refine .of_tree rfl aiW aAv ?_;by_cases h1:a<0
 ·simp[uk,lf,h1]
 by_cases h2:(r.orders.length:Int)≤a
 ·simp[uk,lf,h1,h2]
 by_cases h3:q<0
 ·simp[uk,lf,h1,h2,h3]
 by_cases h4:22≤q
 ·simp[uk,lf,h1,h2,h3,h4]
 by_cases h5:(l.length:Int)=5
 ·have G6:l.length=5:=by omega
  simp[uk,h1,h2,h3,h4,G6];refine⟨_,ag8 l QJ [.ref (.int r.orders.length)] (fun k=>IG r.orders.length (l.getD k 0)) (fun k hk=>by simpa [IG,hk] using ao7 l[k] r.orders.length) (by omega),?_⟩;simp only[lf,G6];simp[h1,h2,h3,h4]
 ·have G6:¬l.length=5:=by omega
  simp[uk,lf,h1,h2,h3,h4,G6];intro h;omega
theorem Ot {r:Realm}{a q:Int}{l:List Int}(h:lf r a q l=true):(0≤a∧a<r.orders.length)∧l.length=5∧(∀x,x∈l→0≤x∧x<r.orders.length)∧∀b:Int,0≤b→b<r.orders.length→lf r b q l=true:=by
 unfold lf at h ⊢;rw[Bool.and_eq_true] at h;obtain⟨h1,h2⟩:=h;simp at h1;refine⟨by omega,h1.2,fun x hx=>?_,fun b je dX=>?_⟩
 ·obtain⟨k,hk,rfl⟩:=List.getElem_of_mem hx;simp[IG] at h2;have:=h2 k hk;simp[hk] at this;omega
 ·rw[h2];simp;omega
def zG (r:Realm):Prop:=∀o,o∈r.orders→o.choices.length≤100000∧∀ch,ch∈o.choices→0≤ch.by_∧ch.by_<5
def vO (q:Int)(ch:Choice):Bool:=decide (ch.ask=q)&&decide (ch.by_≠0)
def nE (r:Realm)(a:Int):Order:=r.orders.getD a.toNat default
def fB (r:Realm)(a q:Int)(l:List Int):Int×Bool:=
 (match(nE r a).choices.find? (vO q) with|some ch=>l.getD ch.by_.toNat 0|none=>a,match(nE r a).choices.find? (vO q) with|some ch=>ch.whole|none=>false)
theorem V6 (r:Realm)(oz:zG r)(a q:Int)(l:List Int)(hl:l.length≤100000)(hf:lf r a q l=true):
 aj T abm [aZ r,.int a,.int q,ints l] (.tup [.int (fB r a q l).1,.bool (fB r a q l).2])∧0≤(fB r a q l).1∧(fB r a q l).1<r.orders.length:=by
 obtain⟨ha,YO,hx,_⟩:=Ot hf;have rk:a.toNat<r.orders.length:=by omega
 obtain⟨ba,pV⟩:=oz _ (List.getElem_mem rk);obtain⟨o,ho⟩:∃o,o=r.orders[a.toNat]:=⟨_,rfl⟩
 rw[←ho] at ba pV;have Pw:nE r a=o:=by rw[ho];simp[nE,rk]
 unfold fB;rw[Pw];refine⟨?_,?_⟩
 ·refine .of_tree rfl aiV aAt ?_;simp[Uc];refine⟨_,XJ r a q l hl,?_⟩;simp[hf,rk,←ho,ha];refine aO.scan o.choices.length (fun k=>vO q (o.choices.getD k default)=false) (fun k=>[.int 0,.bool false,.int k]) (fun _=>[]) ?_ (fun k hk hj az=>?_) (fun k hk hj az=>?_) (fun hj=>?_)
  ·simp
  ·have hw:=bI hk (by omega);have hn:¬(o.choices[k].ask=q∧¬o.choices[k].by_=0):=by simpa [vO,hk] using az
   simp[Sq,Dw,rk,←ho,hk,hw,hn]
  ·have kG:=Bs hk (by simpa [hk] using az) (fun j cN=>by have:=hj j cN;simpa [show j<o.choices.length by omega] using this);rw[kG];have hc:o.choices[k].ask=q∧¬o.choices[k].by_=0:=by simpa [vO,hk] using az
   have hb:=pV _ (List.getElem_mem hk);have Hf:o.choices[k].by_.toNat<l.length:=by omega
   simp[Sq,Dw,rk,←ho,hk,hc,ints,Hf];omega
  ·have kG:=GQ (l:=o.choices) (p:=vO q) (fun j cN=>by have:=hj j cN;simpa [cN] using this);rw[kG];simp[Sq,Dw,rk,←ho]
 ·cases kG:o.choices.find? (vO q) with
  |none=>exact ha
  |some ch=>
   have hb:=pV _ (List.mem_of_find?_eq_some kG);have Hf:ch.by_.toNat<l.length:=by omega
   simp[Hf];exact hx _ (List.getElem_mem Hf)
theorem RI:∀(N:Nat) (l:List Int),l.Nodup→(∀x,x∈l→0≤x∧x<(N:Int))→l.length≤N
 |0,l,hn,h=>by
  cases l with
  |nil=>simp
  |cons a l=>have:=h a (by simp);omega
 |N+1,l,hn,h=>by
  by_cases hm:(N:Int)∈l
  ·have h1:=RI N (l.erase (N:Int)) (hn.erase _) (fun x hx=>by
    have cX:=(hn.mem_erase_iff).mp hx;have:=h x cX.2;have aE:=cX.1;omega)
   rw[List.length_erase_of_mem hm] at h1;omega
  ·have h1:=RI N l hn (fun x hx=>by
    have:=h x hx;have aE:x≠(N:Int):=fun e=>hm (e▸hx);omega)
   omega
def da (l:List Int):Int:=l.getD (l.length-1) 0
def kh (r:Realm)(q:Int)(l:List Int):Nat→List Int→List Int×Int
 |0,p=>(p,0)
 |n+1,p=>
  if(fB r (da p) q l).1=da p then(p,0)
  else if(fB r (da p) q l).2=false∨(hasB p (fB r (da p) q l).1=true∧(nE r (fB r (da p) q l).1).accepts=true) then(p++[(fB r (da p) q l).1],0)
  else if hasB p (fB r (da p) q l).1=true then(p++[(fB r (da p) q l).1],12)
  else kh r q l n (p++[(fB r (da p) q l).1])
theorem Qp (r:Realm)(q:Int)(l:List Int)(n:Nat)(p:List Int):kh r q l (n+1) p=
 if(fB r (da p) q l).1=da p then(p,0)
 else if(fB r (da p) q l).2=false∨(hasB p (fB r (da p) q l).1=true∧(nE r (fB r (da p) q l).1).accepts=true) then(p++[(fB r (da p) q l).1],0)
 else if hasB p (fB r (da p) q l).1=true then(p++[(fB r (da p) q l).1],12)
 else kh r q l n (p++[(fB r (da p) q l).1]):=rfl
def iw (r:Realm)(a q:Int)(l:List Int):List Int×Int:=if lf r a q l=true∧l.getD 0 0=a then kh r q l r.orders.length [a] else([],1)
theorem ahj (r:Realm)(oz:zG r)(hn:r.orders.length≤100000)(a q:Int)(l:List Int)(hl:l.length≤100000):aj T abl [aZ r,.int a,.int q,ints l] (.tup [ints (iw r a q l).1,.int (iw r a q l).2]):=by
 refine .of_tree rfl aiU aAs ?_;simp[Ub];refine⟨_,XJ r a q l hl,?_⟩;cases hf:lf r a q l
 ·simp[iw,hf];rfl
 obtain⟨ha,YO,hx,u9⟩:=Ot hf;have h0:0<l.length:=by omega
 by_cases sV:l[0]=a
 ·have hE:iw r a q l=kh r q l r.orders.length [a]:=by unfold iw;rw[if_pos ⟨hf,by simp[h0,sV]⟩]
  rw[hE];simp[h0,sV,ints];refine aO.forLoop (α:=Nat×List Int) (fun s vr vo=>vr=[.list [],.int 0,.none]∧vo=[ints s.2]∧s.2.Nodup∧(∀x,x∈s.2→0≤x∧x<(r.orders.length:Int))∧s.2≠[]∧s.1+s.2.length=r.orders.length+1∧kh r q l s.1 s.2=kh r q l r.orders.length [a]) (fun s=>s.1) (r.orders.length,[a]) ?_ ?_
  ·simp[ints];exact ha
  ·rintro⟨n,p⟩ vr vo ⟨rfl,rfl,bu,bC,aE,hlen,B6⟩;simp only at*;have fh:p.length≤r.orders.length:=RI _ p bu bC;have PJ:0<p.length:=List.length_pos_iff.mpr aE;obtain⟨m,rfl⟩:∃m,n=m+1:=⟨n-1,by omega⟩
   have af:p.length-1<p.length:=by omega
   have ka:da p=p[p.length-1]:=by simp[da,af]
   have vj:=bC _ (List.getElem_mem af);rw[←ka] at vj;obtain⟨OL,gf,gg⟩:=V6 r oz (da p) q l hl (u9 _ vj.1 vj.2);have Pj:((p.length:Int)-1).toNat=p.length-1:=by omega
   have Qd:IntKind.i64.wrap ((p.length:Int)-1)=(p.length:Int)-1:=aW (by omega);rw[←B6,Qp];obtain⟨L,hL⟩:∃L,L=fB r (da p) q l:=⟨_,rfl⟩
   rw[←hL] at OL gf gg ⊢;obtain⟨to,whole⟩:=L;simp only at OL gf gg;have vC:to.toNat<r.orders.length:=by omega
   have Pw:nE r to=r.orders[to.toNat]:=by simp[nE,vC]
   simp only[Pw];simp[ayF,Sp,Qd,Pj,af,←ka,ints];refine⟨by omega,_,OL,?_⟩;by_cases h1:to=da p
   ·simp[h1]
   simp[h1];refine⟨_,uE p to (by omega),by omega,?_⟩;cases whole
   ·simp
   cases h2:hasB p to
   ·have cW:to∉p:=fun hm=>by
     have:hasB p to=true:=by simp[hasB,hm]
     rw[h2] at this;cases this
    simp[h2];refine⟨m,by omega,p++[to],by simp,?_,?_,by simp,by simp;omega,rfl⟩
    ·exact List.nodup_append.mpr ⟨bu,by simp,fun x hx y hy=>by simp at hy;subst hy;exact fun e=>cW (e▸hx)⟩
    ·intro x hx;rcases List.mem_append.mp hx with h|h
     ·exact bC x h
     ·simp at h;subst h;exact⟨gf,gg⟩
   ·cases h3:r.orders[to.toNat].accepts<;>simp[h2,h3,vC]<;>omega
 ·have hE:iw r a q l=([],1):=by unfold iw;rw[if_neg (by simp[h0,sV])]
  rw[hE];simp[h0,sV];rfl
end Rm
namespace Rm
open Go Go.Proofs Cx
def cL (f:File)(i:Int):Sign:=f.signs.getD i.toNat default
def jq (r:Realm)(forum:Int)(c:Case):List Int:=[forum,fC r (cL c.file c.sign).city,fC r c.file.bill.pay,fC r c.file.bill.city,fC r (r.firms.getD (cL c.file c.sign).who.toNat default).city]
def kZ (r:Realm)(forum:Int)(c:Case):Prop:=(cL c.file c.sign).who<0∨(r.firms.length:Int)≤(cL c.file c.sign).who∨forum<0∨(r.orders.length:Int)≤forum
instance (r:Realm) (forum:Int) (c:Case):Decidable (kZ r forum c):=by unfold kZ;infer_instance
def fT (r:Realm)(forum:Int)(c:Case):List Int:=if kZ r forum c then[] else if hasB (jq r forum c) (-1)=true then[] else jq r forum c
@[simp] theorem aFJ (r:Realm)(x:Int):xg (aZ r) x=fC r x:=by
  unfold xg fC aF;by_cases h:0≤x∧x<(r.cities.length:Int)
  ·have hx:x.toNat<r.cities.length:=by omega
   rw[if_pos (by simpa using h),if_pos (by simpa using h)];simp[hx]
  ·rw[if_neg (by simpa using h),if_neg (by simpa using h)]
theorem aeR (r:Realm)(forum:Int)(c:Case)(h1:c.sign.toNat<c.file.signs.length):RJ [aZ r,.int forum,eN c]=ints (fT r forum c):=by
 have hs:cL c.file c.sign=c.file.signs[c.sign.toNat]:=by simp[cL,h1]
 unfold RJ fT;simp[h1];by_cases hb:kZ r forum c
 ·rw[if_pos (by simpa [kZ,hs] using hb),if_pos hb];rfl
 ·rw[if_neg (by simpa [kZ,hs] using hb),if_neg hb];have yf:(cL c.file c.sign).who.toNat<r.firms.length:=by unfold kZ at hb;omega
  have ZD:c.file.signs[c.sign.toNat].who.toNat<r.firms.length:=by rw[←hs];exact yf
  have jL:jq r forum c=[forum,fC r c.file.signs[c.sign.toNat].city,fC r c.file.bill.pay,fC r c.file.bill.city,fC r r.firms[c.file.signs[c.sign.toNat].who.toNat].city]:=by
   simp[jq,hs,ZD]
  have cS:∀l:List Int,hasB l (-1)=true↔-1∈l:=fun l=>by simp[hasB]
  rw[jL];simp[ZD];split
  ·rename_i h;rw[if_pos ((cS _).mpr (by simpa using h))];rfl
  ·rename_i h;rw[if_neg (fun h'=>h (by simpa using(cS _).mp h'))]
theorem ayb (r:Realm)(forum:Int)(c:Case)(h1:0≤c.sign∧c.sign<c.file.signs.length):aj T awY [aZ r,.int forum,eN c] (ints (fT r forum c)):=by
 have cJ:c.sign.toNat<c.file.signs.length:=by omega
 rw[←aeR r forum c cJ];have hs:cL c.file c.sign=c.file.signs[c.sign.toNat]:=by simp[cL,cJ]
 refine aj.of_nsl rfl az6 az7 ?_;rw[aeR r forum c cJ];by_cases hb:kZ r forum c
 ·refine .inr ⟨by simp[fT,hb];rfl,?_⟩;have eO:=hb;simp[kZ,hs] at eO;simp[Mx,h1,cJ]
  intros;omega
 have pS:fT r forum c=if hasB (jq r forum c) (-1)=true then[] else jq r forum c:=by unfold fT;rw[if_neg hb]
 have eO:=hb;simp[kZ,hs] at eO;have hw:c.file.signs[c.sign.toNat].who.toNat<r.firms.length:=by omega
 have hC:=uE (jq r forum c) (-1) (by simp[jq]);cases hh:hasB (jq r forum c) (-1)<;>rw[hh] at hC<;>simp[jq,ints,hs,hw] at hC
 ·refine .inl ⟨(jq r forum c).map .int,by simp[jq],by rw[pS,hh];rfl,?_⟩;simp[TP,h1,cJ,hw];rw[if_neg (by omega)];refine⟨_,ph r _,_,ph r _,_,ph r _,by omega,_,ph r _,_,by simpa using hC,?_⟩;simp[jq,hs,hw]
 ·refine .inr ⟨by rw[pS,hh];rfl,?_⟩;simp[Mx,h1,cJ,hw]
  intros
  refine⟨_,ph r _,_,ph r _,_,ph r _,by omega,_,ph r _,_,by simpa using hC,?_⟩;simp
end Rm
namespace Rm
open Go Go.Proofs Cx
structure Right (r:Realm):Prop where
 by_:zG r
 len:r.orders.length≤100000
 ok:∀o,o∈r.orders→o.OK∧o.rules.length≤100000
structure FewS (f:File):Prop where
 signs:f.signs.length≤1000
 alters:f.alters.length≤1000
 acts:f.acts.length≤1000
 facts:f.facts.length≤1000
theorem agP {α:Type}(p:α→Bool)(l:List α):(l.takeWhile p).length≤l.length:=by
 obtain⟨m,h1,h2,_⟩:=zz p l;rw[h2,List.length_take];omega
theorem FewS.at_ {f:File}(h:FewS f)(day:Int):FewS (aG f day):=
 ⟨Nat.le_trans (agP _ _) h.1,Nat.le_trans (List.length_filter_le _ _) h.2,Nat.le_trans (agP _ _) h.3,Nat.le_trans (List.length_filter_le _ _) h.4⟩
def aV (c:Case):Case:={c with file:=aG c.file c.day}
@[simp] theorem aFA (x:File)(a0 a1 a2 a3 a4 a5 a6 a7 a8 a9 gH gI gJ gK gL iV iW jC iX:D)(s h d u y:Int):gM 24 (D.agg (cH [a0,a1,a2,a3,a4,a5,a6,a7,a8,a9,gH,gI,gJ,gK,gL,iV,iW,jC,iX,.int s,.int h,.int d,.int u,.int y] 0 [.int x.bill.drawer,.int x.bill.drawee,.int x.bill.payee,.int x.bill.sum,.int x.bill.currency,.int x.bill.tenor.kind,.int x.bill.tenor.n,.int x.bill.tenor.unit,.int x.bill.day,.int x.bill.city,.int x.bill.pay,.int x.bill.need,.int x.bill.rate,.int x.bill.flags,.int x.bill.parts,signs x.signs,alters x.alters,acts x.acts,facts x.facts]))=eN ⟨x,s,h,d,u,y⟩:=_root_.id rfl
theorem aim (r:Realm)(c:Case)(hf:FewS c.file):aj T aaZ [aZ r,eN c] (.tup [eN (aV c),cells (ew r (aV c))]):=by
 refine .of_tree rfl aiA az5 ?_;simp[TO];have h1:=hf.1;have h2:=hf.2;have h3:=hf.3;have h4:=hf.4;refine⟨_,D5 c.file c.day (by omega) (by omega) (by omega) (by omega),?_⟩;have Hm:=hf.at_ c.day;have h5:=Hm.4;have h6:=Hm.2;simp;exact⟨ayR r (aV c) (by show(aG c.file c.day).facts.length≤_;omega) (by show(aG c.file c.day).alters.length≤_;omega),(congrArg (gM 24) (axS (aV c) _ _ _ _ _ _ _ _ _ _ _ _ _ _ _ _ _ _ _ _ _ _ _ _)).trans (ahC (aV c))⟩
theorem aCj {r:Realm}{c:Case}(h:ew r c≠[]):0≤c.sign∧c.sign<c.file.signs.length:=by
 unfold ew at h;split at h
 ·rename_i hh;have h1:=hh.1;unfold jD at h1;simp[aF] at h1;omega
 ·exact absurd rfl h
theorem Z8 (r:Realm)(oz:zG r)(q:Int)(l:List Int)(hl:l.length≤100000)(u9:∀b:Int,0≤b→b<r.orders.length→lf r b q l=true):∀(n:Nat) (p:List Int),p≠[]→(∀x,x∈p→0≤x∧x<(r.orders.length:Int))→
 (kh r q l n p).1≠[]∧∀x,x∈(kh r q l n p).1→0≤x∧x<(r.orders.length:Int)
 |0,p,aE,hp=>⟨aE,hp⟩
 |n+1,p,aE,hp=>by
  have af:p.length-1<p.length:=by have:=List.length_pos_iff.mpr aE;omega
  have ka:da p=p[p.length-1]:=by simp[da,af]
  have vj:=hp _ (List.getElem_mem af);rw[←ka] at vj;obtain⟨_,ht⟩:=V6 r oz (da p) q l hl (u9 _ vj.1 vj.2)
  have aU:∀x,x∈p++[(fB r (da p) q l).1]→0≤x∧x<(r.orders.length:Int):=fun x hx=>by
   rcases List.mem_append.mp hx with h|h
   ·exact hp x h
   ·simp at h;subst h;exact ht
  rw[Qp];split
  ·exact⟨aE,hp⟩
  split
  ·exact⟨by simp,aU⟩
  split
  ·exact⟨by simp,aU⟩
  ·exact Z8 r oz q l hl u9 n _ (by simp) aU
theorem Z7 {r:Realm}(hr:Right r){a q:Int}{l:List Int}(hl:l.length≤100000)(h:(iw r a q l).2=0):(iw r a q l).1≠[]∧0≤da (iw r a q l).1∧da (iw r a q l).1<r.orders.length:=by
 unfold iw at h ⊢;split at h
 ·rename_i hh;rw[if_pos hh];obtain⟨ha,YO,hx,u9⟩:=Ot hh.1;obtain⟨h1,h2⟩:=Z8 r hr.by_ q l hl u9 r.orders.length [a] (by simp) (fun x hx=>by simp at hx;subst hx;exact ha);refine⟨h1,?_⟩;have af:(kh r q l r.orders.length [a]).1.length-1<(kh r q l r.orders.length [a]).1.length:=by have:=List.length_pos_iff.mpr h1;omega
  have ka:da (kh r q l r.orders.length [a]).1=(kh r q l r.orders.length [a]).1[(kh r q l r.orders.length [a]).1.length-1]:=by simp[da,af]
  rw[ka];exact h2 _ (List.getElem_mem af)
 ·cases h
theorem Z9 (r:Realm)(q:Int)(l:List Int):∀(n:Nat) (p:List Int),(kh r q l n p).1.length≤p.length+n
 |0,p=>by simp[kh]
 |n+1,p=>by
  rw[Qp];split
  ·simp
  split
  ·simp
  split
  ·simp
  ·have:=Z9 r q l n (p++[(fB r (da p) q l).1]);simp at this;omega
theorem avr (r:Realm)(a q:Int)(l:List Int):(iw r a q l).1.length≤1+r.orders.length:=by
 unfold iw;split
 ·exact Z9 r q l _ [a]
 ·simp
@[simp] theorem aJF (a b c d e x:D):cH [a,b,c,d,e] 2 [x]=[a,b,x,d,e]:=_root_.id rfl
@[simp] theorem aJG (a b c d e x:D):cH [a,b,c,d,e] 3 [x]=[a,b,c,x,e]:=_root_.id rfl
@[simp] theorem aJH (a b c d e x:D):cH [a,b,c,d,e] 4 [x]=[a,b,c,d,x]:=_root_.id rfl
def QU:Said:=⟨dI,-1,[],1⟩
def eJ (r:Realm)(forum q:Int)(c:Case):Said×List Cell:=
 if ew r (aV c)=[] then(QU,[]) else if(lQ q).2=false then(QU,[]) else if fT r forum (aV c)=[] then(QU,[]) else
    (⟨dI,if(iw r forum q (fT r forum (aV c))).2=0 then da (iw r forum q (fT r forum (aV c))).1 else-1,(iw r forum q (fT r forum (aV c))).1,(iw r forum q (fT r forum (aV c))).2⟩,ew r (aV c))
theorem aeS (r:Realm)(forum:Int)(c:Case):(fT r forum c).length≤5:=by
 unfold fT;split
 ·simp
 split<;>simp[jq]
theorem ail (r:Realm)(hr:Right r)(forum q:Int)(c:Case)(hf:FewS c.file):aj T aaY [aZ r,.int forum,.int q,eN c] (.tup [nf (eJ r forum q c).1,cells (eJ r forum q c).2]):=by
 refine .of_tree rfl aiz az4 ?_;simp[TN];refine⟨_,aim r c hf,?_⟩;by_cases hv:ew r (aV c)=[]
 ·simp[hv,eJ];exact⟨rfl,rfl⟩
 simp[hv,eJ];refine⟨_,RA q,?_⟩;cases hq:(lQ q).2
 ·simp[hq];exact⟨rfl,rfl⟩
 simp[hq];refine⟨_,ayb r forum (aV c) (aCj hv),?_⟩;by_cases hp:fT r forum (aV c)=[]
 ·simp[hp];exact⟨rfl,rfl⟩
 have fh:=aeS r forum (aV c);have aE:ints (fT r forum (aV c))≠.list []:=fun e=>hp (by simpa [ints] using e);simp[hp];generalize fT r forum (aV c)=l at*;refine⟨_,ahj r hr.by_ hr.len forum q l (by omega),?_⟩;have hlen:=avr r forum q l;have B6:=Z7 hr (a:=forum) (q:=q) (l:=l) (by omega);have PA:=hr.len;generalize iw r forum q l=L at*;obtain⟨path,err⟩:=L;simp only at*;by_cases he:err=0
 ·obtain⟨h1,h2⟩:=B6 he;have PJ:=List.length_pos_iff.mpr h1;have Qd:IntKind.i64.wrap ((path.length:Int)-1)=(path.length:Int)-1:=aW (by omega);have Pj:((path.length:Int)-1).toNat=path.length-1:=by omega
  have af:path.length-1<path.length:=by omega
  have ka:da path=path[path.length-1]:=by simp[da,af]
  simp[he,Qd,Pj,af,←ka];exact⟨by omega,rfl⟩
 ·simp[he];rfl
def bS (r:Realm)(forum q:Int)(c:Case):Said:=
 if(eJ r forum q c).1.order=-1 then(eJ r forum q c).1
 else⟨(kB (nE r (eJ r forum q c).1.order) q (eJ r forum q c).2).1,(eJ r forum q c).1.order,(eJ r forum q c).1.path,(kB (nE r (eJ r forum q c).1.order) q (eJ r forum q c).2).2⟩
theorem aik {r:Realm}(hr:Right r)(forum q:Int)(c:Case):(eJ r forum q c).1.order=-1∨(0≤(eJ r forum q c).1.order∧(eJ r forum q c).1.order<r.orders.length):=by
 unfold eJ;split
 ·exact .inl rfl
 split
 ·exact .inl rfl
 split
 ·exact .inl rfl
 ·have fh:=aeS r forum (aV c);have B6:=Z7 hr (a:=forum) (q:=q) (l:=fT r forum (aV c)) (by omega);show(if _ then _ else _)=_∨_;split
  ·rename_i h;exact .inr (B6 h).2
  ·exact .inl rfl
theorem Nc (r:Realm)(hr:Right r)(forum q:Int)(c:Case)(hf:FewS c.file):aj T QG [aZ r,.int forum,.int q,eN c] (nf (bS r forum q c)):=by
 refine .of_tree rfl aiu azZ ?_;simp[TI];refine⟨_,ail r hr forum q c hf,?_⟩;have ho:=aik hr forum q c;unfold bS;generalize eJ r forum q c=S at*;obtain⟨s,cs⟩:=S;simp only at*;by_cases h:s.order=-1
 ·obtain⟨⟨kn,n⟩,o,pth,e⟩:=s;simp only at h;subst h;simp;rfl
 ·have h1:0≤s.order∧s.order<r.orders.length:=by omega
  have h2:s.order.toNat<r.orders.length:=by omega
  have h3:nE r s.order=r.orders[s.order.toNat]:=by simp[nE,h2]
  obtain⟨az,hlen⟩:=hr.ok _ (List.getElem_mem h2);simp[h,h1,h2,h3];refine⟨_,axO _ q cs az (by omega),?_⟩;simp;rfl
def iY (r:Realm)(forum q:Int)(f:File)(day:Int):Said:=bS r forum q ⟨{f with facts:=[]},0,-1,-1,-1,day⟩
theorem Wr (r:Realm)(hr:Right r)(forum q:Int)(f:File)(day:Int)(hf:FewS f):aj T aaU [aZ r,.int forum,.int q,bT f,.int day] (nf (iY r forum q f day)):=by
 refine .of_tree rfl aiv az0 ?_;simp[TJ];refine⟨nf (iY r forum q f day),Nc r hr forum q ⟨{f with facts:=[]},0,-1,-1,-1,day⟩ ⟨hf.1,hf.2,hf.3,by simp⟩,?_⟩;simp
 try rfl
def fY (s:Said):Int:=if s.err≠0 then 0 else if s.cell.known=false then 2 else if s.cell.n≠0 then 1 else 0
theorem EL (s:Said):aj T aaX [nf s] (.int (fY s)):=by
 refine .of_tree rfl aiy az3 ?_;unfold fY;by_cases h1:s.err=0<;>cases h2:s.cell.known<;>by_cases h3:s.cell.n=0<;>simp[TM,h1,h2,h3]
def dE (s:Said):Int:=if s.err≠0∨s.cell.known=false then-1 else s.cell.n
theorem Ws (s:Said):aj T aaW [nf s] (.int (dE s)):=by
 refine .of_tree rfl aix az2 ?_;unfold dE;by_cases h1:s.err=0<;>cases h2:s.cell.known<;>simp[TL,h1,h2]
end Rm
namespace Rm
open Go Go.Proofs Cx
def fW (day:Int)(l:List Act)(es:List (D×D)):List (D×D):=l.foldl (fun es a=>if a.kind=7∧a.day≤day then eF (.int a.at_) (.bool true) es else es) es
theorem azw (day:Int)(l:List Act){k:Nat}(hk:k<l.length):fW day (l.take (k+1)) []=if l[k].kind=7∧l[k].day≤day then eF (.int l[k].at_) (.bool true) (fW day (l.take k) []) else fW day (l.take k) []:=by
 unfold fW;rw[List.take_succ_eq_append_getElem hk,List.foldl_append];rfl
theorem aeV (k v:D):∀es:List (D×D),(eF k v es).length≤es.length+1
 |[]=>by simp[eF]
 |e::es=>by
  unfold eF;split
  ·simp
  ·have:=aeV k v es;simp;omega
theorem agy (day:Int):∀(l:List Act) (es:List (D×D)),(fW day l es).length≤es.length+l.length
 |[],es=>by simp[fW]
 |a::l,es=>by
  have h:=agy day l (if a.kind=7∧a.day≤day then eF (.int a.at_) (.bool true) es else es);have hp:=aeV (.int a.at_) (.bool true) es;show(fW day l (if a.kind=7∧a.day≤day then eF (.int a.at_) (.bool true) es else es)).length≤_;split at h
  ·rename_i hc;rw[if_pos hc];simp;omega
  ·rename_i hc;rw[if_neg hc];simp;omega
theorem azR (f:File)(day:Int)(hl:f.acts.length≤100000):aj T acK [bT f,.int day] (.map (fW day f.acts [])):=by
 refine .of_tree rfl akp aBW ?_;simp[VD];refine aO.forRounds f.acts.length (fun k=>[.int k]) (fun k=>[.map (fW day (f.acts.take k) [])]) ?_ (fun k hk=>?_) ?_
 ·simp[fW]
 ·have hw:=bI hk (by omega);have hs:=azw day f.acts hk;have hlen:=agy day (f.acts.take k) [];rw[hs];simp at hlen;generalize fW day (f.acts.take k) []=es at*;by_cases hc:f.acts[k].kind=7∧f.acts[k].day≤day
  ·simp[S4,D1,hk,hw,hc];omega
  ·simp[S4,D1,hk,hw,hc]
 ·simp[S4,D1]
theorem aeW {k v:D}:∀{es:List (D×D)} {e:D×D},e∈eF k v es→e.2=v∨e∈es
 |[],e,h=>by simp[eF] at h;exact .inl (by rw[h])
 |x::es,e,h=>by
  unfold eF at h;split at h
  ·rcases List.mem_cons.mp h with rfl|h
   ·exact .inl rfl
   ·exact .inr (by simp[h])
  ·rcases List.mem_cons.mp h with rfl|h
   ·exact .inr (by simp)
   ·rcases aeW h with h|h
    ·exact .inl h
    ·exact .inr (by simp[h])
theorem agz (day:Int):∀(l:List Act) (es:List (D×D)),(∀e,e∈es→e.2=.bool true)→∀e,e∈fW day l es→e.2=.bool true
 |[],es,h,e,he=>h e he
 |a::l,es,h,e,he=>by
  refine agz day l (if a.kind=7∧a.day≤day then eF (.int a.at_) (.bool true) es else es) (fun x hx=>?_) e he;split at hx
  ·rcases aeW hx with h'|h'
   ·exact h'
   ·exact h x h'
  ·exact h x hx
theorem aag {k d:D}:∀{es:List (D×D)},gi k es=some d→∃e,e∈es∧e.2=d
 |x::es,h=>by
  unfold gi at h;split at h
  ·exact⟨x,by simp,by simpa using h⟩
  ·obtain⟨e,h1,h2⟩:=aag h;exact⟨e,by simp[h1],h2⟩
theorem azu (day:Int)(l:List Act)(k:D):(gi k (fW day l [])).getD (.bool false)=.bool ((gi k (fW day l [])).getD (.bool false)).b:=by
 cases h:gi k (fW day l []) with
 |none=>rfl
 |some d=>
  obtain⟨e,h1,h2⟩:=aag h;have:=agz day l [] (fun e h=>by cases h) e h1;rw[h2] at this;rw[this];rfl
def jW (f:File)(sign day:Int):Bool:=aF sign f.signs.length&&((gi (.int sign) (fW day f.acts [])).getD (.bool false)).b
theorem azQ (f:File)(sign day:Int)(hl:f.acts.length≤100000):aj T acJ [bT f,.int sign,.int day] (.bool (jW f sign day)):=by
 refine .of_tree rfl ako aBV ?_;by_cases h1:0≤sign<;>by_cases h2:sign<f.signs.length<;>simp[VC,h1,h2,jW,aF];refine⟨_,azR f day hl,?_⟩;exact azu day f.acts (.int sign)
def jy (f:File)(sign:Int)(n:Nat):Int:=(f.alters.take n).foldl (fun s a=>if a.at_≤sign then a.sum else s) f.bill.sum
theorem ax0 (f:File)(sign:Int)(hl:f.alters.length≤100000):aj T abE [bT f,.int sign] (.int (jy f sign f.alters.length)):=by
 refine .of_tree rfl ajf aAM ?_;simp[Uu];refine aO.forRounds f.alters.length (fun k=>[.int (jy f sign k),.int k]) (fun k=>[]) ?_ (fun k hk=>?_) ?_
 ·simp[jy]
 ·have hw:=bI hk (by omega);have hs:jy f sign (k+1)=if f.alters[k].at_≤sign then f.alters[k].sum else jy f sign k:=by
   unfold jy;rw[List.take_succ_eq_append_getElem hk,List.foldl_append];rfl
  rw[hs];generalize jy f sign k=s at*;by_cases hc:f.alters[k].at_≤sign<;>simp[afJ,LM,hk,hw,hc]
 ·simp[afJ,LM]
end Rm
namespace Rm
open Go Go.Proofs Cx
theorem yk (r:Realm)(c:Int):aj T acu [aZ r,.int c] (.bool (aF c r.cities.length)):=by
 refine .of_tree rfl aj7 aBE ?_;by_cases h1:0≤c<;>by_cases h2:c<r.cities.length<;>simp[Vm,h1,h2,aF]
def fb (n:Int):Bool:=decide (0≤n)&&decide (n≤100000)
theorem tp (n:Int):aj T Ij [.int n] (.bool (fb n)):=by
 refine .of_tree rfl aj8 aBF ?_;by_cases h1:0≤n<;>by_cases h2:n≤100000<;>simp[Vn,h1,h2,fb]
theorem Ex (n:Int):aj T abh [.int n] (.bool (fb n)):=by
 refine .of_tree rfl aiQ aAo ?_;by_cases h1:0≤n<;>by_cases h2:n≤100000<;>simp[T7,h1,h2,fb]
def Mk (t:Tenor):Bool:=decide (t.kind=0)||decide (t.kind=1)
theorem zI (t:Tenor):aj T acr [pK t] (.bool (Mk t)):=by
 refine .of_tree rfl aj6 aBD ?_;by_cases h1:t.kind=0<;>simp[Vl,h1,Mk]
theorem acV (y m d:Int):∃n:Int,aj T QI [.int y,.int m,.int d] (.int n):=by
 by_cases h:m<3
 ·refine⟨?w,?h⟩
  case h=>
   refine aj.of_tree (d:=.int ?w) rfl Ww agI ?_;simp[MC,h];exact rfl
 ·refine⟨?v,?g⟩
  case g=>
   refine aj.of_tree (d:=.int ?v) rfl Ww agI ?_;simp[MC,h];exact rfl
noncomputable def CX (y m d:Int):Int:=(acV y m d).choose
theorem Iq (y m d:Int):aj T QI [.int y,.int m,.int d] (.int (CX y m d)):=(acV y m d).choose_spec
noncomputable def yq (y m:Int):Int:=if m=12 then 31 else IntKind.i64.wrap (CX y (IntKind.i64.wrap (m+1)) 1-CX y m 1)
theorem H5 (y m:Int):aj T abf [.int y,.int m] (.int (yq y m)):=by
 refine .of_tree rfl aiO aAm ?_;unfold yq;by_cases h:m=12
 ·simp[MB,h]
 ·simp[MB,h];refine⟨_,Iq _ _ _,_,Iq _ _ _,?_⟩;simp
theorem aha (y m d:Int):∃n e:Int,aj T aba [.int y,.int m,.int d] (.tup [.int n,.int e])∧(e=0→0≤n∧n≤100000):=by
 by_cases h0:(((2000≤y∧y≤2300)∧1≤m)∧m≤12)∧1≤d
 ·by_cases h2:d≤yq y m
  ·cases h1:fb (CX y m d)
   ·refine⟨0,3,.of_tree rfl EP MA ?_,by simp⟩;simp[zw];rw[if_pos h0];refine⟨_,H5 y m,?_⟩;simp[h0,h2];refine⟨_,Iq _ _ _,_,Ex _,?_⟩;simp[h1]
   ·refine⟨CX y m d,0,.of_tree rfl EP MA ?_,fun _=>by simpa [fb] using h1⟩;simp[zw];rw[if_pos h0];exact⟨_,H5 y m,⟨h0,h2⟩,_,Iq _ _ _,_,Ex _,h1,rfl⟩
  ·refine⟨0,3,.of_tree rfl EP MA ?_,by simp⟩;simp[zw];rw[if_pos h0];refine⟨_,H5 y m,?_⟩;simp[h0,h2]
 ·refine⟨0,3,.of_tree rfl EP MA ?_,by simp⟩;simp[zw];rw[if_neg h0];intro a1 a2 a3 a4 a5;exact absurd ⟨⟨⟨⟨a1,a2⟩,a3⟩,a4⟩,a5⟩ h0
theorem V8 (r:Realm)(fr to:Int)(hl:r.usances.length≤100000):∃n e:Int,aj T QS [aZ r,.int fr,.int to] (.tup [.int n,.int e])∧(e=0→∃u,u∈r.usances∧n=u.days)∧(e=0↔∃u,u∈r.usances∧u.fr=fr∧u.to=to):=by
 let p:Usance→Bool:=fun u=>decide (u.fr=fr)&&decide (u.to=to)
 refine⟨match r.usances.find? p with|some u=>u.days|none=>0,match r.usances.find? p with|some u=>0|none=>4,?_,?_⟩
 ·refine .of_tree rfl ajD aBa ?_;simp[UR];refine aO.scan r.usances.length (fun k=>p (r.usances.getD k default)=false) (fun k=>[.int 0,.int 0,.int k]) (fun _=>[]) ?_ (fun k hk hj az=>?_) (fun k hk hj az=>?_) (fun hj=>?_)
  ·simp
  ·have hw:=bI hk (by omega);have hn:¬(r.usances[k].fr=fr∧r.usances[k].to=to):=by simpa [p,hk] using az
   simp[Sz,DE,hk,hw,hn]
  ·have kG:=Bs hk (by simpa [hk] using az) (fun j cN=>by have:=hj j cN;simpa [show j<r.usances.length by omega] using this);have hc:r.usances[k].fr=fr∧r.usances[k].to=to:=by simpa [p,hk] using az
   rw[kG];simp[Sz,DE,hk,hc]
  ·have kG:=GQ (l:=r.usances) (p:=p) (fun j cN=>by have:=hj j cN;simpa [cN] using this);rw[kG];simp[Sz,DE]
 ·cases h:r.usances.find? p with
  |none=>
   refine⟨fun h=>(by cases h),fun h=>(by cases h),fun⟨u,hu,h1,h2⟩=>?_⟩;have:=List.find?_eq_none.1 h u hu;simp[p,h1,h2] at this
  |some u=>
   have h2:u.fr=fr∧u.to=to:=by simpa [p] using List.find?_some h
   exact⟨fun _=>⟨u,List.mem_of_find?_eq_some h,rfl⟩,fun _=>⟨u,List.mem_of_find?_eq_some h,h2⟩,fun _=>rfl⟩
theorem ahp (r:Realm)(fr to:Int)(hl:r.usances.length≤100000):∃n e:Int,aj T QS [aZ r,.int fr,.int to] (.tup [.int n,.int e])∧(e=0→∃u,u∈r.usances∧n=u.days):=by
 obtain⟨n,e,h1,h2,_⟩:=V8 r fr to hl;exact⟨n,e,h1,h2⟩
end Rm
namespace Rm
open Go Go.Proofs Cx
theorem W5 (R Y:Int)(hR:0≤R∧R<146097)(h1:365*Y≤R-R/1460+R/36524-R/146096)(h2:R-R/1460+R/36524-R/146096<365*Y+365):0≤R-(365*Y+Y/4-Y/100)∧R-(365*Y+Y/4-Y/100)≤500:=by
 have k0:R/36524≤R/1460:=by omega
 have k1:Y/4≤R/1460:=by omega
 have hY:0≤Y:=by omega
 have hc:R/36524=0∨R/36524=1∨R/36524=2∨R/36524=3∨R/36524=4:=by omega
 have k2:25*(R/36524)≤R/1460:=by omega
 refine⟨?_,?_⟩
 ·rcases Int.lt_or_le Y (100*(R/36524)) with hy|hy
  ·have k3:Y/4≤25*(R/36524)-1:=by omega
   have k4:R/36524-1≤Y/100:=by omega
   omega
  ·have k3:R/36524≤Y/100:=by omega
   omega
 ·omega
theorem W6 (n:Int)(h:0≤n∧n≤100400):aj T abc [.int n] (.tup [.int (eM n).1,.int (eM n).2.1,.int (eM n).2.2]):=by
 refine .of_tree rfl aiM aAj ?_;have w:∀x:Int,-1000000000≤x→x≤1000000000→IntKind.i64.wrap x=x:=fun x a b=>aW (by omega);have t:∀x y:Int,0≤x→x.tdiv y=x/y:=fun x y hx=>Int.tdiv_eq_ediv_of_nonneg hx;have u:∀x y:Int,0≤x→x.tmod y=x%y:=fun x y hx=>Int.tmod_eq_emod_of_nonneg hx;simp[T3];unfold eM;simp only[];rw[w (n+730425) (by omega) (by omega),u (n+730425) 146097 (by omega),t (n+730425) 146097 (by omega)];have hR:0≤(n+730425)%146097∧(n+730425)%146097<146097:=by omega
 have hE:0≤(n+730425)/146097∧(n+730425)/146097<100:=by omega
 generalize (n+730425)%146097=R at*;generalize (n+730425)/146097=e at*;rw[t R 1460 (by omega),t R 36524 (by omega),t R 146096 (by omega),w (R/1460) (by omega) (by omega),w (R-R/1460) (by omega) (by omega),w (R/36524) (by omega) (by omega),w (R-R/1460+R/36524) (by omega) (by omega),w (R/146096) (by omega) (by omega),w (R-R/1460+R/36524-R/146096) (by omega) (by omega),t (R-R/1460+R/36524-R/146096) 365 (by omega)];have hY:0≤(R-R/1460+R/36524-R/146096)/365∧(R-R/1460+R/36524-R/146096)/365<400:=by omega
 have hD:0≤R-(365*((R-R/1460+R/36524-R/146096)/365)+(R-R/1460+R/36524-R/146096)/365/4-(R-R/1460+R/36524-R/146096)/365/100)∧R-(365*((R-R/1460+R/36524-R/146096)/365)+(R-R/1460+R/36524-R/146096)/365/4-(R-R/1460+R/36524-R/146096)/365/100)≤500:=by
  exact W5 R _ hR (by omega) (by omega)
 generalize (R-R/1460+R/36524-R/146096)/365=Y at*;rw[w Y (by omega) (by omega),w (365*Y) (by omega) (by omega),t Y 4 (by omega),t Y 100 (by omega),w (Y/4) (by omega) (by omega),w (Y/100) (by omega) (by omega),w (365*Y+Y/4) (by omega) (by omega),w (365*Y+Y/4-Y/100) (by omega) (by omega),w (R-(365*Y+Y/4-Y/100)) (by omega) (by omega)];generalize R-(365*Y+Y/4-Y/100)=D at*;rw[w (5*D) (by omega) (by omega),w (5*D+2) (by omega) (by omega),t (5*D+2) 153 (by omega)];have hM:0≤(5*D+2)/153∧(5*D+2)/153≤20:=by omega
 generalize (5*D+2)/153=M at*;rw[w M (by omega) (by omega),w (M+3) (by omega) (by omega),w (M+3-12) (by omega) (by omega),w e (by omega) (by omega),w (400*e) (by omega) (by omega),w (Y+400*e) (by omega) (by omega),w (Y+400*e+1) (by omega) (by omega)];rw[w (153*M) (by omega) (by omega),w (153*M+2) (by omega) (by omega),t (153*M+2) 5 (by omega),w ((153*M+2)/5) (by omega) (by omega),w (D-(153*M+2)/5) (by omega) (by omega),w (D-(153*M+2)/5+1) (by omega) (by omega)];refine⟨?_,?_,rfl⟩
 ·generalize (if 12<M+3 then M+3-12 else M+3)=m;split<;>rfl
 ·split<;>rfl
theorem ag1 (d n:Int):∃x e:Int,aj T aa9 [.int d,.int n] (.tup [.int x,.int e])∧(e=0→0≤x∧x≤100000):=by
 by_cases h0:fb d=true∧-5000≤n∧n≤5000
 ·have hd:0≤d∧d≤100400:=by have:=h0.1;simp[fb] at this;omega
  obtain⟨A,hA⟩:∃A,A=IntKind.i64.wrap (IntKind.i64.wrap (IntKind.i64.wrap (IntKind.i64.wrap (12*(eM d).1)+(eM d).2.1)-1)+n):=⟨_,rfl⟩
  obtain⟨Y,hY⟩:∃Y,Y=IntKind.i64.wrap (A.tdiv 12):=⟨_,rfl⟩
  obtain⟨M,hM⟩:∃M,M=IntKind.i64.wrap (A.tmod 12+1):=⟨_,rfl⟩
  obtain⟨x,e,hD,hb⟩:=aha Y M (if yq Y M<(eM d).2.2 then yq Y M else(eM d).2.2);refine⟨x,e,.of_tree rfl Wv agH ?_,hb⟩;have n1:¬n< -5000:=by omega
  have n2:¬5000<n:=by omega
  simp[Mz,n1,n2];refine⟨_,Ex d,?_⟩;simp[h0.1];refine⟨_,W6 d hd,?_⟩;simp[←hA,←hY,←hM];refine⟨_,H5 Y M,?_⟩;by_cases hl:yq Y M<(eM d).2.2
  ·simp only[if_pos hl] at hD;simp[hl];refine⟨_,hD,?_⟩;simp
  ·simp only[if_neg hl] at hD;simp[hl];refine⟨_,hD,?_⟩;simp
 ·refine⟨0,3,.of_tree rfl Wv agH ?_,by simp⟩;simp[Mz];refine⟨_,Ex d,?_⟩;simp;intro a b c;exact absurd ⟨a,b,c⟩ h0
end Rm
namespace Rm
open Go Go.Proofs Cx
theorem OR (l:List Int)(x:Int):hasB l x=l.contains x:=by
 rw[Bool.eq_iff_iff];simp[hasB]
def Ei (c:City):Prop:=c.rest.length≤100000∧c.feasts.length≤100000∧c.shut.length≤100000
theorem anq (n:Int)(h:0≤n∧n≤100400):(0≤(eM n).2.1∧(eM n).2.1≤30)∧-1000≤(eM n).2.2∧(eM n).2.2≤1000:=by
 unfold eM;simp only[];have hR:0≤(n+730425)%146097∧(n+730425)%146097<146097:=by omega
 generalize (n+730425)%146097=R at*;have hD:=W5 R ((R-R/1460+R/36524-R/146096)/365) hR (by omega) (by omega);generalize (R-R/1460+R/36524-R/146096)/365=Y at*;generalize R-(365*Y+Y/4-Y/100)=D at*;have hM:0≤(5*D+2)/153∧(5*D+2)/153≤20:=by omega
 generalize (5*D+2)/153=M at*;refine⟨?_,by omega,by omega⟩;split<;>omega
theorem axJ (c:City)(hc:Ei c)(n:Int)(h:0≤n∧n≤100400):aj T abg [gq c,.int n] (.bool (v9 c.rest c.feasts c.shut n)):=by
 refine .of_tree rfl aiP aAn ?_;simp[T6];refine⟨_,W6 n h,?_⟩;have w5:IntKind.i64.wrap (n+5)=n+5:=aW (by omega);have m7:(n+5).tmod 7=(n+5)%7:=Int.tmod_eq_emod_of_nonneg (by omega);obtain⟨h1,h2,h3⟩:=hc;simp[w5,m7];refine⟨_,uE c.rest ((n+5)%7) (by omega),?_⟩;unfold v9;rw[←OR];cases hr:hasB c.rest ((n+5)%7)
 ·obtain⟨je,dX⟩:=anq n h;have wm:IntKind.i64.wrap (100*(eM n).2.1)=100*(eM n).2.1:=aW (by omega);have wd:IntKind.i64.wrap (100*(eM n).2.1+(eM n).2.2)=100*(eM n).2.1+(eM n).2.2:=aW (by omega);simp[hr,wm,wd];refine⟨_,uE c.feasts _ (by omega),?_⟩;have e1:=OR c.feasts (100*(eM n).2.1+(eM n).2.2);have e2:=OR c.shut n;simp at e1 e2;cases hf:hasB c.feasts (100*(eM n).2.1+(eM n).2.2)
  ·simp[hf,←e1,←e2];exact⟨_,uE c.shut n (by omega),rfl⟩
  ·simp[hf,←e1]
 ·simp[hr]
end Rm
namespace Rm
open Go Go.Proofs Cx
def eC (c:City)(a:Int)(k:Nat):List Int:=((List.range k).map fun(i:Nat)=>a+i).filter (v9 c.rest c.feasts c.shut)
theorem Xc (c:City)(a:Int)(k:Nat):eC c a (k+1)=eC c a k++if v9 c.rest c.feasts c.shut (a+k) then[a+k] else[]:=by
 unfold eC;rw[List.range_succ,List.map_append,List.filter_append]
 congr 1
 cases h:v9 c.rest c.feasts c.shut (a+k)<;>simp[h]
theorem anH (c:City)(a:Int){k n:Nat}(h:k≤n):∃r,eC c a n=eC c a k++r:=by
 induction n with
 |zero=>obtain rfl:k=0:=by omega
        exact⟨[],by simp⟩
 |succ n ih=>
  by_cases e:k=n+1
  ·subst e;exact⟨[],by simp⟩
  ·obtain⟨r,hr⟩:=ih (by omega);exact⟨r++_,by rw[Xc,hr,List.append_assoc]⟩
def pJ (d:Int):D:=.tup [.int d]
theorem anI (c:City)(a b:Int):Xe [.ref (.int a),.ref (.int b),.ref (gq c)]=(eC c a (b-a+1).toNat).map pJ:=by
 have hi:∀l:List Int,vJ (ints l)=l:=fun l=>by
  show(l.map D.int).map D.i=l;rw[List.map_map];exact List.map_id l
 show(Xd (vJ (ints c.rest)) (vJ (ints c.feasts)) (vJ (ints c.shut)) a b).map _=_;rw[hi,hi,hi];rfl
theorem anF (c:City)(hc:Ei c)(a b:Int)(ha:0≤a)(hb:b≤100400)(hab:a≤100400):aj T abe [.ref (.int a),.ref (.int b),.ref (gq c)] (.list ((eC c a (b-a+1).toNat).map pJ)):=by
 have tg:=anI c a b;rw[←tg];obtain⟨N,hN⟩:∃N,N=(b-a+1).toNat:=⟨_,rfl⟩
 refine aj.of_it (pc:=C7) (J:=1000) (k:=1) rfl (fun x hx=>?_) (fun m hm=>?_)
 ·rw[tg] at hx;obtain⟨i,_,rfl⟩:=List.mem_map.1 hx;exact⟨_,rfl,rfl⟩
 ·rw[tg] at hm ⊢;rw[←hN] at hm ⊢;refine MI ?_;rw[aAk];simp[T5];refine aO.forLoop (α:=Nat) (fun k vr vo=>k≤N∧vr=[.int (a+k)]∧vo=[.list ((eC c a k).map pJ)]∧(eC c a k).length≤m) (fun k=>N-k) 0 ?_ ?_
  ·simp[aoP,eC]
  ·rintro k vr vo ⟨hk,rfl,rfl,mu⟩;by_cases af:k<N
   ·have hle:a+(k:Int)≤b:=by omega
    have gA:IntKind.i64.wrap (a+(k:Int)+1)=a+((k+1:Nat):Int):=by rw[aW (by omega)];omega
    have bF:=(axJ c hc (a+k) (by omega))
    have xZ:=Xc c a k;obtain⟨r,hr⟩:=anH c a (k:=k+1) (n:=N) af;simp[afH,LK,hle];refine⟨_,bF.yld (by decide),?_⟩;cases hi:v9 c.rest c.feasts c.shut (a+k)
    ·simp[hi] at xZ ⊢;exact⟨k+1,by omega,by omega,gA,by rw[xZ],by rw[xZ];exact mu⟩
    ·simp[hi] at xZ ⊢;have hlen:(eC c a (k+1)).length=(eC c a k).length+1:=by rw[xZ];simp
     have rz:(eC c a k).map pJ++[D.tup [D.int (a+k)]]=(eC c a (k+1)).map pJ:=by rw[xZ,List.map_append];rfl
     have Ct:(eC c a (k+1)).map pJ=((eC c a N).map pJ).take ((eC c a k).length+1):=by
      rw[hr,List.map_append,List.take_append_of_le_length (by simp[hlen]),List.take_of_length_le (by simp[hlen])]
     have ba:(eC c a k).length<((eC c a N).map pJ).length:=by rw[hr];simp[hlen];omega
     rw[rz];refine⟨_,aj.answer Ct ba mu,?_⟩;by_cases vq:(eC c a k).length<m
     ·simp[vq];exact⟨k+1,by omega,by omega,gA,rfl,by omega⟩
     ·obtain rfl:(eC c a k).length=m:=by omega
      simp;rw[Ct]
   ·obtain rfl:k=N:=by omega
    have hle:¬a+(k:Int)≤b:=by omega
    simp[afH,LK,hle];rw[List.take_of_length_le (by simp;omega)]
end Rm
namespace Rm
open Go Go.Proofs Cx
theorem anJ (c:City)(a b:Int):aj T abd [gq c,.int a,.int b] (.clo abe [.ref (.int a),.ref (.int b),.ref (gq c)]):=by
 refine .of_tree rfl aiN aAl ?_;simp[T4]
def ml (d:Int):Int:=if 100000<d+400 then 100000 else d+400
def gU (c:City)(d:Int):Int×Int:=
 if fb d=false then(0,3) else match eC c d (ml d-d+1).toNat with|[]=>(0,3)|x::_=>(x,0)
theorem anG {c:City}{a:Int}{k:Nat}{x:Int}(h:x∈eC c a k):a≤x∧x<a+k:=by
 unfold eC at h;obtain⟨h1,_⟩:=List.mem_filter.mp h;obtain⟨i,hi,rfl⟩:=List.mem_map.mp h1;have:=List.mem_range.mp hi;omega
theorem acQ {c:City}{d:Int}(h:(gU c d).2=0):fb d=true∧d≤(gU c d).1∧(gU c d).1≤100000:=by
 unfold gU at h ⊢;cases hd:fb d
 ·simp[hd] at h
 ·simp only[hd] at h ⊢;cases hk:eC c d (ml d-d+1).toNat with
  |nil=>rw[hk] at h;simp at h
  |cons x l=>
   have hm:x∈eC c d (ml d-d+1).toNat:=by rw[hk];simp
   have:=anG hm;have he:ml d≤100000:=by unfold ml;split<;>omega
   simp[fb] at hd;simp;unfold ml at*;omega
theorem ahl (c:City)(hc:Ei c)(d:Int):aj T abb [gq c,.int d] (.tup [.int (gU c d).1,.int (gU c d).2]):=by
 refine .of_tree rfl aiL aAi ?_;simp[T2];refine⟨_,Ex d,?_⟩;cases hd:fb d
 ·simp[gU,hd]
 have dH:0≤d∧d≤100000:=by simpa [fb] using hd
 have hw:IntKind.i64.wrap (d+400)=d+400:=aW (by omega);have he:ml d≤100000:=by unfold ml;split<;>omega
 simp[hd,hw];have hE:(if 100000<d+400 then D.int 100000 else D.int (d+400))=D.int (ml d):=by unfold ml;split<;>rfl
 rw[hE];refine⟨_,anJ c d (ml d),_,_,rfl,_,anF c hc d (ml d) dH.1 (by omega) (by omega),?_⟩;cases hk:eC c d (ml d-d+1).toNat with
 |nil=>
  have hn:gU c d=(0,3):=by unfold gU;simp[hd,hk]
  rw[hn];refine aO.eachR [] (by simp) (fun _ vo=>vo=[.agg [.int 0],.agg [.int 0]]) ?_ (fun k x vo hx hi=>by simp at hx) (fun vo hi=>?_)
  ·simp
  ·subst hi;simp
 |cons x l=>
  have hn:gU c d=(x,0):=by unfold gU;simp[hd,hk]
  rw[hn];refine aO.eachR ((x::l).map pJ) (by simp) (fun k vo=>k=0∧vo=[.agg [.int 0],.agg [.int 0]]) ?_ (fun k y vo hx hi=>?_) (fun vo hi=>?_)
  ·simp
  ·obtain⟨rfl,rfl⟩:=hi;simp at hx;subst hx;simp[ayE,Sn,pJ];rfl
  ·exact absurd hi.1 (by simp)
end Rm
namespace Rm
open Go Go.Proofs Cx
def Mm (o:Int)(d:Int)(h:Halt):Int:=if(h.order=o∧h.fr≤d)∧d≤h.to then h.to+1 else d
def lN (r:Realm)(o d:Int)(k:Nat):Int:=(r.halts.take k).foldl (Mm o) d
theorem agw (r:Realm)(o d:Int){k:Nat}(hk:k<r.halts.length):lN r o d (k+1)=Mm o (lN r o d k) r.halts[k]:=by
 unfold lN;rw[List.take_succ_eq_append_getElem hk,List.foldl_append];rfl
def sc (r:Realm):Prop:=r.halts.length≤100000∧∀h,h∈r.halts→0≤h.fr∧h.to≤100000
theorem Tt {r:Realm}(hh:sc r)(o d:Int)(hd:d≤100001):∀k,k≤r.halts.length→d≤lN r o d k∧lN r o d k≤100001
 |0,_=>⟨by simp[lN],by simpa [lN] using hd⟩
 |k+1,hk=>by
  obtain⟨h1,h2⟩:=Tt hh o d hd k (by omega);rw[agw r o d (by omega)];have:=hh.2 _ (List.getElem_mem (show k<r.halts.length by omega));unfold Mm;split<;>omega
def wW (r:Realm)(o:Int):Nat→Int→Int
 |0,d=>d
 |n+1,d=>if lN r o d r.halts.length=d then d else wW r o n (lN r o d r.halts.length)
def iO (r:Realm)(o d:Int):Int:=wW r o (100002-d).toNat d
theorem Tu {r:Realm}(hh:sc r)(o:Int):∀(n:Nat) (d:Int),d≤100001→d≤wW r o n d∧wW r o n d≤100001
 |0,d,hd=>⟨Int.le_refl _,hd⟩
 |n+1,d,hd=>by
  obtain⟨h1,h2⟩:=Tt hh o d hd r.halts.length (Nat.le_refl _);unfold wW;split
  ·omega
  ·have:=Tu hh o n _ h2;omega
theorem azs (r:Realm)(hh:sc r)(o d:Int)(h0:0≤d)(hd:d≤100001):aj T acv [aZ r,.int o,.int d] (.int (iO r o d)):=by
 refine .of_tree rfl aka aBH ?_;simp[Vp];refine aO.forLoop (α:=Int×Bool×Nat) (fun s vr vo=>vr=[.int s.1,.bool s.2.1]∧vo=[]∧d≤s.1∧s.1≤100001∧(s.2.1=true→(100002-s.1).toNat≤s.2.2)∧(s.2.1=true→wW r o s.2.2 s.1=iO r o d)∧(s.2.1=false→s.1=iO r o d)) (fun s=>2*(100001-s.1).toNat+(if s.2.1 then 1 else 0)) (d,true,(100002-d).toNat) ?_ ?_
 ·simp;exact⟨by omega,rfl⟩
 ·rintro⟨e,ch,n⟩ vr vo ⟨rfl,rfl,h1,h2,h3,h4,h5⟩;simp only at*;cases ch
  ·simp[afV,L3];exact h5 rfl
  ·have h3:=h3 rfl;have h4:=h4 rfl;obtain⟨n,rfl⟩:∃m,n=m+1:=⟨n-1,by omega⟩
   have bC:=Tt hh o e h2;simp[afV,L3];refine aO.forRounds r.halts.length (fun k=>[.int (lN r o e k),.bool (decide (e<lN r o e k)),.int k]) (fun _=>[]) ?_ (fun k hk=>?_) ?_
   ·simp[lN]
   ·have hw:=bI hk (by have:=hh.1;omega);have ct:=bC k (by omega);have vC:=hh.2 _ (List.getElem_mem hk);rw[agw r o e hk];unfold Mm;generalize lN r o e k=x at*;by_cases hc:(r.halts[k].order=o∧r.halts[k].fr≤x)∧x≤r.halts[k].to
    ·have fl:IntKind.i64.wrap (r.halts[k].to+1)=r.halts[k].to+1:=aW (by omega);simp[L2,zi,hk,hw,hc,fl];omega
    ·simp[L2,zi,hk,hw,hc]
   ·have hE:=bC r.halts.length (Nat.le_refl _);unfold wW at h4;generalize lN r o e r.halts.length=x at*;by_cases hx:x=e
    ·rw[if_pos hx] at h4;subst hx;simp[L2,zi];exact⟨x,by omega,rfl,h1,h2,h4⟩
    ·rw[if_neg hx] at h4;have af:e<x:=by omega
     simp[L2,zi,af];exact⟨x,by omega,rfl,by omega,by omega,n,by omega,h4⟩
def qE (r:Realm)(c:City)(o:Int):Nat→Int→Int×Int
 |0,d=>(d,0)
 |n+1,d=>
  if(gU c (iO r o d)).2≠0 then(0,3)
  else if(gU c (iO r o d)).1=iO r o d then(iO r o d,0)
  else qE r c o n (gU c (iO r o d)).1
theorem ags (r:Realm)(c:City)(o:Int)(n:Nat)(d:Int):qE r c o (n+1) d=
 if(gU c (iO r o d)).2≠0 then(0,3)
 else if(gU c (iO r o d)).1=iO r o d then(iO r o d,0)
 else qE r c o n (gU c (iO r o d)).1:=rfl
def mV (r:Realm)(city d:Int):Int×Int:=qE r (r.cities.getD city.toNat default) (fC r city) (100002-d).toNat d
theorem To (r:Realm)(hh:sc r)(city d:Int)(hc:0≤city∧city<r.cities.length)(hs:∀c,c∈r.cities→Ei c)(h0:0≤d)(hd:d≤100001):aj T Ik [aZ r,.int city,.int d] (.tup [.int (mV r city d).1,.int (mV r city d).2]):=by
 refine .of_tree rfl aj9 aBG ?_;simp[Vo];refine⟨_,ph r city,?_⟩;have ba:city.toNat<r.cities.length:=by omega
 have hcg:r.cities.getD city.toNat default=r.cities[city.toNat]:=by simp[ba]
 have hsc:=hs _ (List.getElem_mem ba);have hF:mV r city d=qE r r.cities[city.toNat] (fC r city) (100002-d).toNat d:=by unfold mV;rw[hcg]
 rw[hF];refine aO.forLoop (α:=Int×Nat) (fun s vr vo=>(∃a b,vr=[.int s.1,a,b])∧vo=[]∧0≤s.1∧s.1≤100001∧(100002-s.1).toNat≤s.2∧qE r r.cities[city.toNat] (fC r city) s.2 s.1=qE r r.cities[city.toNat] (fC r city) (100002-d).toNat d) (fun s=>s.2) (d,(100002-d).toNat) ?_ ?_
 ·simp;omega
 ·rintro⟨e,n⟩ vr vo ⟨⟨a,b,rfl⟩,rfl,h1,h2,h3,h4⟩;simp only at*;obtain⟨n,rfl⟩:∃m,n=m+1:=⟨n-1,by omega⟩
  rw[←h4];have xY:=Tu hh (fC r city) (100002-e).toNat e h2;have hsr:=azs r hh (fC r city) e h1 h2;rw[ags];change e≤iO r (fC r city) e∧iO r (fC r city) e≤100001 at xY;generalize iO r (fC r city) e=x at*;have Pu:=ahl r.cities[city.toNat] hsc x;have ns:=acQ (c:=r.cities[city.toNat]) (d:=x);generalize gU r.cities[city.toNat] x=N at*;obtain⟨y,er⟩:=N;simp only at Pu ns;simp[ayJ,SW];refine⟨_,hsr,?_⟩;simp[ba,hc];refine⟨_,Pu,?_⟩;by_cases he:er=0
  ·obtain⟨g1,g2,g3⟩:=ns he;by_cases hy:y=x
   ·simp[he,hy]
   ·simp[he,hy];exact⟨y,n,by omega,rfl,by omega,by omega,by omega,rfl⟩
  ·simp[he]
end Rm
