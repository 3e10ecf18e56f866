/-
  Shared texts of this claim.
-/
import Derived.Test.YtkhkejmimnklfaaGreatDoorKAO
set_option linter.unusedSimpArgs false
set_option linter.unusedVariables false
namespace Rm
open Go Go.Proofs Cx
theorem V2 {v1 v0 u32 d:Nat}(hv:0<v1)(hd:d<4294967296)(hu:u32<v1*4294967296+v0):(u32*4294967296+d)/(v1*4294967296+v0)≤u32/v1:=by
 have h1:(u32*4294967296+d)/(v1*4294967296+v0)≤(u32*4294967296+d)/(v1*4294967296):=Nat.div_le_div_left (by omega) (by omega);have h2:(u32*4294967296+d)/(v1*4294967296)=u32/v1:=by
  rw[Nat.mul_comm v1,←Nat.div_div_eq_div_mul]
  congr 1;omega
 omega
theorem V5 {v1 v0 u32:Nat}(ib:v0<4294967296)(aN:2147483648≤v1)(hu:u32<v1*4294967296+v0):u32/v1≤4294967297:=by
 have h1:u32/v1*v1≤u32:=Nat.div_mul_le_self u32 v1;have h2:u32/v1*v1<4294967298*v1:=by omega
 have:=Nat.lt_of_mul_lt_mul_right h2;omega
theorem M6 (q v1 v0:Nat):q*(v1*4294967296+v0)=q*v1*4294967296+q*v0:=by rw[Nat.mul_add,Nat.mul_assoc]
theorem V4 {v1 v0 u32 d q r:Nat}(hu:u32<v1*4294967296+v0)(hd:d<4294967296)(h1:q*v1+r=u32)(c:4294967296≤q∨4294967296*r+d<q*v0):(u32*4294967296+d)/(v1*4294967296+v0)<q:=by
 rw[Nat.div_lt_iff_lt_mul (by omega)];rcases c with c|c
 ·have h2:4294967296*(v1*4294967296+v0)≤q*(v1*4294967296+v0):=Nat.mul_le_mul_right _ c;omega
 ·rw[M6];omega
theorem V3 {v1 v0 u32 d q r:Nat}(hv:0<v1)(h1:q*v1+r=u32)(c:q*v0≤4294967296*r+d):q≤(u32*4294967296+d)/(v1*4294967296+v0):=by
 rw[Nat.le_div_iff_mul_le (by omega),M6];omega
theorem V1 {v1 v0 u32 d q r:Nat}(ib:v0<4294967296)(h1:q*v1+r=u32)(hu:u32<v1*4294967296+v0)(c:4294967296≤r):q≤(u32*4294967296+d)/(v1*4294967296+v0):=by
 have hv:0<v1*4294967296+v0:=by omega
 have hq:q<4294967296:=by
  rcases Nat.lt_or_ge q 4294967296 with h|h
  ·exact h
  ·have:4294967296*v1≤q*v1:=Nat.mul_le_mul_right _ h;omega
 have h2:q*v0≤4294967295*4294967295:=Nat.mul_le_mul (by omega) (by omega);rw[Nat.le_div_iff_mul_le hv,M6];omega
theorem atd (ρ:Env)(q0 r0 v1 v0 u32 d:Nat)(ib:v0<4294967296)(aN:2147483648≤v1)(asD:v1<4294967296)(hd:d<4294967296)(hu:u32<v1*4294967296+v0)
 (hq:q0=u32/v1) (hr:r0=u32%v1) (h9:ρ.r 9=u v1) (gh:ρ.r 10=u v0) (uj:ρ.r 13=u d) (uF:ρ.r 15=u q0) (OG:ρ.r 16=u r0) (K:Env→Prop) (Q:Out→Prop)
 (hK:∀ρ':Env,ρ'.r 15=u ((u32*4294967296+d)/(v1*4294967296+v0))→(∀t,t∉[15,16,67,68,69,78]→ρ'.r t=ρ.r t)→K ρ'):aL T (B4 tJ) ρ (eY K Q):=by
 have dm:=fun q r=>V4 (v1:=v1) (v0:=v0) (u32:=u32) (d:=d) (q:=q) (r:=r) hu hd;have dl:=fun q r=>V3 (v1:=v1) (v0:=v0) (u32:=u32) (d:=d) (q:=q) (r:=r) (by omega);have dd:=fun q r=>V1 (v1:=v1) (v0:=v0) (u32:=u32) (d:=d) (q:=q) (r:=r) ib;have di:=V2 (v1:=v1) (v0:=v0) (u32:=u32) (d:=d) (by omega) hd hu;have hQ0:0≤(u32*4294967296+d)/(v1*4294967296+v0):=Nat.zero_le _;generalize (u32*4294967296+d)/(v1*4294967296+v0)=QQ at*;refine aL.forLoop (α:=Nat×Nat) (fun s vr vo=>s.1*v1+s.2=u32∧QQ≤s.1∧s.2<4294967296∧s.1≤4294967297∧vr=[u s.1,u s.2]∧vo=[]) (fun s=>s.1) (q0,r0) ⟨?_,?_,?_,?_,?_,rfl⟩ ?_
 ·subst hq hr;exact Nat.div_add_mod' u32 v1
 ·subst hq;exact di
 ·subst hr;have:=Nat.mod_lt u32 (show v1>0 by omega);omega
 ·subst hq;exact V5 ib aN hu
 ·simp[uF,OG]
 ·rintro⟨q,r⟩ vr vo ⟨h1,h2,h3,h4,rfl,rfl⟩;dsimp only at h1 h2 h3 h4;have hm:q*v0≤4294967297*4294967295:=Nat.mul_le_mul h4 (by omega);have w1:IntKind.u64.wrap ((q:Int)*(v0:Int))=(q*v0:Nat):=by rw[←Int.natCast_mul];exact dI (by omega)
  have w2:IntKind.u64.wrap (4294967296*(r:Int))=(4294967296*r:Nat):=by rw[gQ (by omega)];omega
  have w3:IntKind.u64.wrap (((4294967296*r:Nat):Int)+(d:Int))=(4294967296*r+d:Nat):=by rw[gQ (by omega)];omega
  have dm:=dm q r h1;have dl:=dl q r h1;generalize q*v0=M at*;by_cases c:4294967296≤q∨4294967296*r+d<M
  ·have ah:=dm c;have w4:IntKind.u64.wrap ((q:Int)-1)=(q-1:Nat):=by rw[gQ (by omega)];omega
   have w5:IntKind.u64.wrap ((r:Int)+(v1:Int))=(r+v1:Nat):=by rw[gQ (by omega)];omega
   have e1:(q-1)*v1+(r+v1)=u32:=by rw[Nat.sub_mul,Nat.one_mul];have:v1≤q*v1:=Nat.le_mul_of_pos_left v1 (by omega);omega
   have p5:(4294967296:Int)≤(q:Int)∨4294967296*r+d<M:=by omega
   by_cases c2:4294967296≤r+v1
   ·have tL:(4294967296:Int)≤((r+v1:Nat):Int):=by omega
    have:=dd _ _ e1 hu c2;have e2:q-1=QQ:=by omega
    simp[Ro,CG,h9,gh,uj,w1,w2,w3,w4,w5,p5,tL,-Int.natCast_add,-Int.natCast_mul];refine hK _ ?_ ?_
    ·simp[w4,e2]
    ·intro t ht;simp at ht;simp[ht]
   ·have tL:¬(4294967296:Int)≤((r+v1:Nat):Int):=by omega
    simp[Ro,CG,h9,gh,uj,w1,w2,w3,w4,w5,p5,tL,-Int.natCast_add,-Int.natCast_mul];exact⟨q-1,by omega,r+v1,e1,by omega,by omega,by omega,rfl,rfl⟩
  ·have:=dl (by omega);have e2:q=QQ:=by omega
   have p5:¬((4294967296:Int)≤(q:Int)):=by omega
   have MQ:¬(4294967296*r+d<M):=by omega
   simp[Ro,CG,h9,gh,uj,w1,w2,w3,p5,MQ,-Int.natCast_add,-Int.natCast_mul];refine hK _ ?_ ?_
   ·simp[e2]
   ·intro t ht;simp at ht;simp[ht]
theorem ate (ρ:Env)(q0 r0 v1 v0 u32 d:Nat)(ib:v0<4294967296)(aN:2147483648≤v1)(asD:v1<4294967296)(hd:d<4294967296)(hu:u32<v1*4294967296+v0)
 (hq:q0=u32/v1) (hr:r0=u32%v1) (h9:ρ.r 9=u v1) (gh:ρ.r 10=u v0) (uj:ρ.r 14=u d) (uF:ρ.r 18=u q0) (OG:ρ.r 16=u r0) (K:Env→Prop) (Q:Out→Prop)
 (hK:∀ρ':Env,ρ'.r 18=u ((u32*4294967296+d)/(v1*4294967296+v0))→(∀t,t∉[16,18,102,103,104,113]→ρ'.r t=ρ.r t)→K ρ'):aL T (B5 tJ) ρ (eY K Q):=by
 have dm:=fun q r=>V4 (v1:=v1) (v0:=v0) (u32:=u32) (d:=d) (q:=q) (r:=r) hu hd;have dl:=fun q r=>V3 (v1:=v1) (v0:=v0) (u32:=u32) (d:=d) (q:=q) (r:=r) (by omega);have dd:=fun q r=>V1 (v1:=v1) (v0:=v0) (u32:=u32) (d:=d) (q:=q) (r:=r) ib;have di:=V2 (v1:=v1) (v0:=v0) (u32:=u32) (d:=d) (by omega) hd hu;have hQ0:0≤(u32*4294967296+d)/(v1*4294967296+v0):=Nat.zero_le _;generalize (u32*4294967296+d)/(v1*4294967296+v0)=QQ at*;refine aL.forLoop (α:=Nat×Nat) (fun s vr vo=>s.1*v1+s.2=u32∧QQ≤s.1∧s.2<4294967296∧s.1≤4294967297∧vr=[u s.2,u s.1]∧vo=[]) (fun s=>s.1) (q0,r0) ⟨?_,?_,?_,?_,?_,rfl⟩ ?_
 ·subst hq hr;exact Nat.div_add_mod' u32 v1
 ·subst hq;exact di
 ·subst hr;have:=Nat.mod_lt u32 (show v1>0 by omega);omega
 ·subst hq;exact V5 ib aN hu
 ·simp[uF,OG]
 ·rintro⟨q,r⟩ vr vo ⟨h1,h2,h3,h4,rfl,rfl⟩;dsimp only at h1 h2 h3 h4;have hm:q*v0≤4294967297*4294967295:=Nat.mul_le_mul h4 (by omega);have w1:IntKind.u64.wrap ((q:Int)*(v0:Int))=(q*v0:Nat):=by rw[←Int.natCast_mul];exact dI (by omega)
  have w2:IntKind.u64.wrap (4294967296*(r:Int))=(4294967296*r:Nat):=by rw[gQ (by omega)];omega
  have w3:IntKind.u64.wrap (((4294967296*r:Nat):Int)+(d:Int))=(4294967296*r+d:Nat):=by rw[gQ (by omega)];omega
  have dm:=dm q r h1;have dl:=dl q r h1;generalize q*v0=M at*;by_cases c:4294967296≤q∨4294967296*r+d<M
  ·have ah:=dm c;have w4:IntKind.u64.wrap ((q:Int)-1)=(q-1:Nat):=by rw[gQ (by omega)];omega
   have w5:IntKind.u64.wrap ((r:Int)+(v1:Int))=(r+v1:Nat):=by rw[gQ (by omega)];omega
   have e1:(q-1)*v1+(r+v1)=u32:=by rw[Nat.sub_mul,Nat.one_mul];have:v1≤q*v1:=Nat.le_mul_of_pos_left v1 (by omega);omega
   have p5:(4294967296:Int)≤(q:Int)∨4294967296*r+d<M:=by omega
   by_cases c2:4294967296≤r+v1
   ·have tL:(4294967296:Int)≤((r+v1:Nat):Int):=by omega
    have:=dd _ _ e1 hu c2;have e2:q-1=QQ:=by omega
    simp[Rp,CH,h9,gh,uj,w1,w2,w3,w4,w5,p5,tL,-Int.natCast_add,-Int.natCast_mul];refine hK _ ?_ ?_
    ·simp[w4,e2]
    ·intro t ht;simp at ht;simp[ht]
   ·have tL:¬(4294967296:Int)≤((r+v1:Nat):Int):=by omega
    simp[Rp,CH,h9,gh,uj,w1,w2,w3,w4,w5,p5,tL,-Int.natCast_add,-Int.natCast_mul];exact⟨q-1,by omega,r+v1,e1,by omega,by omega,by omega,rfl,rfl⟩
  ·have:=dl (by omega);have e2:q=QQ:=by omega
   have p5:¬((4294967296:Int)≤(q:Int)):=by omega
   have MQ:¬(4294967296*r+d<M):=by omega
   simp[Rp,CH,h9,gh,uj,w1,w2,w3,p5,MQ,-Int.natCast_add,-Int.natCast_mul];refine hK _ ?_ ?_
   ·simp[e2]
   ·intro t ht;simp at ht;simp[ht]
end Rm
namespace Rm
open Go Go.Proofs Cx
def bz:Nat→List Cell→Tm→Cell
 |0,_,_=>dS
 |L+1,cs,t=>if t.op=0∨t.op=1 then⟨true,t.n⟩ else if t.op=2 then j3 cs t.n else
   if t.op=6∧(ba (t.args.map (bz L cs)) 0).known=true then ba (t.args.map (bz L cs)) (2-(ba (t.args.map (bz L cs)) 0).n).toNat else fN t.op (t.args.map (bz L cs))
def dG:Nat→List Cell→Tm→List Int
 |0,_,_=>[]
 |L+1,cs,t=>if t.op=0∨t.op=1 then[] else if t.op=2 then(if(j3 cs t.n).known=true then[] else[t.n]) else
   if t.op=6∧(ba (t.args.map (bz L cs)) 0).known=true then(t.args.map (dG L cs)).getD (2-(ba (t.args.map (bz L cs)) 0).n).toNat [] else
   if(fN t.op (t.args.map (bz L cs))).known=true then[] else(t.args.map (dG L cs)).flatten
theorem FO (L:Nat)(cs:List Cell)(t:Tm):bz (L+1) cs t=if t.op=0∨t.op=1 then⟨true,t.n⟩ else if t.op=2 then j3 cs t.n else
 if t.op=6∧(ba (t.args.map (bz L cs)) 0).known=true then ba (t.args.map (bz L cs)) (2-(ba (t.args.map (bz L cs)) 0).n).toNat else fN t.op (t.args.map (bz L cs)):=rfl
theorem Hp (L:Nat)(cs:List Cell)(t:Tm):dG (L+1) cs t=if t.op=0∨t.op=1 then[] else if t.op=2 then(if(j3 cs t.n).known=true then[] else[t.n]) else
 if t.op=6∧(ba (t.args.map (bz L cs)) 0).known=true then(t.args.map (dG L cs)).getD (2-(ba (t.args.map (bz L cs)) 0).n).toNat [] else
 if(fN t.op (t.args.map (bz L cs))).known=true then[] else(t.args.map (dG L cs)).flatten:=rfl
theorem MY {L:Nat}{t:Tm}{k:Int}(h:bY (L+1) t=(k,0)):(∀a,a∈t.args→(bY L a).2=0)∧vf t (t.args.map fun a=>(bY L a).1)=(k,0):=by
 rw[MX] at h;by_cases e:eL t.args.length (fun k=>(bY L (t.args.getD k default)).2)=0
 ·rw[if_neg (by simpa using e)] at h;refine⟨fun a ha=>?_,h⟩;obtain⟨j,hj,rfl⟩:=List.getElem_of_mem ha;have:=Np.1 e j hj;simpa [hj] using this
 ·rw[if_pos e] at h;injection h with _ h
  exact absurd h e
inductive Node (ks:List Int) (t:Tm):Int→Prop where
 |int (h:t.op=0) (ha:t.args=[]) (hn:-1099511627776≤t.n∧t.n≤1099511627776):Node ks t 0
 |bool (h:t.op=1) (ha:t.args=[]) (hn:t.n=0∨t.n=1):Node ks t 1
 |var (h:t.op=2) (ha:t.args=[]) (hn:0≤t.n∧t.n≤19):Node ks t (kM t.n).1
 |not (h:t.op=3) (hk:ks=[1]):Node ks t 1
 |log (h:t.op=4∨t.op=5) (hk:ks=[1,1]):Node ks t 1
 |ite (k:Int) (h:t.op=6) (hk:ks=[1,k,k]):Node ks t k
 |less (h:t.op=7) (hk:ks=[0,0]):Node ks t 1
 |equal (k:Int) (h:t.op=8) (hk:ks=[k,k]):Node ks t 1
 |num (h:9≤t.op∧t.op≤13) (hk:ks=[0,0]):Node ks t 0
theorem azY (v:Int):(kM v).1=0∨(kM v).1=1:=by
 unfold kM;repeat' split
 all_goals simp
theorem auN {t:Tm}{ks:List Int}{k:Int}(hl:ks.length=t.args.length)(gz:∀x,x∈ks→x=0∨x=1)(h:vf t ks=(k,0)):Node ks t k:=by
 unfold vf at h;split at h
 ·injection h with _ h;cases h
 rename_i bB;split at h
 ·rename_i h3;unfold B1 at h;split at h
  ·injection h with _ h;cases h
  rename_i ha0;have ha:t.args=[]:=List.eq_nil_of_length_eq_zero (by omega);split at h
  ·rename_i h0;split at h
   ·injection h with _ h;cases h
   ·rename_i hc;injection h with h _
    subst h;refine .int h0 ha ?_;unfold np at hc;omega
  split at h
  ·rename_i h0;split at h
   ·injection h with _ h;cases h
   ·rename_i hc;injection h with h _
    subst h;exact .bool h0 ha (by omega)
  split at h
  ·injection h with _ h;cases h
  ·rename_i g0 g1 hc;injection h with h _
   subst h;refine .var (by omega) ha ?_;unfold kM at hc;split at hc
   ·simp at hc
   ·omega
 rename_i h3;split at h
 ·injection h with _ h;cases h
 rename_i hlen;have mA:ks.length=(eg t.op).1.length:=by
  refine Classical.byContradiction fun hh=>hlen (.inl hh)
 split at h
 ·injection h with _ h;cases h
 rename_i au;have hH:∀j,j<(eg t.op).1.length→mG (eg t.op).1 ks j=true:=vX.1 (by simpa using au)
 have two:∀{n:Nat},ks.length=2→∃a b,ks=[a,b]:=fun h=>by
  match ks,h with
  |[a,b],_=>exact⟨a,b,rfl⟩
 by_cases o3:t.op=3
 ·have e:eg t.op=([1],1):=by simp[eg,o3]
  rw[e] at mA hH h
  match ks,mA with
  |[a],_=>
   have:=hH 0 (by simp);simp[mG] at this;simp at h;subst h this;exact .not o3 rfl
 by_cases Ht:t.op=4∨t.op=5
 ·have e:eg t.op=([1,1],1):=by simp[eg,o3,Ht]
  rw[e] at mA hH h
  match ks,mA with
  |[a,b],_=>
   have t1:=hH 0 (by simp);have t2:=hH 1 (by simp);simp[mG] at t1 t2;simp at h;subst h t1 t2;exact .log Ht rfl
 by_cases o6:t.op=6
 ·have e:eg t.op=([1,-1,-1],-1):=by simp[eg,o6]
  rw[e] at mA hH h
  match ks,mA,gz with
  |[a,b,c],_,gz=>
   have t1:=hH 0 (by simp);have t3:=hH 2 (by simp);have hb:=gz b (by simp);have oO:¬b=-1:=by omega
   simp[mG] at t1;simp[mG,lO,oO] at t3;simp[lO,oO] at h;subst h t1 t3;exact .ite _ o6 rfl
 by_cases o7:t.op=7
 ·have e:eg t.op=([0,0],1):=by simp[eg,o7]
  rw[e] at mA hH h
  match ks,mA with
  |[a,b],_=>
   have t1:=hH 0 (by simp);have t2:=hH 1 (by simp);simp[mG] at t1 t2;simp at h;subst h t1 t2;exact .less o7 rfl
 by_cases o8:t.op=8
 ·have e:eg t.op=([-1,-1],1):=by simp[eg,o8]
  rw[e] at mA hH h
  match ks,mA,gz with
  |[a,b],_,gz=>
   have t2:=hH 1 (by simp);have ha:=gz a (by simp);have han:¬a=-1:=by omega
   simp[mG,lO,han] at t2;simp at h;subst h t2;exact .equal _ o8 rfl
 have e:eg t.op=([0,0],0):=by simp[eg,o3,Ht,o6,o7,o8]
 rw[e] at mA hH h
 match ks,mA with
 |[a,b],_=>
  have t1:=hH 0 (by simp);have t2:=hH 1 (by simp);simp[mG] at t1 t2;simp at h;subst h t1 t2;exact .num (by omega) rfl
theorem MZ:∀{L:Nat} {t:Tm} {k:Int},bY (L+1) t=(k,0)→Node (t.args.map fun a=>(bY L a).1) t k∧(k=0∨k=1)
 |L,t,k,h=>by
  obtain⟨h1,h2⟩:=MY h
  have gz:∀x,x∈(t.args.map fun a=>(bY L a).1)→x=0∨x=1:=by
   intro x hx;obtain⟨a,ha,rfl⟩:=List.mem_map.1 hx;cases L with
   |zero=>exact .inl rfl
   |succ L=>exact(MZ (L:=L) (t:=a) (k:=(bY (L+1) a).1) (by rw[←h1 a ha])).2
  have hn:=auN (by simp) gz h2;refine⟨hn,?_⟩;cases hn with
  |int=>simp
  |bool=>simp
  |var=>exact azY _
  |not=>simp
  |log=>simp
  |ite k _ hk=>exact gz k (by rw[hk];simp)
  |less=>simp
  |equal=>simp
  |num=>simp
end Rm
namespace Rm
open Go Go.Proofs Cx
def tE (k:Int)(c:Cell):Prop:=(c.known=false→c=dS)∧(c.known=true→(k=1→c.n=0∨c.n=1)∧(k=0→-1099511627776≤c.n∧c.n≤1099511627776))
theorem sQ (k:Int):tE k dS:=⟨fun _=>rfl,fun h=>by cases h⟩
theorem yE (b:Bool):tE 1 (fK b):=⟨fun h=>(by cases b<;>cases h),fun _=>⟨fun _=>(by cases b<;>simp[fK]),fun h=>by cases h⟩⟩
theorem M4 (n:Int):-1099511627776≤np n∧np n≤1099511627776:=by unfold np;omega
theorem awN (cs:List Cell)(v:Int)(hv:0≤v∧v≤19):tE (kM v).1 (j3 cs v):=by
 unfold j3;split
 ·exact sQ _
 ·split
  ·rename_i h;rw[h];exact yE _
  ·rename_i h;refine⟨fun h=>(by cases h),fun _=>⟨fun h'=>absurd h' h,fun _=>M4 _⟩⟩
theorem av4 (a b:Int):-1099511627776≤yb a b∧yb a b≤1099511627776:=by
 unfold yb;have:=adq (a.natAbs*b.natAbs);split<;>omega
theorem agl (op a b:Int)(ha:-1099511627776≤a∧a≤1099511627776)(hb:-1099511627776≤b∧b≤1099511627776):-1099511627776≤vZ op a b∧vZ op a b≤1099511627776:=by
 unfold vZ;split
 ·exact M4 _
 split
 ·exact M4 _
 split
 ·exact av4 _ _
 split<;>omega
theorem auo {α β:Type}{f:α→β}{l:List α}{x:β}(h:l.map f=[x]):∃a,l=[a]∧f a=x:=by
 match l,h with
 |[a],h=>exact⟨a,rfl,by simpa using h⟩
theorem xy {α β:Type}{f:α→β}{l:List α}{x y:β}(h:l.map f=[x,y]):∃a b,l=[a,b]∧f a=x∧f b=y:=by
 match l,h with
 |[a,b],h=>exact⟨a,b,rfl,by simpa using h⟩
theorem Pv {α β:Type}{f:α→β}{l:List α}{x y z:β}(h:l.map f=[x,y,z]):∃a b c,l=[a,b,c]∧f a=x∧f b=y∧f c=z:=by
 match l,h with
 |[a,b,c],h=>exact⟨a,b,c,rfl,by simpa using h⟩
theorem Wm:∀{L:Nat} {t:Tm} {k:Int} (cs:List Cell),bY L t=(k,0)→tE k (bz L cs t)
 |0,t,k,cs,h=>sQ _
 |L+1,t,k,cs,h=>by
  obtain⟨hn,hk⟩:=MZ h;obtain⟨ha,_⟩:=MY h;have ih:∀a,a∈t.args→tE (bY L a).1 (bz L cs a):=fun a hm=>Wm cs (show bY L a=((bY L a).1,0) by rw[←ha a hm]);rw[FO];cases hn with
  |int h0 ha hn=>rw[if_pos (.inl h0)];exact⟨fun h=>(by cases h),fun _=>⟨fun h=>(by cases h),fun _=>hn⟩⟩
  |bool h0 ha hn=>rw[if_pos (.inr h0)];exact⟨fun h=>(by cases h),fun _=>⟨fun _=>hn,fun h=>by cases h⟩⟩
  |var h0 ha hn=>rw[if_neg (by omega),if_pos h0];exact awN cs _ hn
  |not h0 hk=>
   rw[if_neg (by omega),if_neg (by omega),if_neg (by omega)];unfold fN;rw[if_pos h0];split
   ·exact yE _
   ·exact sQ _
  |log h0 hk=>
   rw[if_neg (by omega),if_neg (by omega),if_neg (by omega)];unfold fN;rw[if_neg (by omega)];split
   ·exact yE _
   rw[if_neg (by omega)];split
   ·exact sQ _
   exact yE _
  |ite k h0 cl=>
   obtain⟨a,b,c,hl,e1,e2,e3⟩:=Pv cl;rw[hl] at ih ⊢;have r1:=ih a (by simp);have r2:=ih b (by simp);have r3:=ih c (by simp);rw[e1] at r1;rw[e2] at r2;rw[e3] at r3;rw[if_neg (by omega),if_neg (by omega)];simp only[List.map_cons,List.map_nil,ba,List.getD_cons_zero];split
   ·rename_i hh;rcases(r1.2 hh.2).1 rfl with h1|h1<;>rw[h1]
    ·exact r3
    ·exact r2
   ·unfold fN;rw[if_neg (by omega),if_neg (by omega),if_pos h0];simp only[ba,List.getD_cons_zero,List.getD_cons_succ];split
    ·exact r2
    ·exact sQ _
  |less h0 hk=>
   rw[if_neg (by omega),if_neg (by omega),if_neg (by omega)];unfold fN;rw[if_neg (by omega),if_neg (by omega),if_neg (by omega)];split
   ·exact sQ _
   repeat' split
   all_goals exact yE _
  |equal k h0 hk=>
   rw[if_neg (by omega),if_neg (by omega),if_neg (by omega)];unfold fN;rw[if_neg (by omega),if_neg (by omega),if_neg (by omega)];split
   ·exact sQ _
   repeat' split
   all_goals exact yE _
  |num h0 cl=>
   obtain⟨a,b,hl,e1,e2⟩:=xy cl;rw[hl] at ih ⊢;have r1:=ih a (by simp);have r2:=ih b (by simp);rw[e1] at r1;rw[e2] at r2;rw[if_neg (by omega),if_neg (by omega),if_neg (by omega)];unfold fN;rw[if_neg (by omega),if_neg (by omega),if_neg (by omega)];simp only[List.map_cons,List.map_nil,ba,List.getD_cons_zero,List.getD_cons_succ];split
   ·exact sQ _
   rename_i Bm;rw[if_neg (by omega),if_neg (by omega),if_neg (by omega)];have k1:(bz L cs a).known=true:=by
    cases e:(bz L cs a).known with
    |true=>rfl
    |false=>exact absurd (.inl e) Bm
   have k2:(bz L cs b).known=true:=by
    cases e:(bz L cs b).known with
    |true=>rfl
    |false=>exact absurd (.inr e) Bm
   exact⟨fun h=>(by cases h),fun _=>⟨fun h=>(by cases h),fun _=>agl _ _ _ ((r1.2 k1).2 rfl) ((r2.2 k2).2 rfl)⟩⟩
theorem abm:∀(L:Nat) (cs:List Cell) (t:Tm),cv L t≤60→((dG L cs t).length:Int)≤cv L t
 |0,cs,t,h=>by simp[cv] at h
 |L+1,cs,t,h=>by
  have h1:=vd (L+1) t;obtain⟨hl,hp⟩:=Px h;have hs:∀(l:List Tm) (n:Int),(∀a,a∈l→cv L a≤60)→eU (cv L) l n≤60→((l.map (dG L cs)).flatten.length:Int)+n≤eU (cv L) l n∧∀j,(((l.map (dG L cs)).getD j []).length:Int)+n≤eU (cv L) l n:=by
   intro l
   induction l with
   |nil=>intro n _ _;simp[eU]
   |cons a l ih=>
    intro n hp hm;have ha:=abm L cs a (hp a (by simp));unfold eU at hm ⊢;split at hm
    ·omega
    ·rename_i h60;rw[if_neg h60];obtain⟨i1,i2⟩:=ih (n+cv L a) (fun b hb=>hp b (by simp[hb])) hm;refine⟨by rw[List.map_cons,List.flatten_cons,List.length_append];omega,fun j=>?_⟩;cases j with
     |zero=>simp;omega
     |succ j=>have:=i2 j;simp at this ⊢;omega
  obtain⟨BL,dw⟩:=hs t.args 1 hp h;rw[Hp];split
  ·simp;omega
  split
  ·split<;>simp<;>omega
  split
  ·have:=dw (2-(ba (t.args.map (bz L cs)) 0).n).toNat;show _≤eU _ _ _;omega
  split
  ·simp;omega
  ·show _≤eU _ _ _;omega
@[simp] theorem aHk (x y:List Int):sY (ints x) 0 (ints y)=ints y:=_root_.id rfl
@[simp] theorem axf (x y:Cell):sY (cC x) 0 (cC y)=cC y:=_root_.id rfl
@[simp] theorem aFR (a b:List Int):D.list (a.map D.int++b.map D.int)=ints (a++b):=by simp[ints]
def lists (l:List (List Int)):D:=.list (l.map ints)
@[simp] theorem aF4 (l:List (List Int)):(lists l).l=l.map ints:=_root_.id rfl
theorem afB (l:List (List Int))(hl:l.length≤1000)(hs:l.flatten.length≤1000000):ak T aaQ [lists l] (ints l.flatten):=by
 refine .of_tree rfl ahR aza ?_;simp[T5];have hb:∀k,(l.take k).flatten.length≤l.flatten.length:=by
  intro k
  conv=>rhs;rw[←List.take_append_drop k l]
  rw[List.flatten_append,List.length_append];omega
 have cr:∀k (hk:k<l.length),(l.take (k+1)).flatten=(l.take k).flatten++l[k]:=fun k hk=>by
  rw[List.take_succ_eq_append_getElem hk,List.flatten_append];simp
 refine aL.forRounds l.length (fun k=>[.int ((l.take k).flatten.length:Nat),.int k]) (fun k=>[]) ?_ (fun k hk=>?_) ?_
 ·simp
 ·have hw:=bF hk (by omega);have h1:=cr k hk;have h2:=hb (k+1);rw[h1] at h2 ⊢;rw[List.length_append] at h2 ⊢;generalize (l.take k).flatten.length=m at*;have qs:IntKind.i64.wrap ((m:Int)+(l[k].length:Int))=(m:Int)+l[k].length:=aU (by omega);have Bv:¬((m:Int)+l[k].length<0):=by omega
  simp[aeq,KV,hk,hw,qs,Bv]
 ·simp[aeq,KV];have Xq:ak T 241 [.list [],.int (l.flatten.length:Nat)] (.list []):=by
   refine .of_ext (g:=fun _ ds=>F2 ds) rfl ⟨0,fun _ _=>?_⟩;show(if(0:Int)≤(l.flatten.length:Nat)∧((l.flatten.length:Nat):Int)≤4294967296 then some (D.list []) else none)=some (D.list []);rw[if_pos (by omega)]
  rw[List.length_flatten] at Xq;refine⟨_,Xq,?_⟩;refine aL.forRounds l.length (fun k=>[.none,.int k]) (fun k=>[ints (l.take k).flatten]) ?_ (fun k hk=>?_) ?_
  ·simp[ints]
  ·have hw:=bF hk (by omega);have h1:=cr k hk;have h2:=hb (k+1);rw[h1] at h2 ⊢;rw[List.length_append] at h2;generalize (l.take k).flatten=m at*;simp[aer,KW,hk,hw];omega
  ·simp[aer,KW]
theorem alk {op:Int}{l:List Cell}(h:(fN op l).known=false):fN op l=dS:=by
 have hy:∀b,(fK b).known=true:=fun b=>by cases b<;>simp[fK]
 unfold fN at h ⊢;split<;>rename_i c1
 ·rw[if_pos c1] at h;split<;>rename_i c2
  ·rw[if_pos c2,hy] at h;cases h
  ·rfl
 rw[if_neg c1] at h;split<;>rename_i c2
 ·rw[if_pos c2,hy] at h;cases h
 rw[if_neg c2] at h;split<;>rename_i c3
 ·rw[if_pos c3] at h;split<;>rename_i c4
  ·rw[if_pos c4,c4.1] at h;cases h
  ·rfl
 rw[if_neg c3] at h;split<;>rename_i c4
 ·rfl
 rw[if_neg c4] at h
 repeat' split at h
 all_goals first|(rw[hy] at h;cases h)|cases h
theorem afb:∀(L:Nat) (cs:List Cell) (t:Tm) (k:Int),t.OK→cv L t≤60→bY L t=(k,0)→ak T PU [Ng cs,du t] (.tup [cC (bz L cs t),ints (dG L cs t)])
 |0,cs,t,k,ht,hm,hc=>by simp[cv] at hm
 |L+1,cs,t,k,ht,hm,hc=>by
  refine .of_tree rfl aif azy ?_;obtain⟨hl,hp⟩:=Px hm;obtain⟨ha,_⟩:=MY hc;obtain⟨hn,aFn⟩:=MZ hc;have gl:∀a,a∈t.args→ak T PU [Ng cs,du a] (.tup [cC (bz L cs a),ints (dG L cs a)]):=fun a eB=>afb L cs a (bY L a).1 (ht.arg eB) (hp a eB) (by rw[←ha a eB]);have BI:∀a,a∈t.args→tE (bY L a).1 (bz L cs a):=fun a eB=>Wm cs (show bY L a=((bY L a).1,0) by rw[←ha a eB]);have XO:∀a,a∈t.args→(dG L cs a).length≤60:=fun a eB=>by have:=abm L cs a (hp a eB);have:=hp a eB;omega
  by_cases gz:t.op=0∨t.op=1
  ·
   have e1:bz (L+1) cs t=⟨true,t.n⟩:=by rw[FO,if_pos gz]
   have e2:dG (L+1) cs t=[]:=by rw[Hp,if_pos gz]
   rw[e1,e2];rcases gz with h|h<;>simp[DD,h]<;>exact⟨rfl,rfl⟩
  have o0:t.op≠0:=fun h=>gz (.inl h);have o1:t.op≠1:=fun h=>gz (.inr h);by_cases o2:t.op=2
  ·have hv:0≤t.n:=by
    cases hn with
    |var h0 ha hn=>exact hn.1
    |_=>omega
   have e1:bz (L+1) cs t=j3 cs t.n:=by rw[FO,if_neg gz,if_pos o2]
   have e2:dG (L+1) cs t=if(j3 cs t.n).known=true then[] else[t.n]:=by rw[Hp,if_neg gz,if_pos o2]
   rw[e1,e2];simp[DD,o2];refine⟨_,axx cs t.n hv,?_⟩;cases e:(j3 cs t.n).known
   ·have:j3 cs t.n=dS:=by
     unfold j3 at e ⊢;split
     ·rfl
     ·rename_i h;rw[if_neg h] at e;split at e
      ·cases hb:decide ((cellAt cs t.n).n≠0)<;>rw[hb] at e<;>cases e
      ·cases e
    rw[this];simp[ints]
   ·have h:j3 cs t.n=⟨true,(j3 cs t.n).n⟩:=by rw[←e]
    rw[h];simp[ints]
    try rfl
  have hlen:1≤t.args.length∧(t.op≠3→2≤t.args.length)∧(t.op=6→3≤t.args.length):=by
   cases hn with
   |int h0 ha hn=>omega
   |bool h0 ha hn=>omega
   |var h0 ha hn=>omega
   |not h0 hk=>obtain⟨a,hl,_⟩:=auo hk;rw[hl];simp;omega
   |log h0 hk=>obtain⟨a,b,hl,_⟩:=xy hk;rw[hl];simp;omega
   |ite k h0 hk=>obtain⟨a,b,c,hl,_⟩:=Pv hk;rw[hl];simp
   |less h0 hk=>obtain⟨a,b,hl,_⟩:=xy hk;rw[hl];simp;omega
   |equal k h0 hk=>obtain⟨a,b,hl,_⟩:=xy hk;rw[hl];simp;omega
   |num h0 hk=>obtain⟨a,b,hl,_⟩:=xy hk;rw[hl];simp;omega
  have hb9:9≤t.op→(-1099511627776≤(ba (t.args.map (bz L cs)) 0).n∧(ba (t.args.map (bz L cs)) 0).n≤1099511627776)∧(-1099511627776≤(ba (t.args.map (bz L cs)) 1).n∧(ba (t.args.map (bz L cs)) 1).n≤1099511627776):=by
   intro h9;have rb:∀c:Cell,tE 0 c→-1099511627776≤c.n∧c.n≤1099511627776:=by
    intro c hr;cases e:c.known with
    |false=>rw[hr.1 e];simp
    |true=>exact(hr.2 e).2 rfl
   cases hn with
   |num h0 hk=>
    obtain⟨a,b,hl,ea,eb⟩:=xy hk;rw[hl] at BI ⊢;have r1:=BI a (by simp);have r2:=BI b (by simp);rw[ea] at r1;rw[eb] at r2;exact⟨rb _ r1,rb _ r2⟩
   |log h0 hk=>omega
   |_=>omega
  have h6:t.op=6→(ba (t.args.map (bz L cs)) 0).known=true→(ba (t.args.map (bz L cs)) 0).n=0∨(ba (t.args.map (bz L cs)) 0).n=1:=by
   intro o6 Bm;cases hn with
   |ite k h0 hk=>
    obtain⟨a,b,c,hl,ea,_⟩:=Pv hk;rw[hl] at BI Bm ⊢;have r1:=BI a (by simp);rw[ea] at r1;exact(r1.2 Bm).1 rfl
   |log h0 hk=>omega
   |num h0 hk=>omega
   |_=>omega
  have bB:t.op<3∨8<t.op→9≤t.op:=by
   cases hn with
   |log h0 hk=>omega
   |num h0 hk=>omega
   |_=>omega
  have e1:bz (L+1) cs t=if t.op=6∧(ba (t.args.map (bz L cs)) 0).known=true then ba (t.args.map (bz L cs)) (2-(ba (t.args.map (bz L cs)) 0).n).toNat else fN t.op (t.args.map (bz L cs)):=by
   rw[FO,if_neg gz,if_neg o2]
  have e2:dG (L+1) cs t=if t.op=6∧(ba (t.args.map (bz L cs)) 0).known=true then(t.args.map (dG L cs)).getD (2-(ba (t.args.map (bz L cs)) 0).n).toNat [] else if(fN t.op (t.args.map (bz L cs))).known=true then[] else(t.args.map (dG L cs)).flatten:=by
   rw[Hp,if_neg gz,if_neg o2]
  rw[e1,e2];simp[DD,o0,o1,o2];refine⟨by omega,?_⟩;refine aL.forRounds t.args.length (fun k=>[.int k]) (fun k=>[cells ((t.args.map (bz L cs)).take k++List.replicate (t.args.length-k) dS),lists ((t.args.map (dG L cs)).take k++List.replicate (t.args.length-k) [])]) ?_ (fun k hk=>?_) ?_
  ·simp[cells,lists,ints]
  ·have hw:=bF hk (by omega);have cI:=List.getElem_mem hk;have hr:=gl _ cI;have s1:=Sf (t.args.map (bz L cs)) dS (n:=t.args.length) (by simp) hk;have s2:=Sf (t.args.map (dG L cs)) [] (n:=t.args.length) (by simp) hk;rw[←s1,←s2];have l1:((t.args.map (bz L cs)).take k++List.replicate (t.args.length-k) dS).length=t.args.length:=by simp;omega
   have l2:((t.args.map (dG L cs)).take k++List.replicate (t.args.length-k) []).length=t.args.length:=by simp;omega
   have g1:(t.args.map (bz L cs))[k]'(by simpa using hk)=bz L cs t.args[k]:=by simp
   have g2:(t.args.map (dG L cs))[k]'(by simpa using hk)=dG L cs t.args[k]:=by simp
   rw[g1,g2];generalize (t.args.map (bz L cs)).take k++List.replicate (t.args.length-k) dS=A at*;generalize (t.args.map (dG L cs)).take k++List.replicate (t.args.length-k) []=B at*;generalize bz L cs t.args[k]=c at*;generalize dG L cs t.args[k]=d at*;simp[RW,Db,hk];refine⟨_,hr,?_⟩;simp[hw,hk,l1,l2,cells,lists]
  ·have hA:(t.args.map (bz L cs)).take t.args.length++List.replicate (t.args.length-t.args.length) dS=t.args.map (bz L cs):=by rw[Nat.sub_self,List.replicate_zero,List.append_nil,List.take_of_length_le (by simp)]
   have hB:(t.args.map (dG L cs)).take t.args.length++List.replicate (t.args.length-t.args.length) []=t.args.map (dG L cs):=by rw[Nat.sub_self,List.replicate_zero,List.append_nil,List.take_of_length_le (by simp)]
   have lA:(t.args.map (bz L cs)).length=t.args.length:=by simp
   have lB:(t.args.map (dG L cs)).length=t.args.length:=by simp
   have jq:∀l:List Tm,(∀a,a∈l→a∈t.args)→((l.map (dG L cs)).flatten.length≤l.length*60):=by
    intro l
    induction l with
    |nil=>intro _;simp
    |cons a l ih=>
     intro h;have h1:=XO a (h a (by simp));have h2:=ih (fun b hb=>h b (by simp[hb]));rw[List.map_cons,List.flatten_cons,List.length_append,List.length_cons];omega
   have jq:=jq t.args (fun a h=>h);have hBg:∀m:Nat,(Option.map (dG L cs) t.args[m]?).getD []=(t.args.map (dG L cs)).getD m []:=fun m=>by simp[List.getD_eq_getElem?_getD]
   rw[hA,hB];generalize t.args.map (bz L cs)=A at*;generalize t.args.map (dG L cs)=B at*;have g0:0<A.length:=by omega
   have tY:A[0]=ba A 0:=by simp[ba,g0]
   by_cases Ga:t.op=6∧(ba A 0).known=true
   ·obtain⟨o6,kn⟩:=Ga;have hv:=h6 o6 kn;have hw:IntKind.i64.wrap (2-(ba A 0).n)=2-(ba A 0).n:=aU (by omega);have h3:3≤t.args.length:=hlen.2.2 o6;rw[if_pos ⟨o6,kn⟩,if_pos ⟨o6,kn⟩];obtain⟨m,eB⟩:∃m:Nat,m=(2-(ba A 0).n).toNat:=⟨_,rfl⟩
    have Br:m<A.length:=by omega
    have N9:m<B.length:=by omega
    simp[RW,Db,o6,kn,g0,tY,hw,←eB,Br,N9,cells,lists];refine⟨by omega,by omega,by simp[ba,Br],?_⟩;rw[hBg,List.getD_eq_getElem?_getD,List.getElem?_eq_getElem N9];rfl
   ·rw[if_neg Ga,if_neg Ga];have aqu:=axt t.op A (by omega) (by omega) (by omega) hb9 bB;have aqw:=afB B (by omega) (by omega);simp[RW,Db,g0,tY];rw[if_neg Ga];refine⟨_,aqu,?_⟩;cases e:(fN t.op A).known
    ·have fo:fN t.op A=dS:=alk e;rw[fo];simp;exact aqw
    ·have h:fN t.op A=⟨true,(fN t.op A).n⟩:=by rw[←e]
     rw[h];simp[ints]
     try rfl
end Rm
namespace Rm
open Go Go.Proofs Cx
def lN (n:Nat)(g:Nat→Bool):Int:=if(List.range n).findIdx g<n then((List.range n).findIdx g:Nat) else-1
theorem BZ (n:Nat)(g:Nat→Bool):(lN n g=-1∧∀k,k<n→g k=false)∨∃k:Nat,k<n∧lN n g=k∧g k=true∧∀i,i<k→g i=false:=by
 unfold lN;split
 ·rename_i h;refine .inr ⟨_,h,rfl,?_,fun i hi=>?_⟩
  ·have:=List.findIdx_getElem (p:=g) (xs:=List.range n) (w:=by simpa using h);simpa using this
  ·have:=List.not_of_lt_findIdx (p:=g) (xs:=List.range n) hi;simpa using this
 ·rename_i h;refine .inl ⟨rfl,fun k hk=>?_⟩;have:=List.not_of_lt_findIdx (p:=g) (xs:=List.range n) (i:=k) (by omega);simpa using this
theorem Pa {n:Nat}{g:Nat→Bool}(h:∀k,k<n→g k=false):lN n g=-1:=by
 rcases BZ n g with⟨h1,_⟩|⟨k,hk,_,h2,_⟩
 ·exact h1
 ·rw[h k hk] at h2;cases h2
theorem Pb {n k:Nat}{g:Nat→Bool}(hk:k<n)(h:g k=true)(hj:∀i,i<k→g i=false):lN n g=k:=by
 rcases BZ n g with⟨_,h1⟩|⟨m,hm,h1,h2,h3⟩
 ·rw[h1 k hk] at h;cases h
 ·rcases Nat.lt_trichotomy m k with h4|h4|h4
  ·rw[hj m h4] at h2;cases h2
  ·rw[h1,h4]
  ·rw[h3 k h4] at h;cases h
theorem Yv (n:Nat)(g:Nat→Bool):decide (0≤lN n g)=(List.range n).any g:=by
 rcases BZ n g with⟨h1,h2⟩|⟨m,hm,h1,h2,h3⟩
 ·rw[h1]
  symm
  simp;exact h2
 ·rw[h1];simp;exact⟨m,hm,h2⟩
theorem afJ (l:List Rule)(f:Nat)(caps:List D)(g:Nat→Bool)(hg:∀k (hk:k<l.length),ak T f (qd l[k]::caps) (.bool (g k)))(hl:l.length≤4294967296):
 ak T aaW [rules l,.clo f caps] (.int (lN l.length g)):=by
 refine .of_tree rfl ahX azg ?_;simp[Ub];refine .scan l.length (fun k=>g k=false) (fun k=>[.int 0,.int k]) (fun _=>[]) ?_ (fun k hk hj ho=>?_) (fun k hk hj ho=>?_) (fun hj=>?_)
 ·simp
 ·have hw:=bF hk hl;simp[RQ,C6,hk,hw];refine⟨_,_,⟨rfl,rfl⟩,_,hg k hk,?_⟩;simp[ho,hw]
 ·have he:=Pb hk (by simpa using ho) hj;simp[RQ,C6,hk,he];refine⟨_,_,⟨rfl,rfl⟩,_,hg k hk,?_⟩;simp[ho]
 ·have he:=Pa hj;simp[RQ,C6,he]
theorem afK (l:List Int)(f:Nat)(caps:List D)(g:Nat→Bool)(hg:∀k (hk:k<l.length),ak T f (.int l[k]::caps) (.bool (g k)))(hl:l.length≤4294967296):
 ak T aaX [ints l,.clo f caps] (.int (lN l.length g)):=by
 refine .of_tree rfl ahY azh ?_;simp[Uc];refine .scan l.length (fun k=>g k=false) (fun k=>[.int 0,.int k]) (fun _=>[]) ?_ (fun k hk hj ho=>?_) (fun k hk hj ho=>?_) (fun hj=>?_)
 ·simp
 ·have hw:=bF hk hl;simp[RR,C7,hk,hw,ints];refine⟨_,_,⟨rfl,rfl⟩,_,hg k hk,?_⟩;simp[ho,hw]
 ·have he:=Pb hk (by simpa using ho) hj;simp[RR,C7,hk,he,ints];refine⟨_,_,⟨rfl,rfl⟩,_,hg k hk,?_⟩;simp[ho]
 ·have he:=Pa hj;simp[RR,C7,he,ints]
theorem afI (l:List Alter)(f:Nat)(caps:List D)(g:Nat→Bool)(hg:∀k (hk:k<l.length),ak T f (ns l[k]::caps) (.bool (g k)))(hl:l.length≤4294967296):
 ak T aaV [alters l,.clo f caps] (.int (lN l.length g)):=by
 refine .of_tree rfl ahW azf ?_;simp[Ua];refine .scan l.length (fun k=>g k=false) (fun k=>[.int 0,.int k]) (fun _=>[]) ?_ (fun k hk hj ho=>?_) (fun k hk hj ho=>?_) (fun hj=>?_)
 ·simp
 ·have hw:=bF hk hl;simp[RP,C5,hk,hw];refine⟨_,_,⟨rfl,rfl⟩,_,hg k hk,?_⟩;simp[ho,hw]
 ·have he:=Pb hk (by simpa using ho) hj;simp[RP,C5,hk,he];refine⟨_,_,⟨rfl,rfl⟩,_,hg k hk,?_⟩;simp[ho]
 ·have he:=Pa hj;simp[RP,C5,he]
theorem afD (l:List Int)(f:Nat)(caps:List D)(g:Nat→Bool)(hg:∀k (hk:k<l.length),ak T f (.int l[k]::caps) (.bool (g k)))(hl:l.length≤4294967296):
 ak T aaS [ints l,.clo f caps] (.bool ((List.range l.length).any g)):=by
 refine .of_tree rfl ahT azc ?_;simp[T7];refine⟨_,afK l f caps g hg hl,?_⟩;have:=Yv l.length g;simp[←this]
theorem afC (l:List Alter)(f:Nat)(caps:List D)(g:Nat→Bool)(hg:∀k (hk:k<l.length),ak T f (ns l[k]::caps) (.bool (g k)))(hl:l.length≤4294967296):
 ak T aaR [alters l,.clo f caps] (.bool ((List.range l.length).any g)):=by
 refine .of_tree rfl ahS azb ?_;simp[T6];refine⟨_,afI l f caps g hg hl,?_⟩;have:=Yv l.length g;simp[←this]
def wy (cs:List Cell)(t:Tm):Cell:=if(mc t).2=0 then bz 8 cs t else dS
theorem ala {t:Tm}(h:(mc t).2=0):cv 8 t≤60∧bY 8 t=((mc t).1,0):=by
 unfold mc at h ⊢;split at h
 ·cases h
 ·rename_i hm;rw[if_neg hm];exact⟨by omega,by rw[←h]⟩
theorem axr (t:Tm)(cs:List Cell)(ht:t.OK):ak T aa5 [du t,cells cs] (cC (wy cs t)):=by
 refine .of_tree rfl ah8 azr ?_;simp[Un,wy];refine⟨_,ae9 t ht,?_⟩;by_cases h:(mc t).2=0
 ·obtain⟨h1,h2⟩:=ala h;simp[h];refine⟨_,afb 8 cs t _ ht h1 h2,?_⟩;simp
  try rfl
 ·simp[h]
  try rfl
def PX:List Int:=[6,7,10,12,13,14,15,16,20,21]
def oq (ask:Int):Int×Bool:=if ask<0∨22≤ask then(0,false) else if hasB PX ask then(0,true) else(1,true)
theorem Qz (ask:Int):ak T aad [.int ask] (.tup [.int (oq ask).1,.bool (oq ask).2]):=by
 refine .of_tree rfl ag8 ayr ?_;simp[Tj,oq];by_cases h0:ask<0
 ·simp[h0]
 by_cases h1:22≤ask
 ·simp[h0,h1]
 simp[h0,h1];refine⟨_,tC PX ask (by decide),?_⟩;cases h:hasB PX ask<;>simp[h]
def Hq:Tm:=⟨0,0,[]⟩
def sT (o:Order)(ask:Int)(k:Nat):Bool:=decide ((o.rules.getD k default).ask=ask)
def Dn (o:Order)(i:Int):Tm:=(o.rules.getD i.toNat default).term
def findF (o:Order)(ask:Int):Tm×Int:=
 if(oq ask).2=false then(Hq,1) else if lN o.rules.length (sT o ask)<0 then(Hq,4) else
    if(mc (Dn o (lN o.rules.length (sT o ask)))).2≠0∨(mc (Dn o (lN o.rules.length (sT o ask)))).1≠(oq ask).1 then(Hq,11) else(Dn o (lN o.rules.length (sT o ask)),0)
theorem aeM {o:Order}(ho:o.OK){m:Nat}(hm:m<o.rules.length):o.rules[m].term.OK:=(ho.2.2 _ (List.getElem_mem hm)).2
theorem PW:Hq.OK:=by
 exact .mk 0 0 [] (by unfold aS;omega) (by unfold aS;omega) (by decide) (fun _ h=>by cases h)
theorem am0 {o:Order}(ho:o.OK)(ask:Int):(findF o ask).1.OK:=by
 unfold findF;split
 ·exact PW
 split
 ·exact PW
 split
 ·exact PW
 ·rename_i h _;rcases BZ o.rules.length (sT o ask) with⟨h1,h2⟩|⟨m,hm,h1,h2,h3⟩
  ·exact absurd (by rw[h1];decide) h
  ·rw[h1];simp[Dn,hm];exact aeM ho hm
theorem amY (r:Rule)(ask:Int):ak T PK [qd r,.ref (.int ask)] (.bool (decide (r.ask=ask))):=by
 refine .of_tree rfl aha ays ?_;simp[Tl]
theorem avz (o:Order)(ask:Int)(ho:o.OK)(hl:o.rules.length≤4294967296):ak T aae [jd o,.int ask] (.tup [du (findF o ask).1,.int (findF o ask).2]):=by
 refine .of_tree rfl ag9 ayt ?_;simp[Tk,findF];refine⟨_,Qz ask,?_⟩;cases h0:(oq ask).2
 ·simp[h0]
  try rfl
 simp[h0];refine⟨_,afJ o.rules PK [.ref (.int ask)] (sT o ask) (fun k hk=>by simpa [sT,hk] using amY o.rules[k] ask) hl,?_⟩;rcases BZ o.rules.length (sT o ask) with⟨h1,h2⟩|⟨m,hm,h1,h2,h3⟩
 ·rw[h1];simp
  try rfl
 ·rw[h1];have Bv:¬((m:Int)<0):=by omega
  have htm:o.rules[m].term.OK:=aeM ho hm;simp[hm,Dn,Bv];refine⟨_,ae9 _ htm,?_⟩;by_cases h4:(mc o.rules[m].term).2=0<;>by_cases h5:(mc o.rules[m].term).1=(oq ask).1<;>simp[h4,h5]<;>try rfl
def vY (o:Order)(ask:Int)(cs:List Cell):Cell×Int:=
 if(findF o ask).2≠0 then(dS,(findF o ask).2) else
    (if(oq ask).1=0∧(wy cs (findF o ask).1).known=true then⟨true,min (max (wy cs (findF o ask).1).n 0) 20000⟩ else wy cs (findF o ask).1,0)
theorem avy (o:Order)(ask:Int)(cs:List Cell)(ho:o.OK)(hl:o.rules.length≤4294967296):ak T aac [jd o,.int ask,cells cs] (.tup [cC (vY o ask cs).1,.int (vY o ask cs).2]):=by
 refine .of_tree rfl ag7 ayq ?_;simp[Ti];refine⟨_,avz o ask ho hl,?_⟩;have hf:(findF o ask).1.OK:=am0 ho ask;by_cases h:(findF o ask).2=0
 ·simp[h,vY];refine⟨_,axr _ cs hf,_,Qz ask,?_⟩;generalize wy cs (findF o ask).1=c;obtain⟨kn,n⟩:=c;by_cases h1:(oq ask).1=0
  ·cases kn
   ·simp[h1,cC]
   ·by_cases h2:n<0
    ·have:min (max n 0) 20000=0:=by omega
     simp[h1,cC,h2,this];rfl
    ·by_cases h3:20000<n
     ·have:min (max n 0) 20000=20000:=by omega
      simp[h1,cC,h2,h3,this];rfl
     ·have:min (max n 0) 20000=n:=by omega
      simp[h1,cC,h2,h3,this];rfl
  ·simp[h1,cC]
 ·simp[h,vY]
  try rfl
end Rm
namespace Rm
open Go Go.Proofs Cx
theorem aey (b:Bool):ak T aaO [.bool b] (cC (fK b)):=by
 refine .of_tree rfl ahP ay8 ?_;cases b<;>simp[T3,fK]<;>rfl
def FQ (kind sign:Int)(x:Fact):Bool:=decide (x.kind=kind)&&decide (x.at_=sign)
def jN (f:File)(kind sign:Int):Cell:=match f.facts.find? (FQ kind sign) with|none=>dS|some x=>fK (decide (x.n≠0))
theorem wD {α:Type}{p:α→Bool}:∀{l:List α} {k:Nat} (hk:k<l.length),p l[k]=true→(∀j (hj:j<k),p (l[j]'(by omega))=false)→l.find? p=some l[k]
 |a::l,0,hk,h,hj=>by simp at h;simp[h]
 |a::l,k+1,hk,h,hj=>by
  have h0:=hj 0 (by omega);simp at h0;simp only[List.find?_cons,h0,List.getElem_cons_succ];exact wD (by simpa using hk) (by simpa using h) (fun j cg=>by simpa using hj (j+1) (by omega))
theorem AL {α:Type}{p:α→Bool}{l:List α}(h:∀j (hj:j<l.length),p l[j]=false):l.find? p=none:=by
 rw[List.find?_eq_none];intro x hx;obtain⟨j,hj,rfl⟩:=List.getElem_of_mem hx;rw[h j hj];decide
theorem Di (f:File)(kind sign:Int)(hl:f.facts.length≤4294967296):ak T aaK [bU f,.int kind,.int sign] (cC (jN f kind sign)):=by
 refine .of_tree rfl ahL ay4 ?_;simp[TY];refine .scan f.facts.length (fun k=>FQ kind sign (f.facts.getD k default)=false) (fun k=>[.int k]) (fun _=>[cC dS]) ?_ (fun k hk hj ho=>?_) (fun k hk hj ho=>?_) (fun hj=>?_)
 ·simp
 ·have hw:=bF hk hl;simp[hk,FQ] at ho;by_cases h1:f.facts[k].kind=kind<;>by_cases h2:f.facts[k].at_=sign
  ·exact absurd h2 (ho h1)
  all_goals simp[RL,C2,hk,hw,h1,h2]
 ·have hw:=bF hk hl;have hf:jN f kind sign=fK (decide (f.facts[k].n≠0)):=by
   unfold jN;rw[wD hk (by simpa [hk] using ho) (fun j cg=>by have:=hj j cg;simpa [show j<f.facts.length by omega] using this)]
  simp[hk,FQ] at ho;simp[RL,C2,hk,hw,ho,hf];refine⟨_,aey _,?_⟩;simp
  try rfl
 ·have hf:jN f kind sign=dS:=by
   unfold jN;rw[AL (fun j cg=>by have:=hj j cg;simpa [cg] using this)]
  simp[RL,C2,hf]
  try rfl
def fu (r:Realm)(c:Int):Int:=if aG c r.cities.length=true then(r.cities.getD c.toNat default).order else-1
theorem oe (r:Realm)(c:Int):ak T aay [aX r,.int c] (.int (fu r c)):=by
 refine .of_tree rfl ahz ayS ?_;simp[TL,fu];refine⟨_,eX c r.cities.length,?_⟩;cases h:aG c r.cities.length
 ·simp[h]
 ·simp[aG] at h;have h1:c.toNat<r.cities.length:=by omega
  simp[h,h1]
def yP (day:Int)(l:List Sign):List Sign:=l.takeWhile fun s=>decide (s.day≤day)
def UR (day:Int)(l:List Act):List Act:=l.takeWhile fun s=>decide (s.day≤day)
def ni (n:Nat)(a:Alter):Bool:=decide (a.at_≤(n:Int))
def oJ (n:Nat)(x:Fact):Bool:=aG x.at_ n
def bn (f:File)(day:Int):File:=
 ⟨f.bill,yP day f.signs,f.alters.filter (ni (yP day f.signs).length),UR day f.acts,f.facts.filter (oJ (yP day f.signs).length)⟩
theorem LI {α:Type}(p:α→Bool):∀(l:List α),∃m,m≤l.length∧l.takeWhile p=l.take m∧(∀k (hk:k<l.length),k<m→p l[k]=true)∧(∀hk:m<l.length,p l[m]=false)
 |[]=>⟨0,by simp,by simp,fun k hk=>by simp at hk,fun hk=>by simp at hk⟩
 |a::l=>by
  by_cases h:p a=true
  ·obtain⟨m,h1,h2,h3,h4⟩:=LI p l;refine⟨m+1,by simp;omega,by simp[h,h2],fun k hk hm=>?_,fun hk=>?_⟩
   ·cases k with
    |zero=>simpa using h
    |succ k=>simpa using h3 k (by simpa using hk) (by omega)
   ·simpa using h4 (by simpa using hk)
  ·refine⟨0,by simp,by simp[h],fun k hk hm=>by omega,fun hk=>by simpa using h⟩
theorem Lo {α:Type}(p:α→Bool)(l:List α){k:Nat}(hk:k<l.length):(l.take (k+1)).filter p=(l.take k).filter p++if p l[k] then[l[k]] else[]:=by
 rw[List.take_succ_eq_append_getElem hk,List.filter_append]
 congr 1
 cases h:p l[k]<;>simp[h]
def y9 (b:Bill)(w x y z:D):D:=.agg [.int b.drawer,.int b.drawee,.int b.payee,.int b.sum,.int b.currency,.int b.tenor.kind,.int b.tenor.n,.int b.tenor.unit,.int b.day,.int b.city,.int b.pay,.int b.need,.int b.rate,.int b.flags,.int b.parts,w,x,y,z]
def mB {α:Type}(l:List α):D:=match l with|[]=>.list []|_=>.none
@[simp] theorem aFA {α:Type}:mB ([]:List α)=.list []:=rfl
@[simp] theorem aFz {α:Type}(l:List α)(x:α):mB (l++[x])=.none:=by cases l<;>rfl
theorem K4 (f:File)(day:Int)(h1:f.signs.length≤4294967295)(h2:f.acts.length≤4294967295)(h3:f.alters.length≤4294967295)(h4:f.facts.length≤4294967295):ak T aaJ [bU f,.int day] (bU (bn f day)):=by
 refine .of_tree rfl ahK ay3 ?_;simp[TX];obtain⟨m,hm,hS,W3,wM⟩:=LI (fun s:Sign=>decide (s.day≤day)) f.signs;obtain⟨n,hn,hA,hA1,hA2⟩:=LI (fun s:Act=>decide (s.day≤day)) f.acts;refine aL.forRounds m (fun k=>[.int k]) (fun k=>[signs (f.signs.take k),y9 f.bill (mB (f.signs.take k)) (.list []) (.list []) (.list [])]) ?_ (fun k hk=>?_) ?_
 ·simp[y9,signs]
  try rfl
 ·have bN:k<f.signs.length:=by omega
  have hw:=bF bN (by omega);have hd:=W3 k bN hk;simp at hd;have eA:¬day<f.signs[k].day:=by omega
  have hle:(k:Int)+1≤4294967296:=by omega
  have ht:=List.take_succ_eq_append_getElem bN;rw[ht];have hlen:(f.signs.take k).length=k:=by simp;omega
  generalize f.signs.take k=A at*;simp[RH,CY,bN,hw,eA,hlen];exact⟨hle,by simp[signs],rfl⟩
 have hSl:(f.signs.take m).length≤4294967295:=by rw[List.length_take];omega
 have hAt:bn f day=⟨f.bill,f.signs.take m,f.alters.filter (ni (f.signs.take m).length),f.acts.take n,f.facts.filter (oJ (f.signs.take m).length)⟩:=by
  unfold bn yP UR;rw[hS,hA]
 rw[hAt];generalize f.signs.take m=S at*;have hAl:(f.acts.take n).length≤4294967295:=by rw[List.length_take];omega
 by_cases eB:m<f.signs.length
 case' pos=>
  have hd:=wM eB;simp at hd;simp[RH,CY,eB,hd];generalize D.bool true=bb
 case' neg=>
  have Bq:m=f.signs.length:=by omega
  simp[RH,CY,eB,Bq];generalize D.bool false=bb
 all_goals
  refine aL.forRounds n (fun k=>[.int k]) (fun k=>[acts (f.acts.take k),y9 f.bill (mB S) (.list []) (mB (f.acts.take k)) (.list [])]) ?_ (fun k hk=>?_) ?_
  ·simp[acts]
  ·have bN:k<f.acts.length:=by omega
   have hw:=bF bN (by omega);have hd:=hA1 k bN hk;simp at hd;have eA:¬day<f.acts[k].day:=by omega
   have hle:(k:Int)+1≤4294967296:=by omega
   have ht:=List.take_succ_eq_append_getElem bN;rw[ht];have hlen:(f.acts.take k).length=k:=by simp;omega
   generalize f.acts.take k=A at*;simp[RI,CZ,bN,hw,eA,hlen];exact⟨hle,by simp[acts],rfl⟩
  generalize f.acts.take n=A at*;by_cases gD:n<f.acts.length
  case' pos=>
   have hd:=hA2 gD;simp at hd;simp[RI,CZ,gD,hd];generalize D.bool true=bc
  case' neg=>
   have nD:n=f.acts.length:=by omega
   simp[RI,CZ,gD,nD];generalize D.bool false=bc
  all_goals
   refine aL.forRounds f.alters.length (fun k=>[.int k]) (fun k=>[y9 f.bill (mB S) (mB ((f.alters.take k).filter (ni S.length))) (mB A) (.list []),alters ((f.alters.take k).filter (ni S.length))]) ?_ (fun k hk=>?_) ?_
   ·simp[alters]
   ·have hw:=bF hk (by omega);have ht:=Lo (ni S.length) f.alters hk;rw[ht];have hlen:((f.alters.take k).filter (ni S.length)).length≤k:=Nat.le_trans (List.length_filter_le _ _) (by simp;omega);generalize (f.alters.take k).filter (ni S.length)=B at*;by_cases hd:f.alters[k].at_≤(S.length:Int)
    ·simp[RJ,C0,ni,hk,hw,hd];exact⟨by omega,rfl,by simp[alters]⟩
    ·simp[RJ,C0,ni,hk,hw,hd]
   simp[RJ,C0];generalize f.alters.filter (ni S.length)=B at*;refine aL.forRounds f.facts.length (fun k=>[.int k]) (fun k=>[y9 f.bill (mB S) (mB B) (mB A) (mB ((f.facts.take k).filter (oJ S.length))),facts ((f.facts.take k).filter (oJ S.length))]) ?_ (fun k hk=>?_) ?_
   ·simp[facts]
   ·have hw:=bF hk (by omega);have ht:=Lo (oJ S.length) f.facts hk;rw[ht];have hlen:((f.facts.take k).filter (oJ S.length)).length≤k:=Nat.le_trans (List.length_filter_le _ _) (by simp;omega);generalize (f.facts.take k).filter (oJ S.length)=C at*;cases hd:aG f.facts[k].at_ S.length
    ·simp[RK,C1,oJ,hk,hw,hd];refine⟨_,og _ _,?_⟩;simp[hd,hw]
    ·simp[RK,C1,oJ,hk,hw,hd];refine⟨_,og _ _,?_⟩;simp[hd,hw];exact⟨by omega,rfl,by simp[facts]⟩
   simp[RK,C1];rfl
end Rm
namespace Rm
open Go Go.Proofs Cx
def xE:List Int→Int
 |[]=>-1
 |x::l=>l.foldl min x
theorem afR (x:Int)(l:List Int)(hl:l.length<4294967296):ak T aa0 [ints (x::l)] (.int (xE (x::l))):=by
 refine .of_tree rfl ah1 azk ?_;have h0:¬((l.length:Int)+1<1):=by omega
 simp[Uf,h0,xE,ints];refine aL.forRounds l.length (fun k=>[.int ((l.take k).foldl min x),.int ((k:Int)+1)]) (fun k=>[]) ?_ (fun k hk=>?_) ?_
 ·simp
 ·have hw:IntKind.i64.wrap ((k:Int)+1+1)=(k:Int)+1+1:=aU (by omega);rw[List.take_succ_eq_append_getElem hk,List.foldl_append];generalize (l.take k).foldl min x=y;have ht:((k:Int)+1).toNat=k+1:=by omega
  have ah:(k:Int)+1<(l.length:Int)+1:=by omega
  simp[aes,KX,hk,hw,ht,ah];refine⟨by omega,?_⟩;by_cases h:l[k]<y
  ·simp[h];omega
  ·simp[h];omega
 ·simp[aes,KX]
def lY (f:File)(n:Nat):List Int:=if f.bill.tenor.kind=1 then((f.signs.take n).filter (fun s=>decide (s.kind=1))).map (·.day) else[]
def j0 (f:File)(n:Nat):List Int:=if f.bill.tenor.kind=1 then((f.acts.take n).filter (fun s=>decide (s.kind=1))).map (·.day) else[]
def vL (f:File)(a:Act):Bool:=decide (f.bill.tenor.kind=0)&&decide (a.kind=2)
def qP (f:File):Int:=match f.acts.find? (vL f) with|some a=>a.day|none=>xE (lY f f.signs.length++j0 f f.acts.length)
theorem awC (f:File)(h1:f.signs.length≤100000)(h2:f.acts.length≤100000):ak T aaL [bU f] (.int (qP f)):=by
 refine .of_tree rfl ahM ay5 ?_;simp[TZ];refine aL.forRounds f.signs.length (fun k=>[.none,.int k]) (fun k=>[ints (lY f k)]) ?_ (fun k hk=>?_) ?_
 ·simp[lY,ints]
 ·have hw:=bF hk (by omega);have hs:lY f (k+1)=lY f k++if f.bill.tenor.kind=1∧f.signs[k].kind=1 then[f.signs[k].day] else[]:=by
   unfold lY;by_cases h:f.bill.tenor.kind=1
   ·simp only[if_pos h,Lo _ _ hk,List.map_append,h,true_and]
    congr 1
    by_cases h':f.signs[k].kind=1<;>simp[h']
   ·simp[h]
  have hlen:(lY f k).length≤k:=by
   unfold lY;split
   ·rw[List.length_map];exact Nat.le_trans (List.length_filter_le _ _) (by simp;omega)
   ·simp
  rw[hs];generalize lY f k=A at*;by_cases hc:f.bill.tenor.kind=1∧f.signs[k].kind=1
  ·simp[RM,C3,hk,hw,hc];exact⟨by omega,by simp[ints]⟩
  ·simp[RM,C3,hk,hw,hc]
 ·have hlS:(lY f f.signs.length).length≤100000:=by
   unfold lY;split
   ·rw[List.length_map];exact Nat.le_trans (List.length_filter_le _ _) (by simp;omega)
   ·simp
  have hE:qP f=match f.acts.find? (vL f) with|some a=>a.day|none=>xE (lY f f.signs.length++j0 f f.acts.length):=rfl
  generalize lY f f.signs.length=A at*;simp[RM,C3];refine aL.scan f.acts.length (fun k=>vL f (f.acts.getD k default)=false) (fun k=>[.int 0,.none,.int k]) (fun k=>[ints (A++j0 f k)]) ?_ (fun k hk hj ho=>?_) (fun k hk hj ho=>?_) (fun hj=>?_)
  ·simp[j0,ints]
  ·have hw:=bF hk (by omega);have hs:j0 f (k+1)=j0 f k++if f.bill.tenor.kind=1∧f.acts[k].kind=1 then[f.acts[k].day] else[]:=by
        unfold j0;by_cases h:f.bill.tenor.kind=1
        ·simp only[if_pos h,Lo _ _ hk,List.map_append,h,true_and]
         congr 1
         by_cases h':f.acts[k].kind=1<;>simp[h']
        ·simp[h]
   have hlen:(j0 f k).length≤k:=by
        unfold j0;split
        ·rw[List.length_map];exact Nat.le_trans (List.length_filter_le _ _) (by simp;omega)
        ·simp
   rw[hs];generalize j0 f k=B at*;simp[vL,hk] at ho;by_cases hc:f.bill.tenor.kind=1∧f.acts[k].kind=1
   ·simp[C4,vC,hk,hw,hc];exact⟨by omega,by simp[ints]⟩
   ·have hn:¬(f.bill.tenor.kind=0∧f.acts[k].kind=2):=fun h=>ho h.1 h.2;simp[C4,vC,hk,hw,hc,hn]
  ·have hf:qP f=f.acts[k].day:=by
        rw[hE,wD hk (by simpa [hk] using ho) (fun j cg=>by have:=hj j cg;simpa [show j<f.acts.length by omega] using this)]
   simp[vL,hk] at ho;simp[C4,vC,hk,ho,hf]
  ·have hf:qP f=xE (A++j0 f f.acts.length):=by
        rw[hE,AL (fun j cg=>by have:=hj j cg;simpa [cg] using this)]
   have hlA:(j0 f f.acts.length).length≤100000:=by
        unfold j0;split
        ·rw[List.length_map];exact Nat.le_trans (List.length_filter_le _ _) (by simp;omega)
        ·simp
   rw[hf];have hL:(A++j0 f f.acts.length).length≤200000:=by rw[List.length_append];omega
   generalize A++j0 f f.acts.length=L at*;cases L with
   |nil=>simp[C4,vC,xE,ints]
   |cons x l=>
    have aC:¬((l.length:Int)+1=0):=by omega
    simp[C4,vC,aC];exact afR x l (by simp at hL;omega)
end Rm
namespace Rm
open Go Go.Proofs Cx
def fM (g:Nat→Cell):D:=.list ((List.range 20).map fun i=>cC (g i))
theorem VN {g g':Nat→Cell}(h:∀i,i<20→g i=g' i):fM g=fM g':=by
 unfold fM
 congr 1
 exact List.map_congr_left fun i hi=>by rw[h i (by simpa using hi)]
theorem VO (g:Nat→Cell)(k:Nat)(c:Cell):D.list ((fM g).l.set k (cC c))=fM (fun i=>if i=k then c else g i):=by
 unfold fM
 congr 1
 show((List.range 20).map fun i=>cC (g i)).set k (cC c)=_;apply List.ext_getElem
 ·simp
 ·intro i h1 h2;simp at h2;rw[List.getElem_set];by_cases h:k=i
  ·simp[h]
  ·have h':¬i=k:=fun e=>h e.symm;simp[h,h']
@[simp] theorem aDu (g:Nat→Cell):(fM g).l.length=20:=by
  show((List.range 20).map fun i=>cC (g i)).length=20;simp
theorem D9 (g:Nat→Cell){k:Nat}(hk:k<20):(fM g).l[k]?.getD D.none=cC (g k):=by
 show((List.range 20).map fun i=>cC (g i))[k]?.getD D.none=cC (g k);simp[hk]
theorem aiP (g:Nat→Cell){k:Nat}(hk:k<(fM g).l.length):(fM g).l[k]=cC (g k):=by
 have h:=D9 g (k:=k) (by simpa using hk);rw[List.getElem?_eq_getElem hk] at h;exact h
theorem aiR (g:Nat→Cell)(k:Nat)(c:Cell):(fM g).l.set k (cC c)=(fM (fun i=>if i=k then c else g i)).l:=congrArg D.l (VO g k c)
theorem aiQ (g:Nat→Cell):D.list (fM g).l=fM g:=rfl
@[simp] theorem aHi (x:Cell)(b:Bool)(n:Int):sY (cC x) 0 (D.agg [D.bool b,D.int n])=cC ⟨b,n⟩:=_root_.id rfl
def wz {α:Type}(l:List (Int×α))(val:α→Cell)(g0:Nat→Cell)(i:Nat):Cell:=match l.find? (fun p=>decide (p.1=(i:Int))) with|some p=>val p.2|none=>g0 i
def py {α:Type}(enc:α→D)(p:Int×α):D:=.tup [.int p.1,enc p.2]
theorem Zb {α:Type}{J o:Nat}{ps cF:List Nat}{a:PC}{ρ:Env}{Q:Out→Prop}(l:List (Int×α))(enc:α→D)(val:α→Cell)(g0:Nat→Cell)
 (nd:∀p q,p∈l→q∈l→p.1=q.1→p=q) (R7:∀p,p∈l→0≤p.1) (he:ρ.o J=.tup [.list [],.map (l.map fun p=>(.int p.1,enc p.2))]) (h0:ρ.o o=fM g0)
 (step:∀p,p∈l→∀g done,aH T (om [o] a) ((ρ.put ps (cF.map (py enc p).tget) [o] [fM g]).setO J (.tup [.list (done++[py enc p]),.map (l.map fun p=>(.int p.1,enc p.2))])) (fun y=>∃ρ',y=.next ρ'∧ρ'.o o=.list ((fM g).l.set p.1.toNat (cC (val p.2)))))
 (last:Q (.next (ρ.put [] [] [o] [fM (wz l val g0)]))):aL T (.meach J ps cF [o] a) ρ Q:=by
 have lH:fY (.map (l.map fun p=>((D.int p.1,enc p.2):D×D)))=l.map (py enc):=by
  simp[fY,py]
 refine .meachR _ he (fun done vo=>∃g:Nat→Cell,vo=[fM g]∧(∀p,p∈l→py enc p∈done→g p.1.toNat=val p.2)∧∀i:Nat,(∀p,p∈l→py enc p∈done→p.1≠i)→g i=g0 i) ⟨g0,by simp[h0],(fun p _ h=>by cases h),fun i _=>rfl⟩ (fun done x rest vo hp ⟨g,hv,jr,fD⟩=>?_) ⟨_,fun done hp vo ⟨g,hv,jr,fD⟩=>?_,last⟩
 ·subst hv;rw[lH] at hp;have hx:x∈l.map (py enc):=hp.subset (by simp);obtain⟨p,eP,rfl⟩:=List.mem_map.mp hx;refine vV _ (fun y ⟨ρ',e,ho⟩=>⟨ρ',e,fun i=>if i=p.1.toNat then val p.2 else g i,by simp[ho,VO],fun q hq OC=>?_,fun i hi=>?_⟩) (step p eP g done)
  ·have uF:=R7 q hq;have nG:=R7 p eP;by_cases h:q.1=p.1
   ·rw[nd q p hq eP h];simp
   ·show(if q.1.toNat=p.1.toNat then val p.2 else g q.1.toNat)=val q.2;rw[if_neg (by omega)];rcases List.mem_append.mp OC with h1|h1
    ·exact jr q hq h1
    ·simp[py] at h1;exact absurd h1.1 h
  ·have nG:=R7 p eP;have dg:=hi p eP (by simp);show(if i=p.1.toNat then val p.2 else g i)=g0 i;rw[if_neg (by omega)];exact fD i fun q hq OC=>hi q hq (by simp[OC])
 ·rw[hv,lH] at*
  congr 1
  refine VN fun i hi=>?_;unfold wz;cases hf:l.find? (fun p=>decide (p.1=(i:Int))) with
  |some p=>
   have eP:=List.mem_of_find?_eq_some hf;have GM:p.1=(i:Int):=by simpa using List.find?_some hf
   have:=jr p eP (hp.symm.subset (List.mem_map_of_mem eP));simp only;rw[←this,GM];rfl
  |none=>
   refine fD i fun p eP _=>?_;have:=List.find?_eq_none.mp hf p eP;simpa using this
@[simp] theorem aF1 (a b:Int):dM (D.int a) (D.int b)=decide (a=b):=by
  show((a==b)&&true)=decide (a=b);rw[Bool.and_true];by_cases h:a=b<;>simp[h]
def AP (n k:Int):Bool:=decide (bJ .and .i64 n k≠0)
def xw (s:Sign)(due:Int):Int:=if due=-1 then 0 else s.day-due
def Vf (f:File)(sign:Int):Bool:=(List.range f.alters.length).any fun k=>decide ((f.alters.getD k default).at_≤sign)
def nE (c:Case):Int:=if c.holder<0 then 0 else c.holder
def sR (c:Case)(s:Sign):List (Int×Int):=[(0,c.file.bill.sum),(1,c.file.bill.parts),(2,c.file.bill.tenor.kind),(3,c.file.bill.rate),(4,s.kind),(5,c.defence),(6,xw s c.due)]
def sS (r:Realm)(c:Case)(s:Sign):List (Int×Bool):=[(7,AP c.file.bill.flags 1),(8,decide (c.file.bill.payee=-1)),(9,AP c.file.bill.flags 4),(10,AP c.file.bill.flags 2),(11,decide (fu r c.file.bill.city≠fu r c.file.bill.pay)),(12,Vf c.file c.sign),(13,AP s.flags 1),(14,decide (0<xw s c.due))]
def Nv (r:Realm)(c:Case)(s:Sign):List Cell:=
 (sR c s).map (fun p=>⟨true,p.2⟩)++(sS r c s).map (fun p=>fK p.2)++
    [jN c.file 0 c.sign,jN c.file 1 c.sign,jN c.file 2 c.sign,jN c.file 3 (nE c),jN c.file 4 (nE c)]
@[simp] theorem aC0 (x:Case):ga 19 (ew x)=bU x.file:=_root_.id rfl
@[simp] theorem aCY (x:Case):ga 15 (ew x)=cX x.file.bill:=_root_.id rfl
@[simp] theorem aCZ (x:File):ga 15 (bU x)=cX x.bill:=_root_.id rfl
def qZ (c:Case):Bool:=aG c.sign c.file.signs.length&&decide (-1≤c.holder)&&decide (nE c<c.file.signs.length)&&(decide (c.due=-1)||aG c.due 100001)
def ja (r:Realm)(c:Case):List Cell:=if qZ c=true∧aG (c.file.signs.getD c.sign.toNat default).day 100001=true then Nv r c (c.file.signs.getD c.sign.toNat default) else[]
theorem awD (r:Realm)(c:Case)(h2:c.file.facts.length≤100000)(h3:c.file.alters.length≤100000):ak T aaM [aX r,ew c] (cells (ja r c)):=by
 refine .of_tree rfl ahN ay7 ?_;cases hs:aG c.sign c.file.signs.length
 ·have hv:ja r c=[]:=by unfold ja qZ;rw[hs];simp
  rw[hv];simp[td];refine⟨_,og _ _,?_⟩;simp[hs];rfl
 by_cases hh:c.holder< -1
 ·have hv:ja r c=[]:=by unfold ja qZ;rw[hs];simp;intros;omega
  rw[hv];simp[td,hh];exact⟨⟨_,og _ _⟩,rfl⟩
 by_cases hm:(c.file.signs.length:Int)≤nE c
 ·have hv:ja r c=[]:=by unfold ja qZ;rw[hs];simp;intros;omega
  rw[hv];unfold nE at hm;simp[td,hm];exact⟨⟨_,og _ _⟩,rfl⟩
 by_cases hd:c.due≠-1∧aG c.due 100001=false
 ·have hv:ja r c=[]:=by unfold ja qZ;rw[hs];simp[hd]
  rw[hv];unfold nE at hm;obtain⟨be,df⟩:=hd;simp[td,hh,hm,be];refine⟨_,og _ _,?_⟩;simp[hs,hh,hm,be];refine⟨_,og _ _,?_⟩;simp[hs,hh,hm,be,df];rfl
 have Xb:qZ c=true:=by
  unfold qZ;rw[hs];simp;refine⟨⟨by omega,by omega⟩,?_⟩;by_cases h:c.due=-1
  ·exact .inl h
  ·right;cases hb:aG c.due 100001
   ·exact absurd ⟨h,hb⟩ hd
   ·rfl
 have hlen:c.sign.toNat<c.file.signs.length:=by simp[aG] at hs;omega
 have dw:0≤c.sign∧c.sign<(c.file.signs.length:Int):=by simpa [aG] using hs
 obtain⟨s,BM⟩:∃s:Sign,s=c.file.signs[c.sign.toNat]:=⟨_,rfl⟩
 have jS:c.file.signs.getD c.sign.toNat default=s:=by rw[BM];simp[hlen]
 have hv:ja r c=if aG s.day 100001=true then Nv r c s else[]:=by
  unfold ja;rw[jS,Xb];simp
 rw[hv];unfold nE at hm;by_cases Bb:c.due=-1
 case' pos=>
  have Xe:(c.due=-1)=True:=eq_true Bb;simp[td,hh,hm,Xe];refine⟨_,og _ _,?_⟩;simp[hs,hh,hm,Xe,hlen,←BM,dw]
 case' neg=>
  have A9:aG c.due 100001=true:=by
   cases hb:aG c.due 100001
   ·exact absurd ⟨Bb,hb⟩ hd
   ·rfl
  simp[td,hh,hm,Bb];refine⟨_,og _ _,?_⟩;simp[hs,hh,hm,Bb];refine⟨_,og _ _,?_⟩;simp[hs,hh,hm,Bb,A9,hlen,←BM,dw]
 all_goals
  refine⟨_,og _ _,?_⟩;cases Gm:aG s.day 100001
  ·simp[Gm];rfl
  simp[Gm,dZ];refine Zb (sR c s) D.int (fun n=>⟨true,n⟩) (fun _=>dS) ?_ ?_ ?_ ?_ (fun p hp g done=>?_) ?_
  ·intro p q hp hq h;simp[sR] at hp hq;rcases hp with rfl|rfl|rfl|rfl|rfl|rfl|rfl<;>rcases hq with rfl|rfl|rfl|rfl|rfl|rfl|rfl<;>first|rfl|(simp at h)
  ·intro p hp;simp[sR] at hp;rcases hp with rfl|rfl|rfl|rfl|rfl|rfl|rfl<;>simp
  ·have N1:(if c.due=-1 then(0:Int) else IntKind.i64.wrap (s.day-c.due))=xw s c.due:=by
        unfold xw;by_cases h:c.due=-1
        ·simp[h]
        ·have A9:aG c.due 100001=true:=by
          cases hb:aG c.due 100001
          ·exact absurd ⟨h,hb⟩ hd
          ·rfl
         simp[aG] at A9 Gm;rw[if_neg h,if_neg h];exact aU (by omega)
   simp[sR,dZ,hlen,←BM];rw[←N1];by_cases h:c.due=-1<;>simp[h]
  ·simp[fM];rfl
  ·have hr:0≤p.1∧p.1<20:=by
        simp[sR] at hp;rcases hp with rfl|rfl|rfl|rfl|rfl|rfl|rfl<;>simp
   have hk:p.1.toNat<20:=by omega
   simp[aws,RN,py,D9 g hk];exact hr
  have arn:∀k (hk:k<c.file.alters.length),ak T aaN (ns c.file.alters[k]::[.ref (ew c)]) (.bool (decide ((c.file.alters.getD k default).at_≤c.sign))):=fun k hk=>by
   refine .of_tree rfl ahO ay6 ?_;simp[T2,hk]
  simp;refine⟨_,afC c.file.alters _ _ _ arn (by omega),_,oe r _,_,oe r _,?_⟩;have N1:(if c.due=-1 then(0:Int) else IntKind.i64.wrap (s.day-c.due))=xw s c.due:=by
   unfold xw;by_cases h:c.due=-1
   ·simp[h]
   ·have A9:aG c.due 100001=true:=by
     cases hb:aG c.due 100001
     ·exact absurd ⟨h,hb⟩ hd
     ·rfl
    simp[aG] at A9 Gm;rw[if_neg h,if_neg h];exact aU (by omega)
  have N0:cells (Nv r c s)=fM (fun i=>if i=15 then jN c.file 0 c.sign else if i=16 then jN c.file 1 c.sign else if i=17 then jN c.file 2 c.sign else if i=18 then jN c.file 3 (nE c) else if i=19 then jN c.file 4 (nE c) else wz (sS r c s) fK (wz (sR c s) (fun n=>⟨true,n⟩) (fun _=>dS)) i):=by
   rfl
  generalize wz (sR c s) (fun n=>(⟨true,n⟩:Cell)) (fun _=>dS)=g1 at*;refine Zb (sS r c s) D.bool fK g1 ?_ ?_ ?_ ?_ (fun p hp g done=>?_) ?_
  ·intro p q hp hq h;simp[sS] at hp hq;rcases hp with rfl|rfl|rfl|rfl|rfl|rfl|rfl|rfl<;>rcases hq with rfl|rfl|rfl|rfl|rfl|rfl|rfl|rfl<;>first|rfl|(simp at h)
  ·intro p hp;simp[sS] at hp;rcases hp with rfl|rfl|rfl|rfl|rfl|rfl|rfl|rfl<;>simp
  ·simp[sS,dZ,hlen,←BM,AP];rw[←N1];by_cases h:c.due=-1<;>simp[h,Vf]
  ·simp
  ·have hr:0≤p.1∧p.1<20:=by
        simp[sS] at hp;rcases hp with rfl|rfl|rfl|rfl|rfl|rfl|rfl|rfl<;>simp
   have hk:p.1.toNat<20:=by omega
   simp[awt,RO,py,D9 g hk];refine⟨_,aey _,?_⟩;simp[D9 g hk];exact hr
  simp;generalize wz (sS r c s) fK g1=g2 at*;have hho:(if c.holder<0 then D.int 0 else D.int c.holder)=D.int (nE c):=by
   unfold nE;split<;>rfl
  rw[hho];refine⟨_,Di _ _ _ (by omega),_,Di _ _ _ (by omega),_,Di _ _ _ (by omega),_,Di _ _ _ (by omega),_,Di _ _ _ (by omega),?_⟩;rw[N0];simp only[aiP,axf,aiR,aiQ];refine VN fun i hi=>?_;by_cases F4:i=15
  ·subst F4;simp
  by_cases F5:i=16
  ·subst F5;simp
  by_cases F6:i=17
  ·subst F6;simp
  by_cases F7:i=18
  ·subst F7;simp
  by_cases WR:i=19
  ·subst WR;simp
  simp[F4,F5,F6,F7,WR]
end Rm
namespace Rm
open Go Go.Proofs Cx
def HH (n:Nat)(x:Int):Bool:=decide (x<0)||decide ((n:Int)≤x)
def kf (r:Realm)(a q:Int)(l:List Int):Bool:=
 !(decide (a<0)||decide ((r.orders.length:Int)≤a)||decide (q<0)||decide (22≤q)||decide (l.length≠5))&& !((List.range l.length).any fun k=>HH r.orders.length (l.getD k 0))
theorem am1 (x n:Int):ak T PJ [.int x,.ref (.int n)] (.bool (decide (x<0)||decide (n≤x))):=by
 refine .of_tree rfl agY ayg ?_;by_cases h:x<0<;>simp[S9,h]
theorem Ww (r:Realm)(a q:Int)(l:List Int)(hl:l.length≤100000):ak T Z3 [aX r,.int a,.int q,ints l] (.bool (kf r a q l)):=by
 refine .of_tree rfl agX ayh ?_;by_cases h1:a<0
 ·simp[tc,kf,h1]
 by_cases h2:(r.orders.length:Int)≤a
 ·simp[tc,kf,h1,h2]
 by_cases h3:q<0
 ·simp[tc,kf,h1,h2,h3]
 by_cases h4:22≤q
 ·simp[tc,kf,h1,h2,h3,h4]
 by_cases h5:(l.length:Int)=5
 ·have F9:l.length=5:=by omega
  simp[tc,h1,h2,h3,h4,F9];refine⟨_,afD l PJ [.ref (.int r.orders.length)] (fun k=>HH r.orders.length (l.getD k 0)) (fun k hk=>by simpa [HH,hk] using am1 l[k] r.orders.length) (by omega),?_⟩;simp only[kf,F9];simp[h1,h2,h3,h4]
 ·have F9:¬l.length=5:=by omega
  simp[tc,kf,h1,h2,h3,h4,F9];intro h;omega
theorem Nn {r:Realm}{a q:Int}{l:List Int}(h:kf r a q l=true):(0≤a∧a<r.orders.length)∧l.length=5∧(∀x,x∈l→0≤x∧x<r.orders.length)∧∀b:Int,0≤b→b<r.orders.length→kf r b q l=true:=by
 unfold kf at h ⊢;rw[Bool.and_eq_true] at h;obtain⟨h1,h2⟩:=h;simp at h1;refine⟨by omega,h1.2,fun x hx=>?_,fun b gX dK=>?_⟩
 ·obtain⟨k,hk,rfl⟩:=List.getElem_of_mem hx;simp[HH] at h2;have:=h2 k hk;simp[hk] at this;omega
 ·rw[h2];simp;omega
def yW (r:Realm):Prop:=∀o,o∈r.orders→o.choices.length≤100000∧∀ch,ch∈o.choices→0≤ch.by_∧ch.by_<5
def uY (q:Int)(ch:Choice):Bool:=decide (ch.ask=q)&&decide (ch.by_≠0)
def mK (r:Realm)(a:Int):Order:=r.orders.getD a.toNat default
def fb (r:Realm)(a q:Int)(l:List Int):Int×Bool:=
 (match(mK r a).choices.find? (uY q) with|some ch=>l.getD ch.by_.toNat 0|none=>a,match(mK r a).choices.find? (uY q) with|some ch=>ch.whole|none=>false)
theorem U2 (r:Realm)(nA:yW r)(a q:Int)(l:List Int)(hl:l.length≤100000)(hf:kf r a q l=true):
 ak T Z2 [aX r,.int a,.int q,ints l] (.tup [.int (fb r a q l).1,.bool (fb r a q l).2])∧0≤(fb r a q l).1∧(fb r a q l).1<r.orders.length:=by
 obtain⟨ha,XA,hx,_⟩:=Nn hf;have wP:a.toNat<r.orders.length:=by omega
 obtain⟨aY,oQ⟩:=nA _ (List.getElem_mem wP);obtain⟨o,ho⟩:∃o,o=r.orders[a.toNat]:=⟨_,rfl⟩
 rw[←ho] at aY oQ;have Om:mK r a=o:=by rw[ho];simp[mK,wP]
 unfold fb;rw[Om];refine⟨?_,?_⟩
 ·refine .of_tree rfl agW ayf ?_;simp[S8];refine⟨_,Ww r a q l hl,?_⟩;simp[hf,wP,←ho,ha];refine aL.scan o.choices.length (fun k=>uY q (o.choices.getD k default)=false) (fun k=>[.int 0,.bool false,.int k]) (fun _=>[]) ?_ (fun k hk hj au=>?_) (fun k hk hj au=>?_) (fun hj=>?_)
  ·simp
  ·have hw:=bF hk (by omega);have hn:¬(o.choices[k].ask=q∧¬o.choices[k].by_=0):=by simpa [uY,hk] using au
   simp[Rt,CJ,wP,←ho,hk,hw,hn]
  ·have jn:=wD hk (by simpa [hk] using au) (fun j cg=>by have:=hj j cg;simpa [show j<o.choices.length by omega] using this);rw[jn];have hc:o.choices[k].ask=q∧¬o.choices[k].by_=0:=by simpa [uY,hk] using au
   have hb:=oQ _ (List.getElem_mem hk);have Gi:o.choices[k].by_.toNat<l.length:=by omega
   simp[Rt,CJ,wP,←ho,hk,hc,ints,Gi];omega
  ·have jn:=AL (l:=o.choices) (p:=uY q) (fun j cg=>by have:=hj j cg;simpa [cg] using this);rw[jn];simp[Rt,CJ,wP,←ho]
 ·cases jn:o.choices.find? (uY q) with
  |none=>exact ha
  |some ch=>
   have hb:=oQ _ (List.mem_of_find?_eq_some jn);have Gi:ch.by_.toNat<l.length:=by omega
   simp[Gi];exact hx _ (List.getElem_mem Gi)
theorem QH:∀(N:Nat) (l:List Int),l.Nodup→(∀x,x∈l→0≤x∧x<(N:Int))→l.length≤N
 |0,l,hn,h=>by
  cases l with
  |nil=>simp
  |cons a l=>have:=h a (by simp);omega
 |N+1,l,hn,h=>by
  by_cases hm:(N:Int)∈l
  ·have h1:=QH N (l.erase (N:Int)) (hn.erase _) (fun x hx=>by
    have cP:=(hn.mem_erase_iff).mp hx;have:=h x cP.2;have aC:=cP.1;omega)
   rw[List.length_erase_of_mem hm] at h1;omega
  ·have h1:=QH N l hn (fun x hx=>by
    have:=h x hx;have aC:x≠(N:Int):=fun e=>hm (e▸hx);omega)
   omega
def cR (l:List Int):Int:=l.getD (l.length-1) 0
def jz (r:Realm)(q:Int)(l:List Int):Nat→List Int→List Int×Int
 |0,p=>(p,0)
 |n+1,p=>
  if(fb r (cR p) q l).1=cR p then(p,0)
  else if(fb r (cR p) q l).2=false∨(hasB p (fb r (cR p) q l).1=true∧(mK r (fb r (cR p) q l).1).accepts=true) then(p++[(fb r (cR p) q l).1],0)
  else if hasB p (fb r (cR p) q l).1=true then(p++[(fb r (cR p) q l).1],12)
  else jz r q l n (p++[(fb r (cR p) q l).1])
theorem Ph (r:Realm)(q:Int)(l:List Int)(n:Nat)(p:List Int):jz r q l (n+1) p=
 if(fb r (cR p) q l).1=cR p then(p,0)
 else if(fb r (cR p) q l).2=false∨(hasB p (fb r (cR p) q l).1=true∧(mK r (fb r (cR p) q l).1).accepts=true) then(p++[(fb r (cR p) q l).1],0)
 else if hasB p (fb r (cR p) q l).1=true then(p++[(fb r (cR p) q l).1],12)
 else jz r q l n (p++[(fb r (cR p) q l).1]):=rfl
def gH (r:Realm)(a q:Int)(l:List Int):List Int×Int:=if kf r a q l=true∧l.getD 0 0=a then jz r q l r.orders.length [a] else([],1)
theorem afQ (r:Realm)(nA:yW r)(hn:r.orders.length≤100000)(a q:Int)(l:List Int)(hl:l.length≤100000):ak T Z1 [aX r,.int a,.int q,ints l] (.tup [ints (gH r a q l).1,.int (gH r a q l).2]):=by
 refine .of_tree rfl agV aye ?_;simp[S7];refine⟨_,Ww r a q l hl,?_⟩;cases hf:kf r a q l
 ·simp[gH,hf];rfl
 obtain⟨ha,XA,hx,ud⟩:=Nn hf;have h0:0<l.length:=by omega
 by_cases ux:l[0]=a
 ·have hE:gH r a q l=jz r q l r.orders.length [a]:=by unfold gH;rw[if_pos ⟨hf,by simp[h0,ux]⟩]
  rw[hE];simp[h0,ux,ints];refine aL.forLoop (α:=Nat×List Int) (fun s vr vo=>vr=[.list [],.int 0,.none]∧vo=[ints s.2]∧s.2.Nodup∧(∀x,x∈s.2→0≤x∧x<(r.orders.length:Int))∧s.2≠[]∧s.1+s.2.length=r.orders.length+1∧jz r q l s.1 s.2=jz r q l r.orders.length [a]) (fun s=>s.1) (r.orders.length,[a]) ?_ ?_
  ·simp[ints];exact ha
  ·rintro⟨n,p⟩ vr vo ⟨rfl,rfl,bp,bx,aC,hlen,Bn⟩;simp only at*;have eP:p.length≤r.orders.length:=QH _ p bp bx;have Oz:0<p.length:=List.length_pos_iff.mpr aC;obtain⟨m,rfl⟩:∃m,n=m+1:=⟨n-1,by omega⟩
   have ah:p.length-1<p.length:=by omega
   have ju:cR p=p[p.length-1]:=by simp[cR,ah]
   have uy:=bx _ (List.getElem_mem ah);rw[←ju] at uy;obtain⟨ND,fF,fG⟩:=U2 r nA (cR p) q l hl (ud _ uy.1 uy.2);have N8:((p.length:Int)-1).toNat=p.length-1:=by omega
   have O4:IntKind.i64.wrap ((p.length:Int)-1)=(p.length:Int)-1:=aU (by omega);rw[←Bn,Ph];obtain⟨L,hL⟩:∃L,L=fb r (cR p) q l:=⟨_,rfl⟩
   rw[←hL] at ND fF fG ⊢;obtain⟨to,whole⟩:=L;simp only at ND fF fG;have uM:to.toNat<r.orders.length:=by omega
   have Om:mK r to=r.orders[to.toNat]:=by simp[mK,uM]
   simp only[Om];simp[awq,Rs,O4,N8,ah,←ju,ints];refine⟨by omega,_,ND,?_⟩;by_cases h1:to=cR p
   ·simp[h1]
   simp[h1];refine⟨_,tC p to (by omega),by omega,?_⟩;cases whole
   ·simp
   cases h2:hasB p to
   ·have cO:to∉p:=fun hm=>by
     have:hasB p to=true:=by simp[hasB,hm]
     rw[h2] at this;cases this
    simp[h2];refine⟨m,by omega,p++[to],by simp,?_,?_,by simp,by simp;omega,rfl⟩
    ·exact List.nodup_append.mpr ⟨bp,by simp,fun x hx y hy=>by simp at hy;subst hy;exact fun e=>cO (e▸hx)⟩
    ·intro x hx;rcases List.mem_append.mp hx with h|h
     ·exact bx x h
     ·simp at h;subst h;exact⟨fF,fG⟩
   ·cases h3:r.orders[to.toNat].accepts<;>simp[h2,h3,uM]<;>omega
 ·have hE:gH r a q l=([],1):=by unfold gH;rw[if_neg (by simp[h0,ux])]
  rw[hE];simp[h0,ux];rfl
end Rm
namespace Rm
open Go Go.Proofs Cx
def cW (f:File)(i:Int):Sign:=f.signs.getD i.toNat default
def kA (r:Realm)(forum:Int)(c:Case):List Int:=[forum,fu r (cW c.file c.sign).city,fu r c.file.bill.pay,fu r c.file.bill.city,fu r (r.firms.getD (cW c.file c.sign).who.toNat default).city]
def oB (r:Realm)(forum:Int)(c:Case):Prop:=(cW c.file c.sign).who<0∨(r.firms.length:Int)≤(cW c.file c.sign).who∨forum<0∨(r.orders.length:Int)≤forum
instance (r:Realm) (forum:Int) (c:Case):Decidable (oB r forum c):=by unfold oB;infer_instance
def iV (r:Realm)(forum:Int)(c:Case):List Int:=if oB r forum c then[] else if hasB (kA r forum c) (-1)=true then[] else kA r forum c
@[simp] theorem aDm (r:Realm)(x:Int):v3 (aX r) x=fu r x:=by
  unfold v3 fu aG;by_cases h:0≤x∧x<(r.cities.length:Int)
  ·have hx:x.toNat<r.cities.length:=by omega
   rw[if_pos (by simpa using h),if_pos (by simpa using h)];simp[hx]
  ·rw[if_neg (by simpa using h),if_neg (by simpa using h)]
theorem ado (r:Realm)(forum:Int)(c:Case)(h1:c.sign.toNat<c.file.signs.length):QI [aX r,.int forum,ew c]=ints (iV r forum c):=by
 have hs:cW c.file c.sign=c.file.signs[c.sign.toNat]:=by simp[cW,h1]
 unfold QI iV;simp[h1];by_cases hb:oB r forum c
 ·rw[if_pos (by simpa [oB,hs] using hb),if_pos hb];rfl
 ·rw[if_neg (by simpa [oB,hs] using hb),if_neg hb];have xm:(cW c.file c.sign).who.toNat<r.firms.length:=by unfold oB at hb;omega
  have Ye:c.file.signs[c.sign.toNat].who.toNat<r.firms.length:=by rw[←hs];exact xm
  have iL:kA r forum c=[forum,fu r c.file.signs[c.sign.toNat].city,fu r c.file.bill.pay,fu r c.file.bill.city,fu r r.firms[c.file.signs[c.sign.toNat].who.toNat].city]:=by
   simp[kA,hs,Ye]
  have cI:∀l:List Int,hasB l (-1)=true↔-1∈l:=fun l=>by simp[hasB]
  rw[iL];simp[Ye];split
  ·rename_i h;rw[if_pos ((cI _).mpr (by simpa using h))];rfl
  ·rename_i h;rw[if_neg (fun h'=>h (by simpa using(cI _).mp h'))]
theorem avY (r:Realm)(forum:Int)(c:Case)(h1:0≤c.sign∧c.sign<c.file.signs.length):ak T auJ [aX r,.int forum,ew c] (ints (iV r forum c)):=by
 have cq:c.sign.toNat<c.file.signs.length:=by omega
 rw[←ado r forum c cq];have hs:cW c.file c.sign=c.file.signs[c.sign.toNat]:=by simp[cW,cq]
 refine ak.of_nsl rfl axS axT ?_;rw[ado r forum c cq];by_cases hb:oB r forum c
 ·refine .inr ⟨by simp[iV,hb];rfl,?_⟩;have eN:=hb;simp[oB,hs] at eN;simp[Lt,h1,cq]
  intros;omega
 have oO:iV r forum c=if hasB (kA r forum c) (-1)=true then[] else kA r forum c:=by unfold iV;rw[if_neg hb]
 have eN:=hb;simp[oB,hs] at eN;have hw:c.file.signs[c.sign.toNat].who.toNat<r.firms.length:=by omega
 have hC:=tC (kA r forum c) (-1) (by simp[kA]);cases hh:hasB (kA r forum c) (-1)<;>rw[hh] at hC<;>simp[kA,ints,hs,hw] at hC
 ·refine .inl ⟨(kA r forum c).map .int,by simp[kA],by rw[oO,hh];rfl,?_⟩;simp[SJ,h1,cq,hw];rw[if_neg (by omega)];refine⟨_,oe r _,_,oe r _,_,oe r _,by omega,_,oe r _,_,by simpa using hC,?_⟩;simp[kA,hs,hw]
 ·refine .inr ⟨by rw[oO,hh];rfl,?_⟩;simp[Lt,h1,cq,hw]
  intros
  refine⟨_,oe r _,_,oe r _,_,oe r _,by omega,_,oe r _,_,by simpa using hC,?_⟩;simp
end Rm
namespace Rm
open Go Go.Proofs Cx
structure Right (r:Realm):Prop where
 by_:yW r
 len:r.orders.length≤100000
 ok:∀o,o∈r.orders→o.OK∧o.rules.length≤100000
structure FewS (f:File):Prop where
 signs:f.signs.length≤1000
 alters:f.alters.length≤1000
 acts:f.acts.length≤1000
 facts:f.facts.length≤1000
theorem afn {α:Type}(p:α→Bool)(l:List α):(l.takeWhile p).length≤l.length:=by
 obtain⟨m,h1,h2,_⟩:=LI p l;rw[h2,List.length_take];omega
theorem FewS.at_ {f:File}(h:FewS f)(day:Int):FewS (bn f day):=
 ⟨Nat.le_trans (afn _ _) h.1,Nat.le_trans (List.length_filter_le _ _) h.2,Nat.le_trans (afn _ _) h.3,Nat.le_trans (List.length_filter_le _ _) h.4⟩
def gn (c:Case):Case:={c with file:=bn c.file c.day}
@[simp] theorem aDd (x:File)(a0 a1 a2 a3 a4 a5 a6 a7 a8 a9 kS kT kU kV kW m9 na nf ng:D)(s h d u y:Int):ga 24 (D.agg (cK [a0,a1,a2,a3,a4,a5,a6,a7,a8,a9,kS,kT,kU,kV,kW,m9,na,nf,ng,.int s,.int h,.int d,.int u,.int y] 0 [.int x.bill.drawer,.int x.bill.drawee,.int x.bill.payee,.int x.bill.sum,.int x.bill.currency,.int x.bill.tenor.kind,.int x.bill.tenor.n,.int x.bill.tenor.unit,.int x.bill.day,.int x.bill.city,.int x.bill.pay,.int x.bill.need,.int x.bill.rate,.int x.bill.flags,.int x.bill.parts,signs x.signs,alters x.alters,acts x.acts,facts x.facts]))=ew ⟨x,s,h,d,u,y⟩:=_root_.id rfl
theorem ago (r:Realm)(c:Case)(hf:FewS c.file):ak T ZF [aX r,ew c] (.tup [ew (gn c),cells (ja r (gn c))]):=by
 refine .of_tree rfl agB axR ?_;simp[SI];have h1:=hf.1;have h2:=hf.2;have h3:=hf.3;have h4:=hf.4;refine⟨_,K4 c.file c.day (by omega) (by omega) (by omega) (by omega),?_⟩;have Gr:=hf.at_ c.day;have h5:=Gr.4;have h6:=Gr.2;simp;exact⟨awD r (gn c) (by show(bn c.file c.day).facts.length≤_;omega) (by show(bn c.file c.day).alters.length≤_;omega),(congrArg (ga 24) (avD (gn c) _ _ _ _ _ _ _ _ _ _ _ _ _ _ _ _ _ _ _ _ _ _ _ _)).trans (af7 (gn c))⟩
theorem azZ {r:Realm}{c:Case}(h:ja r c≠[]):0≤c.sign∧c.sign<c.file.signs.length:=by
 unfold ja at h;split at h
 ·rename_i hh;have h1:=hh.1;unfold qZ at h1;simp[aG] at h1;omega
 ·exact absurd rfl h
theorem YH (r:Realm)(nA:yW r)(q:Int)(l:List Int)(hl:l.length≤100000)(ud:∀b:Int,0≤b→b<r.orders.length→kf r b q l=true):∀(n:Nat) (p:List Int),p≠[]→(∀x,x∈p→0≤x∧x<(r.orders.length:Int))→
 (jz r q l n p).1≠[]∧∀x,x∈(jz r q l n p).1→0≤x∧x<(r.orders.length:Int)
 |0,p,aC,hp=>⟨aC,hp⟩
 |n+1,p,aC,hp=>by
  have ah:p.length-1<p.length:=by have:=List.length_pos_iff.mpr aC;omega
  have ju:cR p=p[p.length-1]:=by simp[cR,ah]
  have uy:=hp _ (List.getElem_mem ah);rw[←ju] at uy;obtain⟨_,ht⟩:=U2 r nA (cR p) q l hl (ud _ uy.1 uy.2)
  have aT:∀x,x∈p++[(fb r (cR p) q l).1]→0≤x∧x<(r.orders.length:Int):=fun x hx=>by
   rcases List.mem_append.mp hx with h|h
   ·exact hp x h
   ·simp at h;subst h;exact ht
  rw[Ph];split
  ·exact⟨aC,hp⟩
  split
  ·exact⟨by simp,aT⟩
  split
  ·exact⟨by simp,aT⟩
  ·exact YH r nA q l hl ud n _ (by simp) aT
theorem YG {r:Realm}(hr:Right r){a q:Int}{l:List Int}(hl:l.length≤100000)(h:(gH r a q l).2=0):(gH r a q l).1≠[]∧0≤cR (gH r a q l).1∧cR (gH r a q l).1<r.orders.length:=by
 unfold gH at h ⊢;split at h
 ·rename_i hh;rw[if_pos hh];obtain⟨ha,XA,hx,ud⟩:=Nn hh.1;obtain⟨h1,h2⟩:=YH r hr.by_ q l hl ud r.orders.length [a] (by simp) (fun x hx=>by simp at hx;subst hx;exact ha);refine⟨h1,?_⟩;have ah:(jz r q l r.orders.length [a]).1.length-1<(jz r q l r.orders.length [a]).1.length:=by have:=List.length_pos_iff.mpr h1;omega
  have ju:cR (jz r q l r.orders.length [a]).1=(jz r q l r.orders.length [a]).1[(jz r q l r.orders.length [a]).1.length-1]:=by simp[cR,ah]
  rw[ju];exact h2 _ (List.getElem_mem ah)
 ·cases h
theorem YI (r:Realm)(q:Int)(l:List Int):∀(n:Nat) (p:List Int),(jz r q l n p).1.length≤p.length+n
 |0,p=>by simp[jz]
 |n+1,p=>by
  rw[Ph];split
  ·simp
  split
  ·simp
  split
  ·simp
  ·have:=YI r q l n (p++[(fb r (cR p) q l).1]);simp at this;omega
theorem as6 (r:Realm)(a q:Int)(l:List Int):(gH r a q l).1.length≤1+r.orders.length:=by
 unfold gH;split
 ·exact YI r q l _ [a]
 ·simp
@[simp] theorem aHf (a b c d e x:D):cK [a,b,c,d,e] 2 [x]=[a,b,x,d,e]:=_root_.id rfl
@[simp] theorem aHg (a b c d e x:D):cK [a,b,c,d,e] 3 [x]=[a,b,c,x,e]:=_root_.id rfl
@[simp] theorem aHh (a b c d e x:D):cK [a,b,c,d,e] 4 [x]=[a,b,c,d,x]:=_root_.id rfl
def PV:Said:=⟨dS,-1,[],1⟩
def iw (r:Realm)(forum q:Int)(c:Case):Said×List Cell:=
 if ja r (gn c)=[] then(PV,[]) else if(oq q).2=false then(PV,[]) else if iV r forum (gn c)=[] then(PV,[]) else
    (⟨dS,if(gH r forum q (iV r forum (gn c))).2=0 then cR (gH r forum q (iV r forum (gn c))).1 else-1,(gH r forum q (iV r forum (gn c))).1,(gH r forum q (iV r forum (gn c))).2⟩,ja r (gn c))
theorem adp (r:Realm)(forum:Int)(c:Case):(iV r forum c).length≤5:=by
 unfold iV;split
 ·simp
 split<;>simp[kA]
theorem agn (r:Realm)(hr:Right r)(forum q:Int)(c:Case)(hf:FewS c.file):ak T ZE [aX r,.int forum,.int q,ew c] (.tup [mi (iw r forum q c).1,cells (iw r forum q c).2]):=by
 refine .of_tree rfl agA axQ ?_;simp[SH];refine⟨_,ago r c hf,?_⟩;by_cases hv:ja r (gn c)=[]
 ·simp[hv,iw];exact⟨rfl,rfl⟩
 simp[hv,iw];refine⟨_,Qz q,?_⟩;cases hq:(oq q).2
 ·simp[hq];exact⟨rfl,rfl⟩
 simp[hq];refine⟨_,avY r forum (gn c) (azZ hv),?_⟩;by_cases hp:iV r forum (gn c)=[]
 ·simp[hp];exact⟨rfl,rfl⟩
 have eP:=adp r forum (gn c);have aC:ints (iV r forum (gn c))≠.list []:=fun e=>hp (by simpa [ints] using e);simp[hp];generalize iV r forum (gn c)=l at*;refine⟨_,afQ r hr.by_ hr.len forum q l (by omega),?_⟩;have hlen:=as6 r forum q l;have Bn:=YG hr (a:=forum) (q:=q) (l:=l) (by omega);have Ot:=hr.len;generalize gH r forum q l=L at*;obtain⟨path,err⟩:=L;simp only at*;by_cases he:err=0
 ·obtain⟨h1,h2⟩:=Bn he;have Oz:=List.length_pos_iff.mpr h1;have O4:IntKind.i64.wrap ((path.length:Int)-1)=(path.length:Int)-1:=aU (by omega);have N8:((path.length:Int)-1).toNat=path.length-1:=by omega
  have ah:path.length-1<path.length:=by omega
  have ju:cR path=path[path.length-1]:=by simp[cR,ah]
  simp[he,O4,N8,ah,←ju];exact⟨by omega,rfl⟩
 ·simp[he];rfl
def gu (r:Realm)(forum q:Int)(c:Case):Said:=
 if(iw r forum q c).1.order=-1 then(iw r forum q c).1
 else⟨(vY (mK r (iw r forum q c).1.order) q (iw r forum q c).2).1,(iw r forum q c).1.order,(iw r forum q c).1.path,(vY (mK r (iw r forum q c).1.order) q (iw r forum q c).2).2⟩
theorem agm {r:Realm}(hr:Right r)(forum q:Int)(c:Case):(iw r forum q c).1.order=-1∨(0≤(iw r forum q c).1.order∧(iw r forum q c).1.order<r.orders.length):=by
 unfold iw;split
 ·exact .inl rfl
 split
 ·exact .inl rfl
 split
 ·exact .inl rfl
 ·have eP:=adp r forum (gn c);have Bn:=YG hr (a:=forum) (q:=q) (l:=iV r forum (gn c)) (by omega);show(if _ then _ else _)=_∨_;split
  ·rename_i h;exact .inr (Bn h).2
  ·exact .inl rfl
theorem Mb (r:Realm)(hr:Right r)(forum q:Int)(c:Case)(hf:FewS c.file):ak T PF [aX r,.int forum,.int q,ew c] (mi (gu r forum q c)):=by
 refine .of_tree rfl agv axL ?_;simp[SB];refine⟨_,agn r hr forum q c hf,?_⟩;have ho:=agm hr forum q c;unfold gu;generalize iw r forum q c=S at*;obtain⟨s,cs⟩:=S;simp only at*;by_cases h:s.order=-1
 ·obtain⟨⟨kn,n⟩,o,pth,e⟩:=s;simp only at h;subst h;simp;rfl
 ·have h1:0≤s.order∧s.order<r.orders.length:=by omega
  have h2:s.order.toNat<r.orders.length:=by omega
  have h3:mK r s.order=r.orders[s.order.toNat]:=by simp[mK,h2]
  obtain⟨au,hlen⟩:=hr.ok _ (List.getElem_mem h2);simp[h,h1,h2,h3];refine⟨_,avy _ q cs au (by omega),?_⟩;simp;rfl
def ma (r:Realm)(forum q:Int)(f:File)(day:Int):Said:=gu r forum q ⟨{f with facts:=[]},0,-1,-1,-1,day⟩
theorem Vj (r:Realm)(hr:Right r)(forum q:Int)(f:File)(day:Int)(hf:FewS f):ak T ZA [aX r,.int forum,.int q,bU f,.int day] (mi (ma r forum q f day)):=by
 refine .of_tree rfl agw axM ?_;simp[SC];refine⟨mi (ma r forum q f day),Mb r hr forum q ⟨{f with facts:=[]},0,-1,-1,-1,day⟩ ⟨hf.1,hf.2,hf.3,by simp⟩,?_⟩;simp
 try rfl
def qQ (s:Said):Int:=if s.err≠0 then 0 else if s.cell.known=false then 2 else if s.cell.n≠0 then 1 else 0
theorem DZ (s:Said):ak T ZD [mi s] (.int (qQ s)):=by
 refine .of_tree rfl agz axP ?_;unfold qQ;by_cases h1:s.err=0<;>cases h2:s.cell.known<;>by_cases h3:s.cell.n=0<;>simp[SG,h1,h2,h3]
def jT (s:Said):Int:=if s.err≠0∨s.cell.known=false then-1 else s.cell.n
theorem Vk (s:Said):ak T ZC [mi s] (.int (jT s)):=by
 refine .of_tree rfl agy axO ?_;unfold jT;by_cases h1:s.err=0<;>cases h2:s.cell.known<;>simp[SF,h1,h2]
end Rm
namespace Rm
open Go Go.Proofs Cx
def jJ (day:Int)(l:List Act)(es:List (D×D)):List (D×D):=l.foldl (fun es a=>if a.kind=7∧a.day≤day then dZ (.int a.at_) (.bool true) es else es) es
theorem axi (day:Int)(l:List Act){k:Nat}(hk:k<l.length):jJ day (l.take (k+1)) []=if l[k].kind=7∧l[k].day≤day then dZ (.int l[k].at_) (.bool true) (jJ day (l.take k) []) else jJ day (l.take k) []:=by
 unfold jJ;rw[List.take_succ_eq_append_getElem hk,List.foldl_append];rfl
theorem ads (k v:D):∀es:List (D×D),(dZ k v es).length≤es.length+1
 |[]=>by simp[dZ]
 |e::es=>by
  unfold dZ;split
  ·simp
  ·have:=ads k v es;simp;omega
theorem ae5 (day:Int):∀(l:List Act) (es:List (D×D)),(jJ day l es).length≤es.length+l.length
 |[],es=>by simp[jJ]
 |a::l,es=>by
  have h:=ae5 day l (if a.kind=7∧a.day≤day then dZ (.int a.at_) (.bool true) es else es);have hp:=ads (.int a.at_) (.bool true) es;show(jJ day l (if a.kind=7∧a.day≤day then dZ (.int a.at_) (.bool true) es else es)).length≤_;split at h
  ·rename_i hc;rw[if_pos hc];simp;omega
  ·rename_i hc;rw[if_neg hc];simp;omega
theorem axD (f:File)(day:Int)(hl:f.acts.length≤100000):ak T abi [bU f,.int day] (.map (jJ day f.acts [])):=by
 refine .of_tree rfl aim azE ?_;simp[Uz];refine aL.forRounds f.acts.length (fun k=>[.int k]) (fun k=>[.map (jJ day (f.acts.take k) [])]) ?_ (fun k hk=>?_) ?_
 ·simp[jJ]
 ·have hw:=bF hk (by omega);have hs:=axi day f.acts hk;have hlen:=ae5 day (f.acts.take k) [];rw[hs];simp at hlen;generalize jJ day (f.acts.take k) []=es at*;by_cases hc:f.acts[k].kind=7∧f.acts[k].day≤day
  ·simp[RY,De,hk,hw,hc];omega
  ·simp[RY,De,hk,hw,hc]
 ·simp[RY,De]
theorem adt {k v:D}:∀{es:List (D×D)} {e:D×D},e∈dZ k v es→e.2=v∨e∈es
 |[],e,h=>by simp[dZ] at h;exact .inl (by rw[h])
 |x::es,e,h=>by
  unfold dZ at h;split at h
  ·rcases List.mem_cons.mp h with rfl|h
   ·exact .inl rfl
   ·exact .inr (by simp[h])
  ·rcases List.mem_cons.mp h with rfl|h
   ·exact .inr (by simp)
   ·rcases adt h with h|h
    ·exact .inl h
    ·exact .inr (by simp[h])
theorem ae6 (day:Int):∀(l:List Act) (es:List (D×D)),(∀e,e∈es→e.2=.bool true)→∀e,e∈jJ day l es→e.2=.bool true
 |[],es,h,e,he=>h e he
 |a::l,es,h,e,he=>by
  refine ae6 day l (if a.kind=7∧a.day≤day then dZ (.int a.at_) (.bool true) es else es) (fun x hx=>?_) e he;split at hx
  ·rcases adt hx with h'|h'
   ·exact h'
   ·exact h x h'
  ·exact h x hx
theorem YO {k d:D}:∀{es:List (D×D)},fV k es=some d→∃e,e∈es∧e.2=d
 |x::es,h=>by
  unfold fV at h;split at h
  ·exact⟨x,by simp,by simpa using h⟩
  ·obtain⟨e,h1,h2⟩:=YO h;exact⟨e,by simp[h1],h2⟩
theorem axh (day:Int)(l:List Act)(k:D):(fV k (jJ day l [])).getD (.bool false)=.bool ((fV k (jJ day l [])).getD (.bool false)).b:=by
 cases h:fV k (jJ day l []) with
 |none=>rfl
 |some d=>
  obtain⟨e,h1,h2⟩:=YO h;have:=ae6 day l [] (fun e h=>by cases h) e h1;rw[h2] at this;rw[this];rfl
def Ll (f:File)(sign day:Int):Bool:=aG sign f.signs.length&&((fV (.int sign) (jJ day f.acts [])).getD (.bool false)).b
theorem axC (f:File)(sign day:Int)(hl:f.acts.length≤100000):ak T abh [bU f,.int sign,.int day] (.bool (Ll f sign day)):=by
 refine .of_tree rfl ail azD ?_;by_cases h1:0≤sign<;>by_cases h2:sign<f.signs.length<;>simp[Uy,h1,h2,Ll,aG];refine⟨_,axD f day hl,?_⟩;exact axh day f.acts (.int sign)
def l0 (f:File)(sign:Int)(n:Nat):Int:=(f.alters.take n).foldl (fun s a=>if a.at_≤sign then a.sum else s) f.bill.sum
theorem avN (f:File)(sign:Int)(hl:f.alters.length≤100000):ak T aag [bU f,.int sign] (.int (l0 f sign f.alters.length)):=by
 refine .of_tree rfl ahc ayv ?_;simp[To];refine aL.forRounds f.alters.length (fun k=>[.int (l0 f sign k),.int k]) (fun k=>[]) ?_ (fun k hk=>?_) ?_
 ·simp[l0]
 ·have hw:=bF hk (by omega);have hs:l0 f sign (k+1)=if f.alters[k].at_≤sign then f.alters[k].sum else l0 f sign k:=by
   unfold l0;rw[List.take_succ_eq_append_getElem hk,List.foldl_append];rfl
  rw[hs];generalize l0 f sign k=s at*;by_cases hc:f.alters[k].at_≤sign<;>simp[aeh,KK,hk,hw,hc]
 ·simp[aeh,KK]
end Rm
namespace Rm
open Go Go.Proofs Cx
theorem xr (r:Realm)(c:Int):ak T aa2 [aX r,.int c] (.bool (aG c r.cities.length)):=by
 refine .of_tree rfl ah3 azm ?_;by_cases h1:0≤c<;>by_cases h2:c<r.cities.length<;>simp[Ui,h1,h2,aG]
def dO (n:Int):Bool:=decide (0≤n)&&decide (n≤100000)
theorem rU (n:Int):ak T Hn [.int n] (.bool (dO n)):=by
 refine .of_tree rfl ah4 azn ?_;by_cases h1:0≤n<;>by_cases h2:n≤100000<;>simp[Uj,h1,h2,dO]
theorem DK (n:Int):ak T ZX [.int n] (.bool (dO n)):=by
 refine .of_tree rfl agR aya ?_;by_cases h1:0≤n<;>by_cases h2:n≤100000<;>simp[SZ,h1,h2,dO]
def yI (t:Tenor):Bool:=decide (t.kind=0)||decide (t.kind=1)
theorem yY (t:Tenor):ak T aa1 [mj t] (.bool (yI t)):=by
 refine .of_tree rfl ah2 azl ?_;by_cases h1:t.kind=0<;>simp[Uh,h1,yI]
theorem abr (y m d:Int):∃n:Int,ak T PH [.int y,.int m,.int d] (.int n):=by
 by_cases h:m<3
 ·refine⟨?w,?h⟩
  case h=>
   refine ak.of_tree (d:=.int ?w) rfl Vo aff ?_;simp[Ly,h];exact rfl
 ·refine⟨?v,?g⟩
  case g=>
   refine ak.of_tree (d:=.int ?v) rfl Vo aff ?_;simp[Ly,h];exact rfl
noncomputable def Cd (y m d:Int):Int:=(abr y m d).choose
theorem Hs (y m d:Int):ak T PH [.int y,.int m,.int d] (.int (Cd y m d)):=(abr y m d).choose_spec
noncomputable def xx (y m:Int):Int:=if m=12 then 31 else IntKind.i64.wrap (Cd y (IntKind.i64.wrap (m+1)) 1-Cd y m 1)
theorem Ha (y m:Int):ak T ZV [.int y,.int m] (.int (xx y m)):=by
 refine .of_tree rfl agP ax8 ?_;unfold xx;by_cases h:m=12
 ·simp[Lx,h]
 ·simp[Lx,h];refine⟨_,Hs _ _ _,_,Hs _ _ _,?_⟩;simp
theorem afF (y m d:Int):∃n e:Int,ak T ZQ [.int y,.int m,.int d] (.tup [.int n,.int e])∧(e=0→0≤n∧n≤100000):=by
 by_cases h0:(((2000≤y∧y≤2300)∧1≤m)∧m≤12)∧1≤d
 ·by_cases h2:d≤xx y m
  ·cases h1:dO (Cd y m d)
   ·refine⟨0,3,.of_tree rfl D1 Lw ?_,by simp⟩;simp[yN];rw[if_pos h0];refine⟨_,Ha y m,?_⟩;simp[h0,h2];refine⟨_,Hs _ _ _,_,DK _,?_⟩;simp[h1]
   ·refine⟨Cd y m d,0,.of_tree rfl D1 Lw ?_,fun _=>by simpa [dO] using h1⟩;simp[yN];rw[if_pos h0];exact⟨_,Ha y m,⟨h0,h2⟩,_,Hs _ _ _,_,DK _,h1,rfl⟩
  ·refine⟨0,3,.of_tree rfl D1 Lw ?_,by simp⟩;simp[yN];rw[if_pos h0];refine⟨_,Ha y m,?_⟩;simp[h0,h2]
 ·refine⟨0,3,.of_tree rfl D1 Lw ?_,by simp⟩;simp[yN];rw[if_neg h0];intro a1 a2 a3 a4 a5;exact absurd ⟨⟨⟨⟨a1,a2⟩,a3⟩,a4⟩,a5⟩ h0
theorem U5 (r:Realm)(fr to:Int)(hl:r.usances.length≤100000):∃n e:Int,ak T Hm [aX r,.int fr,.int to] (.tup [.int n,.int e])∧(e=0→∃u,u∈r.usances∧n=u.days)∧(e=0↔∃u,u∈r.usances∧u.fr=fr∧u.to=to):=by
 let p:Usance→Bool:=fun u=>decide (u.fr=fr)&&decide (u.to=to)
 refine⟨match r.usances.find? p with|some u=>u.days|none=>0,match r.usances.find? p with|some u=>0|none=>4,?_,?_⟩
 ·refine .of_tree rfl Vr afi ?_;simp[LD];refine aL.scan r.usances.length (fun k=>p (r.usances.getD k default)=false) (fun k=>[.int 0,.int 0,.int k]) (fun _=>[]) ?_ (fun k hk hj au=>?_) (fun k hk hj au=>?_) (fun hj=>?_)
  ·simp
  ·have hw:=bF hk (by omega);have hn:¬(r.usances[k].fr=fr∧r.usances[k].to=to):=by simpa [p,hk] using au
   simp[yx,sM,hk,hw,hn]
  ·have jn:=wD hk (by simpa [hk] using au) (fun j cg=>by have:=hj j cg;simpa [show j<r.usances.length by omega] using this);have hc:r.usances[k].fr=fr∧r.usances[k].to=to:=by simpa [p,hk] using au
   rw[jn];simp[yx,sM,hk,hc]
  ·have jn:=AL (l:=r.usances) (p:=p) (fun j cg=>by have:=hj j cg;simpa [cg] using this);rw[jn];simp[yx,sM]
 ·cases h:r.usances.find? p with
  |none=>
   refine⟨fun h=>(by cases h),fun h=>(by cases h),fun⟨u,hu,h1,h2⟩=>?_⟩;have:=List.find?_eq_none.1 h u hu;simp[p,h1,h2] at this
  |some u=>
   have h2:u.fr=fr∧u.to=to:=by simpa [p] using List.find?_some h
   exact⟨fun _=>⟨u,List.mem_of_find?_eq_some h,rfl⟩,fun _=>⟨u,List.mem_of_find?_eq_some h,h2⟩,fun _=>rfl⟩
theorem afX (r:Realm)(fr to:Int)(hl:r.usances.length≤100000):∃n e:Int,ak T Hm [aX r,.int fr,.int to] (.tup [.int n,.int e])∧(e=0→∃u,u∈r.usances∧n=u.days):=by
 obtain⟨n,e,h1,h2,_⟩:=U5 r fr to hl;exact⟨n,e,h1,h2⟩
end Rm
namespace Rm
open Go Go.Proofs Cx
theorem VR (R Y:Int)(hR:0≤R∧R<146097)(h1:365*Y≤R-R/1460+R/36524-R/146096)(h2:R-R/1460+R/36524-R/146096<365*Y+365):0≤R-(365*Y+Y/4-Y/100)∧R-(365*Y+Y/4-Y/100)≤500:=by
 have k0:R/36524≤R/1460:=by omega
 have k1:Y/4≤R/1460:=by omega
 have hY:0≤Y:=by omega
 have hc:R/36524=0∨R/36524=1∨R/36524=2∨R/36524=3∨R/36524=4:=by omega
 have k2:25*(R/36524)≤R/1460:=by omega
 refine⟨?_,?_⟩
 ·rcases Int.lt_or_le Y (100*(R/36524)) with hy|hy
  ·have k3:Y/4≤25*(R/36524)-1:=by omega
   have k4:R/36524-1≤Y/100:=by omega
   omega
  ·have k3:R/36524≤Y/100:=by omega
   omega
 ·omega
theorem VS (n:Int)(h:0≤n∧n≤100400):ak T ZS [.int n] (.tup [.int (eu n).1,.int (eu n).2.1,.int (eu n).2.2]):=by
 refine .of_tree rfl agN ax5 ?_;have w:∀x:Int,-1000000000≤x→x≤1000000000→IntKind.i64.wrap x=x:=fun x a b=>aU (by omega);have t:∀x y:Int,0≤x→x.tdiv y=x/y:=fun x y hx=>Int.tdiv_eq_ediv_of_nonneg hx;have u:∀x y:Int,0≤x→x.tmod y=x%y:=fun x y hx=>Int.tmod_eq_emod_of_nonneg hx;simp[SV];unfold eu;simp only[];rw[w (n+730425) (by omega) (by omega),u (n+730425) 146097 (by omega),t (n+730425) 146097 (by omega)];have hR:0≤(n+730425)%146097∧(n+730425)%146097<146097:=by omega
 have hE:0≤(n+730425)/146097∧(n+730425)/146097<100:=by omega
 generalize (n+730425)%146097=R at*;generalize (n+730425)/146097=e at*;rw[t R 1460 (by omega),t R 36524 (by omega),t R 146096 (by omega),w (R/1460) (by omega) (by omega),w (R-R/1460) (by omega) (by omega),w (R/36524) (by omega) (by omega),w (R-R/1460+R/36524) (by omega) (by omega),w (R/146096) (by omega) (by omega),w (R-R/1460+R/36524-R/146096) (by omega) (by omega),t (R-R/1460+R/36524-R/146096) 365 (by omega)];have hY:0≤(R-R/1460+R/36524-R/146096)/365∧(R-R/1460+R/36524-R/146096)/365<400:=by omega
 have hD:0≤R-(365*((R-R/1460+R/36524-R/146096)/365)+(R-R/1460+R/36524-R/146096)/365/4-(R-R/1460+R/36524-R/146096)/365/100)∧R-(365*((R-R/1460+R/36524-R/146096)/365)+(R-R/1460+R/36524-R/146096)/365/4-(R-R/1460+R/36524-R/146096)/365/100)≤500:=by
  exact VR R _ hR (by omega) (by omega)
 generalize (R-R/1460+R/36524-R/146096)/365=Y at*;rw[w Y (by omega) (by omega),w (365*Y) (by omega) (by omega),t Y 4 (by omega),t Y 100 (by omega),w (Y/4) (by omega) (by omega),w (Y/100) (by omega) (by omega),w (365*Y+Y/4) (by omega) (by omega),w (365*Y+Y/4-Y/100) (by omega) (by omega),w (R-(365*Y+Y/4-Y/100)) (by omega) (by omega)];generalize R-(365*Y+Y/4-Y/100)=D at*;rw[w (5*D) (by omega) (by omega),w (5*D+2) (by omega) (by omega),t (5*D+2) 153 (by omega)];have hM:0≤(5*D+2)/153∧(5*D+2)/153≤20:=by omega
 generalize (5*D+2)/153=M at*;rw[w M (by omega) (by omega),w (M+3) (by omega) (by omega),w (M+3-12) (by omega) (by omega),w e (by omega) (by omega),w (400*e) (by omega) (by omega),w (Y+400*e) (by omega) (by omega),w (Y+400*e+1) (by omega) (by omega)];rw[w (153*M) (by omega) (by omega),w (153*M+2) (by omega) (by omega),t (153*M+2) 5 (by omega),w ((153*M+2)/5) (by omega) (by omega),w (D-(153*M+2)/5) (by omega) (by omega),w (D-(153*M+2)/5+1) (by omega) (by omega)];refine⟨?_,?_,rfl⟩
 ·generalize (if 12<M+3 then M+3-12 else M+3)=m;split<;>rfl
 ·split<;>rfl
theorem afz (d n:Int):∃x e:Int,ak T ZP [.int d,.int n] (.tup [.int x,.int e])∧(e=0→0≤x∧x≤100000):=by
 by_cases h0:dO d=true∧-5000≤n∧n≤5000
 ·have hd:0≤d∧d≤100400:=by have:=h0.1;simp[dO] at this;omega
  obtain⟨A,hA⟩:∃A,A=IntKind.i64.wrap (IntKind.i64.wrap (IntKind.i64.wrap (IntKind.i64.wrap (12*(eu d).1)+(eu d).2.1)-1)+n):=⟨_,rfl⟩
  obtain⟨Y,hY⟩:∃Y,Y=IntKind.i64.wrap (A.tdiv 12):=⟨_,rfl⟩
  obtain⟨M,hM⟩:∃M,M=IntKind.i64.wrap (A.tmod 12+1):=⟨_,rfl⟩
  obtain⟨x,e,hD,hb⟩:=afF Y M (if xx Y M<(eu d).2.2 then xx Y M else(eu d).2.2);refine⟨x,e,.of_tree rfl Vn afe ?_,hb⟩;have n1:¬n< -5000:=by omega
  have n2:¬5000<n:=by omega
  simp[Lv,n1,n2];refine⟨_,DK d,?_⟩;simp[h0.1];refine⟨_,VS d hd,?_⟩;simp[←hA,←hY,←hM];refine⟨_,Ha Y M,?_⟩;by_cases hl:xx Y M<(eu d).2.2
  ·simp only[if_pos hl] at hD;simp[hl];refine⟨_,hD,?_⟩;simp
  ·simp only[if_neg hl] at hD;simp[hl];refine⟨_,hD,?_⟩;simp
 ·refine⟨0,3,.of_tree rfl Vn afe ?_,by simp⟩;simp[Lv];refine⟨_,DK d,?_⟩;simp;intro a b c;exact absurd ⟨a,b,c⟩ h0
end Rm
namespace Rm
open Go Go.Proofs Cx
theorem NJ (l:List Int)(x:Int):hasB l x=l.contains x:=by
 rw[Bool.eq_iff_iff];simp[hasB]
def Dv (c:City):Prop:=c.rest.length≤100000∧c.feasts.length≤100000∧c.shut.length≤100000
theorem alj (n:Int)(h:0≤n∧n≤100400):(0≤(eu n).2.1∧(eu n).2.1≤30)∧-1000≤(eu n).2.2∧(eu n).2.2≤1000:=by
 unfold eu;simp only[];have hR:0≤(n+730425)%146097∧(n+730425)%146097<146097:=by omega
 generalize (n+730425)%146097=R at*;have hD:=VR R ((R-R/1460+R/36524-R/146096)/365) hR (by omega) (by omega);generalize (R-R/1460+R/36524-R/146096)/365=Y at*;generalize R-(365*Y+Y/4-Y/100)=D at*;have hM:0≤(5*D+2)/153∧(5*D+2)/153≤20:=by omega
 generalize (5*D+2)/153=M at*;refine⟨?_,by omega,by omega⟩;split<;>omega
theorem avu (c:City)(hc:Dv c)(n:Int)(h:0≤n∧n≤100400):ak T ZW [fO c,.int n] (.bool (vi c.rest c.feasts c.shut n)):=by
 refine .of_tree rfl agQ ax9 ?_;simp[SY];refine⟨_,VS n h,?_⟩;have w5:IntKind.i64.wrap (n+5)=n+5:=aU (by omega);have m7:(n+5).tmod 7=(n+5)%7:=Int.tmod_eq_emod_of_nonneg (by omega);obtain⟨h1,h2,h3⟩:=hc;simp[w5,m7];refine⟨_,tC c.rest ((n+5)%7) (by omega),?_⟩;unfold vi;rw[←NJ];cases hr:hasB c.rest ((n+5)%7)
 ·obtain⟨gX,dK⟩:=alj n h;have wm:IntKind.i64.wrap (100*(eu n).2.1)=100*(eu n).2.1:=aU (by omega);have wd:IntKind.i64.wrap (100*(eu n).2.1+(eu n).2.2)=100*(eu n).2.1+(eu n).2.2:=aU (by omega);simp[hr,wm,wd];refine⟨_,tC c.feasts _ (by omega),?_⟩;have e1:=NJ c.feasts (100*(eu n).2.1+(eu n).2.2);have e2:=NJ c.shut n;simp at e1 e2;cases hf:hasB c.feasts (100*(eu n).2.1+(eu n).2.2)
  ·simp[hf,←e1,←e2];exact⟨_,tC c.shut n (by omega),rfl⟩
  ·simp[hf,←e1]
 ·simp[hr]
end Rm
namespace Rm
open Go Go.Proofs Cx
def dV (c:City)(a:Int)(k:Nat):List Int:=((List.range k).map fun(i:Nat)=>a+i).filter (vi c.rest c.feasts c.shut)
theorem VY (c:City)(a:Int)(k:Nat):dV c a (k+1)=dV c a k++if vi c.rest c.feasts c.shut (a+k) then[a+k] else[]:=by
 unfold dV;rw[List.range_succ,List.map_append,List.filter_append]
 congr 1
 cases h:vi c.rest c.feasts c.shut (a+k)<;>simp[h]
theorem alD (c:City)(a:Int){k n:Nat}(h:k≤n):∃r,dV c a n=dV c a k++r:=by
 induction n with
 |zero=>obtain rfl:k=0:=by omega
        exact⟨[],by simp⟩
 |succ n ih=>
  by_cases e:k=n+1
  ·subst e;exact⟨[],by simp⟩
  ·obtain⟨r,hr⟩:=ih (by omega);exact⟨r++_,by rw[VY,hr,List.append_assoc]⟩
def oI (d:Int):D:=.tup [.int d]
theorem alE (c:City)(a b:Int):V0 [.ref (.int a),.ref (.int b),.ref (fO c)]=(dV c a (b-a+1).toNat).map oI:=by
 have hi:∀l:List Int,uT (ints l)=l:=fun l=>by
  show(l.map D.int).map D.i=l;rw[List.map_map];exact List.map_id l
 show(VZ (uT (ints c.rest)) (uT (ints c.feasts)) (uT (ints c.shut)) a b).map _=_;rw[hi,hi,hi];rfl
theorem alB (c:City)(hc:Dv c)(a b:Int)(ha:0≤a)(hb:b≤100400)(hab:a≤100400):ak T ZU [.ref (.int a),.ref (.int b),.ref (fO c)] (.list ((dV c a (b-a+1).toNat).map oI)):=by
 have rP:=alE c a b;rw[←rP];obtain⟨N,hN⟩:∃N,N=(b-a+1).toNat:=⟨_,rfl⟩
 refine ak.of_it (pc:=Co) (J:=1000) (k:=1) rfl (fun x hx=>?_) (fun m hm=>?_)
 ·rw[rP] at hx;obtain⟨i,_,rfl⟩:=List.mem_map.1 hx;exact⟨_,rfl,rfl⟩
 ·rw[rP] at hm ⊢;rw[←hN] at hm ⊢;refine LH ?_;rw[ax6];simp[SX];refine aL.forLoop (α:=Nat) (fun k vr vo=>k≤N∧vr=[.int (a+k)]∧vo=[.list ((dV c a k).map oI)]∧(dV c a k).length≤m) (fun k=>N-k) 0 ?_ ?_
  ·simp[amJ,dV]
  ·rintro k vr vo ⟨hk,rfl,rfl,lz⟩;by_cases ah:k<N
   ·have hle:a+(k:Int)≤b:=by omega
    have fI:IntKind.i64.wrap (a+(k:Int)+1)=a+((k+1:Nat):Int):=by rw[aU (by omega)];omega
    have bB:=(avu c hc (a+k) (by omega))
    have xe:=VY c a k;obtain⟨r,hr⟩:=alD c a (k:=k+1) (n:=N) ah;simp[aeg,KJ,hle];refine⟨_,bB.yld (by decide),?_⟩;cases hi:vi c.rest c.feasts c.shut (a+k)
    ·simp[hi] at xe ⊢;exact⟨k+1,by omega,by omega,fI,by rw[xe],by rw[xe];exact lz⟩
    ·simp[hi] at xe ⊢;have hlen:(dV c a (k+1)).length=(dV c a k).length+1:=by rw[xe];simp
     have qq:(dV c a k).map oI++[D.tup [D.int (a+k)]]=(dV c a (k+1)).map oI:=by rw[xe,List.map_append];rfl
     have BN:(dV c a (k+1)).map oI=((dV c a N).map oI).take ((dV c a k).length+1):=by
      rw[hr,List.map_append,List.take_append_of_le_length (by simp[hlen]),List.take_of_length_le (by simp[hlen])]
     have aY:(dV c a k).length<((dV c a N).map oI).length:=by rw[hr];simp[hlen];omega
     rw[qq];refine⟨_,ak.answer BN aY lz,?_⟩;by_cases uD:(dV c a k).length<m
     ·simp[uD];exact⟨k+1,by omega,by omega,fI,rfl,by omega⟩
     ·obtain rfl:(dV c a k).length=m:=by omega
      simp;rw[BN]
   ·obtain rfl:k=N:=by omega
    have hle:¬a+(k:Int)≤b:=by omega
    simp[aeg,KJ,hle];rw[List.take_of_length_le (by simp;omega)]
end Rm
namespace Rm
open Go Go.Proofs Cx
theorem alF (c:City)(a b:Int):ak T ZT [fO c,.int a,.int b] (.clo ZU [.ref (.int a),.ref (.int b),.ref (fO c)]):=by
 refine .of_tree rfl agO ax7 ?_;simp[SW]
def ls (d:Int):Int:=if 100000<d+400 then 100000 else d+400
def ic (c:City)(d:Int):Int×Int:=
 if dO d=false then(0,3) else match dV c d (ls d-d+1).toNat with|[]=>(0,3)|x::_=>(x,0)
theorem alC {c:City}{a:Int}{k:Nat}{x:Int}(h:x∈dV c a k):a≤x∧x<a+k:=by
 unfold dV at h;obtain⟨h1,_⟩:=List.mem_filter.mp h;obtain⟨i,hi,rfl⟩:=List.mem_map.mp h1;have:=List.mem_range.mp hi;omega
theorem auK {c:City}{d:Int}(h:(ic c d).2=0):dO d=true∧d≤(ic c d).1∧(ic c d).1≤100000:=by
 unfold ic at h ⊢;cases hd:dO d
 ·simp[hd] at h
 ·simp only[hd] at h ⊢;cases hk:dV c d (ls d-d+1).toNat with
  |nil=>rw[hk] at h;simp at h
  |cons x l=>
   have hm:x∈dV c d (ls d-d+1).toNat:=by rw[hk];simp
   have:=alC hm;have he:ls d≤100000:=by unfold ls;split<;>omega
   simp[dO] at hd;simp;unfold ls at*;omega
theorem afS (c:City)(hc:Dv c)(d:Int):ak T ZR [fO c,.int d] (.tup [.int (ic c d).1,.int (ic c d).2]):=by
 refine .of_tree rfl agM ax4 ?_;simp[SU];refine⟨_,DK d,?_⟩;cases hd:dO d
 ·simp[ic,hd]
 have eA:0≤d∧d≤100000:=by simpa [dO] using hd
 have hw:IntKind.i64.wrap (d+400)=d+400:=aU (by omega);have he:ls d≤100000:=by unfold ls;split<;>omega
 simp[hd,hw];have hE:(if 100000<d+400 then D.int 100000 else D.int (d+400))=D.int (ls d):=by unfold ls;split<;>rfl
 rw[hE];refine⟨_,alF c d (ls d),_,_,rfl,_,alB c hc d (ls d) eA.1 (by omega) (by omega),?_⟩;cases hk:dV c d (ls d-d+1).toNat with
 |nil=>
  have hn:ic c d=(0,3):=by unfold ic;simp[hd,hk]
  rw[hn];refine aL.eachR [] (by simp) (fun _ vo=>vo=[.agg [.int 0],.agg [.int 0]]) ?_ (fun k x vo hx hi=>by simp at hx) (fun vo hi=>?_)
  ·simp
  ·subst hi;simp
 |cons x l=>
  have hn:ic c d=(x,0):=by unfold ic;simp[hd,hk]
  rw[hn];refine aL.eachR ((x::l).map oI) (by simp) (fun k vo=>k=0∧vo=[.agg [.int 0],.agg [.int 0]]) ?_ (fun k y vo hx hi=>?_) (fun vo hi=>?_)
  ·simp
  ·obtain⟨rfl,rfl⟩:=hi;simp at hx;subst hx;simp[awp,Rq,oI];rfl
  ·exact absurd hi.1 (by simp)
end Rm
namespace Rm
open Go Go.Proofs Cx
def Li (o:Int)(d:Int)(h:Halt):Int:=if(h.order=o∧h.fr≤d)∧d≤h.to then h.to+1 else d
def kJ (r:Realm)(o d:Int)(k:Nat):Int:=(r.halts.take k).foldl (Li o) d
theorem ae2 (r:Realm)(o d:Int){k:Nat}(hk:k<r.halts.length):kJ r o d (k+1)=Li o (kJ r o d k) r.halts[k]:=by
 unfold kJ;rw[List.take_succ_eq_append_getElem hk,List.foldl_append];rfl
def tD (r:Realm):Prop:=r.halts.length≤100000∧∀h,h∈r.halts→0≤h.fr∧h.to≤100000
theorem Sm {r:Realm}(hh:tD r)(o d:Int)(hd:d≤100001):∀k,k≤r.halts.length→d≤kJ r o d k∧kJ r o d k≤100001
 |0,_=>⟨by simp[kJ],by simpa [kJ] using hd⟩
 |k+1,hk=>by
  obtain⟨h1,h2⟩:=Sm hh o d hd k (by omega);rw[ae2 r o d (by omega)];have:=hh.2 _ (List.getElem_mem (show k<r.halts.length by omega));unfold Li;split<;>omega
def vN (r:Realm)(o:Int):Nat→Int→Int
 |0,d=>d
 |n+1,d=>if kJ r o d r.halts.length=d then d else vN r o n (kJ r o d r.halts.length)
def jI (r:Realm)(o d:Int):Int:=vN r o (100002-d).toNat d
theorem ae3 {r:Realm}(hh:tD r)(o:Int):∀(n:Nat) (d:Int),d≤100001→d≤vN r o n d∧vN r o n d≤100001
 |0,d,hd=>⟨Int.le_refl _,hd⟩
 |n+1,d,hd=>by
  obtain⟨h1,h2⟩:=Sm hh o d hd r.halts.length (Nat.le_refl _);unfold vN;split
  ·omega
  ·have:=ae3 hh o n _ h2;omega
theorem axd (r:Realm)(hh:tD r)(o d:Int)(h0:0≤d)(hd:d≤100001):ak T aa3 [aX r,.int o,.int d] (.int (jI r o d)):=by
 refine .of_tree rfl ah6 azp ?_;simp[Ul];refine aL.forLoop (α:=Int×Bool×Nat) (fun s vr vo=>vr=[.int s.1,.bool s.2.1]∧vo=[]∧d≤s.1∧s.1≤100001∧(s.2.1=true→(100002-s.1).toNat≤s.2.2)∧(s.2.1=true→vN r o s.2.2 s.1=jI r o d)∧(s.2.1=false→s.1=jI r o d)) (fun s=>2*(100001-s.1).toNat+(if s.2.1 then 1 else 0)) (d,true,(100002-d).toNat) ?_ ?_
 ·simp;exact⟨by omega,rfl⟩
 ·rintro⟨e,ch,n⟩ vr vo ⟨rfl,rfl,h1,h2,h3,h4,h5⟩;simp only at*;cases ch
  ·simp[aet,KZ];exact h5 rfl
  ·have h3:=h3 rfl;have h4:=h4 rfl;obtain⟨n,rfl⟩:∃m,n=m+1:=⟨n-1,by omega⟩
   have bx:=Sm hh o e h2;simp[aet,KZ];refine aL.forRounds r.halts.length (fun k=>[.int (kJ r o e k),.bool (decide (e<kJ r o e k)),.int k]) (fun _=>[]) ?_ (fun k hk=>?_) ?_
   ·simp[kJ]
   ·have hw:=bF hk (by have:=hh.1;omega);have cl:=bx k (by omega);have uM:=hh.2 _ (List.getElem_mem hk);rw[ae2 r o e hk];unfold Li;generalize kJ r o e k=x at*;by_cases hc:(r.halts[k].order=o∧r.halts[k].fr≤x)∧x≤r.halts[k].to
    ·have dY:IntKind.i64.wrap (r.halts[k].to+1)=r.halts[k].to+1:=aU (by omega);simp[KY,yA,hk,hw,hc,dY];omega
    ·simp[KY,yA,hk,hw,hc]
   ·have hE:=bx r.halts.length (Nat.le_refl _);unfold vN at h4;generalize kJ r o e r.halts.length=x at*;by_cases hx:x=e
    ·rw[if_pos hx] at h4;subst hx;simp[KY,yA];exact⟨x,by omega,rfl,h1,h2,h4⟩
    ·rw[if_neg hx] at h4;have ah:e<x:=by omega
     simp[KY,yA,ah];exact⟨x,by omega,rfl,by omega,by omega,n,by omega,h4⟩
def vJ (r:Realm)(c:City)(o:Int):Nat→Int→Int×Int
 |0,d=>(d,0)
 |n+1,d=>
  if(ic c (jI r o d)).2≠0 then(0,3)
  else if(ic c (jI r o d)).1=jI r o d then(jI r o d,0)
  else vJ r c o n (ic c (jI r o d)).1
theorem aw7 (r:Realm)(c:City)(o:Int)(n:Nat)(d:Int):vJ r c o (n+1) d=
 if(ic c (jI r o d)).2≠0 then(0,3)
 else if(ic c (jI r o d)).1=jI r o d then(jI r o d,0)
 else vJ r c o n (ic c (jI r o d)).1:=rfl
def pM (r:Realm)(city d:Int):Int×Int:=vJ r (r.cities.getD city.toNat default) (fu r city) (100002-d).toNat d
theorem Sg (r:Realm)(hh:tD r)(city d:Int)(hc:0≤city∧city<r.cities.length)(hs:∀c,c∈r.cities→Dv c)(h0:0≤d)(hd:d≤100001):ak T Ho [aX r,.int city,.int d] (.tup [.int (pM r city d).1,.int (pM r city d).2]):=by
 refine .of_tree rfl ah5 azo ?_;simp[Uk];refine⟨_,oe r city,?_⟩;have aY:city.toNat<r.cities.length:=by omega
 have hcg:r.cities.getD city.toNat default=r.cities[city.toNat]:=by simp[aY]
 have hsc:=hs _ (List.getElem_mem aY);have hF:pM r city d=vJ r r.cities[city.toNat] (fu r city) (100002-d).toNat d:=by unfold pM;rw[hcg]
 rw[hF];refine aL.forLoop (α:=Int×Nat) (fun s vr vo=>(∃a b,vr=[.int s.1,a,b])∧vo=[]∧0≤s.1∧s.1≤100001∧(100002-s.1).toNat≤s.2∧vJ r r.cities[city.toNat] (fu r city) s.2 s.1=vJ r r.cities[city.toNat] (fu r city) (100002-d).toNat d) (fun s=>s.2) (d,(100002-d).toNat) ?_ ?_
 ·simp;omega
 ·rintro⟨e,n⟩ vr vo ⟨⟨a,b,rfl⟩,rfl,h1,h2,h3,h4⟩;simp only at*;obtain⟨n,rfl⟩:∃m,n=m+1:=⟨n-1,by omega⟩
  rw[←h4];have GX:=ae3 hh (fu r city) (100002-e).toNat e h2;have hsr:=axd r hh (fu r city) e h1 h2;rw[aw7];change e≤jI r (fu r city) e∧jI r (fu r city) e≤100001 at GX;generalize jI r (fu r city) e=x at*;have Ok:=afS r.cities[city.toNat] hsc x;have oT:=auK (c:=r.cities[city.toNat]) (d:=x);generalize ic r.cities[city.toNat] x=N at*;obtain⟨y,er⟩:=N;simp only at Ok oT;simp[awu,RU];refine⟨_,hsr,?_⟩;simp[aY,hc];refine⟨_,Ok,?_⟩;by_cases he:er=0
  ·obtain⟨g1,g2,g3⟩:=oT he;by_cases hy:y=x
   ·simp[he,hy]
   ·simp[he,hy];exact⟨y,n,by omega,rfl,by omega,by omega,by omega,rfl⟩
  ·simp[he]
end Rm
