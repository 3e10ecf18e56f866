/-
  Regions: in the order of the text, and in every order that their edges allow.
-/
import Derived.Test.YtepfoekldooaeaaGreatDoorKAG
import Derived.Orders
set_option linter.unusedSimpArgs false
set_option linter.unusedVariables false
namespace Cx
open Go Go.RowKit
def ki (S:St):Sh→Sh
 |.opt gs s=>.opt gs (eV S s)
 |s=>eV S s
def St.snapO (n:Nat)(ids:List Nat)(S:St):Snap:=⟨(List.range n).map fun t=>ki S (S.r t),ids.map fun j=>gD S (S.o j)⟩
def Snap.stO (ids:List Nat)(s:Snap):St:=⟨fun t=>s.rs.getD t .none,fun j=>db ids s.os j,fun _=>0⟩
theorem rJ (S:St)(s:Sh):∀gs s',eV S s≠.opt gs s':=by
 intro gs s' e;cases s<;>simp only[eV] at e<;>first|cases e|(revert e;cases Nat.beq _ _<;>intro e<;>cases e)|(revert e;cases List.all _ _<;>intro e<;>cases e)
section
variable {C:Ctx} {S:St} {ρ:Env} {σ:Im} {own:Nat→Option Nat} {hv:Nat→Value} {w0:World} {σ0:Base} {A:Nat→Prop} {a:Act} {w:World} {n:Nat} {ids:List Nat} {Φ:aS}
theorem aw3 {s:Sh}{v:Value}{d:D}(h:aJ C S ρ σ hv s v d){T:St}(hT:T.ver=fun _=>0):aJ C T ρ σ hv (ki S s) v d:=by
 have hc:Compat S.norm hv T hv:=⟨fun j=>by rw[hT];exact Nat.zero_le _,fun _ _=>rfl⟩
 have key:∀s,aJ C S ρ σ hv s v d→aJ C T ρ σ hv (eV S s) v d:=fun s hs=>aJ.mono' (.refl σ) hc (rJ S s) (Ip hs).1;cases s with
 |opt gs s=>exact⟨fun hh=>key s (h.1 hh),h.2⟩
 |_=>exact key _ h
theorem Good.snapO (h:Good C w0 σ0 S ρ A a w)(n:Nat)(ids:List Nat):Good C w0 σ0 ((S.snapO n ids).stO ids) ρ A a w:=by
 obtain⟨σ,own,hv,h⟩:=h;have h1:=h.norm;have hc:Compat S.norm hv ((S.snapO n ids).stO ids) hv:=⟨fun _=>Nat.le_refl _,fun _ _=>rfl⟩
 refine⟨σ,own,hv,h.defers,h.ok,h.le,h.old,h.newc,h.newm,h.below,h.bw,h.owns,fun t=>?_,fun j=>?_,fun t gs s e=>?_,?_⟩
 rotate_right
 ·obtain⟨t,fx,cx,f1,f5⟩:=h.frame;refine⟨t,fx,cx,f1,fun j hj=>f5 j ?_⟩;exact vR (fun j=>gD S (S.o j)) (fun ob=>ob=.tr→S.o j=.tr) (fun e=>by cases e) j acU ids hj
 ·show aJ C _ ρ σ hv (((List.range n).map fun t=>ki S (S.r t)).getD t .none) _ _;rw[List.getD_eq_getElem?_getD,List.getElem?_map];by_cases ht:t<n
  ·rw[List.getElem?_range ht];exact aw3 (h.regs t) rfl
  ·rw[List.getElem?_eq_none (by simpa using ht)];trivial
 ·have ho:=(h1.objs j).mono (.refl σ) hc (w:=w) (w':=w) rfl rfl (fun k hk=>⟨hk,rfl⟩);exact vR (fun j=>gD S (S.o j)) (fun ob=>cg C _ ρ σ own hv w w0.heap.size j ob) trivial j ho ids
 ·change ((List.range n).map fun t=>ki S (S.r t)).getD t .none=.opt gs s at e;rw[List.getD_eq_getElem?_getD,List.getElem?_map] at e;by_cases ht:t<n
  ·rw[List.getElem?_range ht] at e;simp only[Option.map_some,Option.getD_some] at e;cases hs:S.r t with
   |opt bB s'=>
    rw[hs] at e;simp only[ki,Sh.opt.injEq] at e;obtain⟨rfl,rfl⟩:=e;exact⟨(h.opts t bB s' hs).1,rJ S s'⟩
   |none=>rw[hs] at e;exact absurd e (rJ S .none gs s)
   |yv=>rw[hs] at e;exact absurd e (rJ S .yv gs s)
   |fclo f c=>rw[hs] at e;exact absurd e (rJ S (.fclo f c) gs s)
   |dat t=>rw[hs] at e;exact absurd e (rJ S (.dat t) gs s)
   |obj t u=>rw[hs] at e;exact absurd e (rJ S (.obj t u) gs s)
   |ptr t u v=>rw[hs] at e;exact absurd e (rJ S (.ptr t u v) gs s)
   |eptr t u v x=>rw[hs] at e;exact absurd e (rJ S (.eptr t u v x) gs s)
  ·rw[List.getElem?_eq_none (by simpa using ht)] at e;cases e
theorem Good.snapF (h:Good C w0 σ0 S ρ A a w)(n:Nat)(ids:List Nat):Good C w0 σ0 ((S.snap n ids).st ids) ρ (fun _=>False) a w:=by
 obtain⟨σ,own,hv,h⟩:=h;exact⟨σ,own,hv,h.snap n ids⟩
theorem Good.drew (h:Good C w0 σ0 S ρ A a w):Good C w0 σ0 S ρ A a {w with drawn:=w.drawn+1}:=by
 obtain⟨σ,own,hv,h⟩:=h;refine⟨σ,own,hv,h.defers,⟨fun k o v e=>h.ok.c k o v e,fun k es e=>h.ok.m k es e⟩,h.le,h.old,h.newc,h.newm,h.below.drew,h.bw,h.owns,h.regs,fun j=>?_,h.opts,?_⟩
 rotate_right
 ·obtain⟨t,fx,cx,f1,f2⟩:=h.frame;exact⟨t,fx,cx,⟨σ0.keep _ _ _ _ _ f1.F (Below.drew (.refl _ _)) (fun _ _=>rfl),f1.own,f1.c,f1.m,f1.d⟩,f2⟩
 exact(h.objs j).mono (.refl σ) (.refl S hv) rfl rfl (fun k hk=>⟨hk,rfl⟩)
end
def ug (g:Sh→Sh)(S:St)(rs:List Sh)(ds:List Nat):List Sh:=(ds.foldl (fun l d=>l.set d (S.r d)) rs).map g
theorem XU (S:St):∀(ds:List Nat) (rs:List Sh),(ds.foldl (fun l d=>l.set d (S.r d)) rs).length=rs.length∧∀t,t<rs.length→(ds.foldl (fun l d=>l.set d (S.r d)) rs).getD t .none=if t∈ds then S.r t else rs.getD t .none
 |[],rs=>⟨rfl,fun t _=>by simp⟩
 |d::ds,rs=>by
  obtain⟨h1,h2⟩:=XU S ds (rs.set d (S.r d));simp only[List.length_set] at h1 h2;refine⟨h1,fun t ht=>?_⟩;rw[List.foldl_cons,h2 t ht];simp only[List.mem_cons,List.getD_eq_getElem?_getD,List.getElem?_set];by_cases hm:t∈ds
  ·simp[hm]
  ·by_cases e:d=t
   ·subst e;simp[hm,ht]
   ·have e':¬t=d:=fun h=>e h.symm;simp[hm,e,e']
theorem Ej {g:Sh→Sh}{S:St}{rs:List Sh}{ds:List Nat}(h:∀t,t∉ds→g (rs.getD t .none)=g (S.r t)):ug g S rs ds=(List.range rs.length).map fun t=>g (S.r t):=by
 obtain⟨h1,h2⟩:=XU S ds rs;unfold ug;apply List.ext_getElem?;intro t;simp only[List.getElem?_map];by_cases ht:t<rs.length
 ·have:=h2 t ht;rw[List.getD_eq_getElem?_getD,List.getElem?_eq_getElem (by omega)] at this;rw[List.getElem?_eq_getElem (by omega),List.getElem?_range ht];simp only[Option.getD_some,Option.map_some] at this ⊢;rw[this];by_cases hm:t∈ds
  ·simp[hm]
  ·simp only[hm,if_false];rw[h t hm]
 ·rw[List.getElem?_eq_none (by omega),List.getElem?_eq_none (by simpa using ht)];rfl
def CE (E:Nat)(T:Snap):List (Nat×Snap)→Option (List (Nat×Snap))
 |[]=>some [(E,T)]
 |x::l=>bif Nat.beq x.1 E then(bif x.2.beq T then some (x::l) else none) else(CE E T l).map (x::·)
def nP (ops:Array Oper)(E:Nat):List Nat:=
 (List.range ops.size).filter fun i=> !ar E i&&(match ops[i]? with|some o=>o.after.toList.all fun e=> !Region.binds .any e||ar E e.on|none=>false)
def Ry (C:Ctx)(ops:Array Oper)(n:Nat)(ids:List Nat)(X:List (List PI))(nc:List (List Nat))(E:Nat)(T:Snap)(i:Nat):Option (Nat×Snap):=
 match ops[i]? with
 |some o=>(oa C (T.stO ids) ops o).bind fun r=>
  bif PI.beqs r.2 (X.getD i [])&&(nc.getD i []).all (ar E) then some (Nat.lor E (dA i),⟨ug (ki r.1) r.1 T.rs o.dst.toList,ids.map fun j=>gD r.1 (r.1.o j)⟩) else none
 |none=>none
def El (one:Nat→Option (Nat×Snap)):List Nat→List (Nat×Snap)→Option (List (Nat×Snap))
 |[],acc=>some acc
 |i::l,acc=>(one i).bind fun x=>(CE x.1 x.2 acc).bind fun acc=>El one l acc
def CK (ops:Array Oper)(one:Nat→Snap→Nat→Option (Nat×Snap)):List (Nat×Snap)→List (Nat×Snap)→Option (List (Nat×Snap))
 |[],acc=>some acc
 |x::l,acc=>
  match nP ops x.1 with
  |[]=>none
  |rs=>(El (one x.1 x.2) rs acc).bind fun acc=>CK ops one l acc
def Ef (ops:Array Oper)(one:Nat→Snap→Nat→Option (Nat×Snap)):Nat→List (Nat×Snap)→Option Snap
 |0,L=>
  match L with
  |[x]=>bif (List.range ops.size).all (ar x.1) then some x.2 else none
  |_=>none
 |k+1,L=>(CK ops one L []).bind fun L=>Ef ops one k L
theorem ZL {E:Nat}{T:Snap}:∀{l l':List (Nat×Snap)},CE E T l=some l'→(E,T)∈l'∧∀x,x∈l→x∈l'
 |[],l',h=>by simp only[CE,Option.some.injEq] at h;subst h;simp
 |x::l,l',h=>by
  simp only[CE] at h;cases hb:Nat.beq x.1 E<;>simp only[hb,cond_true,cond_false] at h
  ·simp only[Option.map_eq_some_iff] at h;obtain⟨l2,h2,rfl⟩:=h;obtain⟨h3,h4⟩:=ZL h2;exact⟨List.mem_cons_of_mem _ h3,fun y hy=>(List.mem_cons.1 hy).elim (fun e=>e▸List.mem_cons_self ..) fun hm=>List.mem_cons_of_mem _ (h4 y hm)⟩
  ·cases hs:x.2.beq T<;>simp only[hs,cond_true,cond_false] at h
   ·cases h
   ·cases h;refine⟨?_,fun y hy=>hy⟩;have e1:=cK hb;have e2:=Snap.beq_eq _ _ hs;subst e1;subst e2;simp
theorem agx {one:Nat→Option (Nat×Snap)}:∀{rs:List Nat} {acc zQ:List (Nat×Snap)},El one rs acc=some zQ→(∀x,x∈acc→x∈zQ)∧∀i,i∈rs→∃x,one i=some x∧x∈zQ
 |[],acc,zQ,h=>by simp only[El,Option.some.injEq] at h;subst h;simp
 |i::rs,acc,zQ,h=>by
  simp only[El,Option.bind_eq_some_iff] at h;obtain⟨x,hx,ahr,h1,h2⟩:=h;obtain⟨h3,h4⟩:=ZL h1;obtain⟨h5,h6⟩:=agx h2;refine⟨fun y hy=>h5 y (h4 y hy),fun j hj=>?_⟩;rcases List.mem_cons.1 hj with e|hm
  ·subst e;exact⟨x,hx,h5 _ h3⟩
  ·exact h6 j hm
theorem aab {ops:Array Oper}{one:Nat→Snap→Nat→Option (Nat×Snap)}:∀{L acc L':List (Nat×Snap)},CK ops one L acc=some L'→
 (∀x,x∈acc→x∈L')∧∀x,x∈L→nP ops x.1≠[]∧∀i,i∈nP ops x.1→∃y,one x.1 x.2 i=some y∧y∈L'
 |[],acc,L',h=>by simp only[CK,Option.some.injEq] at h;subst h;simp
 |x::L,acc,L',h=>by
  simp only[CK] at h;split at h
  ·cases h
  ·rename_i aE;simp only[Option.bind_eq_some_iff] at h;obtain⟨ahr,h1,h2⟩:=h;obtain⟨h3,h4⟩:=agx h1;obtain⟨h5,h6⟩:=aab h2;refine⟨fun y hy=>h5 y (h3 y hy),fun y hy=>?_⟩;rcases List.mem_cons.1 hy with e|hm
   ·subst e;refine⟨fun e=>aE e,fun i hi=>?_⟩;obtain⟨z,hz,hm⟩:=h4 i hi;exact⟨z,hz,h5 z hm⟩
   ·exact h6 y hm
def ec (X:List (List PI))(l:List Nat)(E:Nat):List PI:=l.flatMap fun i=>bif ar E i then[] else X.getD i []
theorem Ta {X:List (List PI)}{E E':Nat}:∀(l:List Nat),(∀i,i∈l→ar E i=ar E' i)→ec X l E=ec X l E'
 |[],_=>rfl
 |i::l,h=>by
  have ih:=Ta (X:=X) l fun j hj=>h j (List.mem_cons_of_mem _ hj);unfold ec at ih ⊢;simp only[List.flatMap_cons];rw[ih,h i (List.mem_cons_self ..)]
theorem Foot.comm_each {a b:List PI}(h:(gu a).comm (gu b)=true):∀p q,p∈a→q∈b→Comm p q:=by
 simp only[Foot.comm,Bool.and_eq_true] at h;obtain⟨h1,h2,h3,h4,h5,h6⟩:=h;intro p q hp hq;obtain⟨p1,p2,p3,p4⟩:=XV hp;obtain⟨q1,q2,q3,q4⟩:=XV hq;exact⟨fun t x y=>Qo h1 (p1 t x) (q1 t y),fun t x y=>Qo h2 (p1 t x) (q3 t y),fun t x y=>Qo h3 (q1 t x) (p3 t y),fun t x y=>Nb h4 (p2 t x) (q2 t y),fun t x y=>Nb h5 (p2 t x) (q4 t y),fun t x y=>Nb h6 (q2 t x) (p4 t y)⟩
def oN (X:List (List PI))(N:Nat):List (List Nat):=
 (List.range N).map fun i=>(List.range i).filter fun j=> !(gu (X.getD j [])).comm (gu (X.getD i []))
theorem gY (E i j:Nat):ar (Nat.lor E (dA i)) j=(ar E j||Nat.beq i j):=by
 rw[eK]
 congr 1
 rw[qP];show(1<<<i).testBit j=_;rw[Nat.testBit_shiftLeft];by_cases h:i=j
 ·subst h;simp
 ·have h1:Nat.beq i j=false:=ez h;rw[h1];by_cases h2:i≤j
  ·have:j-i≠0:=by omega
   cases hk:j-i with
   |zero=>omega
   |succ k=>
    have:(1:Nat).testBit (k+1)=false:=by simp[Nat.testBit_succ]
    simp[this]
  ·simp[h2]
theorem af4 {X:List (List PI)}{N E i:Nat}(hi:i<N)(hb:ar E i=false)(dg:((oN X N).getD i []).all (ar E)=true)(Φ:aS)(ρ:Env):
 PI.runs Φ (ec X (List.range N) E) ρ=(PI.runs Φ (X.getD i []) ρ).bind (PI.runs Φ (ec X (List.range N) (Nat.lor E (dA i)))):=by
 obtain⟨l1,l2,hl⟩:=List.append_of_mem (List.mem_range.2 hi);have hp:=List.pairwise_lt_range (n:=N);rw[hl,List.pairwise_append] at hp;obtain⟨_,eR,hp3⟩:=hp;rw[List.pairwise_cons] at eR;have lt1:∀j,j∈l1→j<i:=fun j hj=>hp3 j hj i (List.mem_cons_self ..);have lt2:∀j,j∈l2→i<j:=fun j hj=>eR.1 j hj;have e0:∀E,ec X (l1++i::l2) E=ec X l1 E++((bif ar E i then[] else X.getD i [])++ec X l2 E):=fun E=>by simp[ec]
 have e1:ec X l1 (Nat.lor E (dA i))=ec X l1 E:=Ta l1 fun j hj=>by
  rw[gY,ez (by have:=lt1 j hj;omega),Bool.or_false]
 have e2:ec X l2 (Nat.lor E (dA i))=ec X l2 E:=Ta l2 fun j hj=>by
  rw[gY,ez (by have:=lt2 j hj;omega),Bool.or_false]
 have e3:ar (Nat.lor E (dA i)) i=true:=by rw[gY,Nat.beq_refl,Bool.or_true]
 rw[hl,e0,e0,e1,e2,e3,hb];simp only[cond_true,cond_false,List.nil_append]
 have asH:PI.runs Φ (ec X l1 E++X.getD i [])=PI.runs Φ (X.getD i []++ec X l1 E):=funext fun ρ=>PI.comms _ _ (fun p q hp hq=>by
  unfold ec at hp;obtain⟨j,hj,hp⟩:=List.mem_flatMap.1 hp;cases oy:ar E j<;>simp only[oy,cond_true,cond_false] at hp
  case true=>cases hp
  have hc:(gu (X.getD j [])).comm (gu (X.getD i []))=true:=by
   cases gQ:(gu (X.getD j [])).comm (gu (X.getD i [])) with
   |true=>rfl
   |false=>
    have sQ:(oN X N).getD i []=(List.range i).filter fun j=> !(gu (X.getD j [])).comm (gu (X.getD i [])):=by
     unfold oN;rw[List.getD_eq_getElem?_getD,List.getElem?_map,List.getElem?_range hi];rfl
    rw[sQ] at dg;have:=List.all_eq_true.1 dg j (List.mem_filter.2 ⟨List.mem_range.2 (lt1 j hj),by rw[gQ];rfl⟩);rw[oy] at this;cases this
  exact Foot.comm_each hc p q hp hq) ρ
 rw[←List.append_assoc,nQ,asH];have:=nQ (Φ:=Φ) (a:=X.getD i []) (b:=ec X l1 E) (ρ:=ρ);rw[this,Option.bind_assoc]
 congr 1
 funext ρ1;rw[nQ]
def mU (C:Ctx)(ops:Array Oper):List Nat→St→Option (List (List PI))
 |[],_=>some []
 |i::l,S=>
  match ops[i]? with
  |some o=>(oa C S ops o).bind fun r=>(mU C ops l r.1).map fun q=>r.2::q
  |none=>none
def X2 (ops:Array Oper):Bool:=(List.range ops.size).all fun i=>match ops[i]? with
 |some o=>(match o.guard with|some (j,_)=>Nat.blt j i|none=>true)
 |none=>true
def BI (ops:Array Oper):Bool:=ops.toList.all fun o=>match o.guard with
 |some (j,_)=>o.after.toList.any fun e=>Region.binds .any e&&Nat.beq e.on j
 |none=>true
def bq:Operand→List Nat
 |.tmp t=>[t]
 |_=>[]
def zu:Option Operand→List Nat
 |some x=>bq x
 |none=>[]
def kL:Op→List Nat
 |.move x=>bq x
 |.assign x=>bq x
 |.unOp _ _ x=>bq x
 |.convert _ _ x=>bq x
 |.load _ x=>bq x
 |.fieldAddr _ x _=>bq x
 |.field _ x _=>bq x
 |.extract x _=>bq x
 |.nilCheck x=>bq x
 |.pick c x y=>bq c++bq x++bq y
 |.binOp _ _ x y _=>bq x++bq y
 |.indexAddr _ x i=>bq x++bq i
 |.index _ x i=>bq x++bq i
 |.lookup _ m k _=>bq m++bq k
 |.slice _ x lo hi _=>bq x++zu lo++zu hi
 |.build _ ps=>ps.toList.flatMap fun p=>bq p.2
 |.call c=>(match c.callee with|.value x=>bq x|_=>[])++c.args.toList.flatMap bq
 |.store _ x v=>bq x++bq v
 |.mapUpdate _ m k v=>bq m++bq k++bq v
 |_=>[]
def GZ (ops:Array Oper)(o:Oper):List Nat:=
 match o.guard with
 |some (j,_)=>(match(ops[j]?).bind (·.dst) with|some t=>[t]|none=>[])
 |none=>[]
def St.withR (S:St)(f:Nat→Sh):St:=⟨f,S.o,S.ver⟩
section
variable {C:Ctx} {S:St} {f:Nat→Sh} {gs:List (Nat×Bool)} {dst:Nat}
theorem zo {t:Nat}(h:f t=S.r t):kr (S.withR f) gs t=kr S gs t:=by
 have e:(S.withR f).r t=S.r t:=h;unfold kr;rw[e]
theorem uf {x:Operand}(h:∀t,t∈bq x→f t=S.r t):fV (S.withR f) gs x=fV S gs x:=by
 cases x<;>first|rfl|exact zo (h _ (List.mem_singleton.2 rfl))
theorem dJ {x:Operand}(h:∀t,t∈bq x→f t=S.r t):use C (S.withR f) gs x=use C S gs x:=by
 cases x<;>first|rfl|(unfold use;simp only;rw[zo (h _ (List.mem_singleton.2 rfl))];rfl)
theorem agU {x:Operand}(h:∀t,t∈bq x→f t=S.r t):view C (S.withR f) gs x=view C S gs x:=by
 unfold view;rw[dJ h];cases x<;>first|rfl|(simp only;rw[zo (h _ (List.mem_singleton.2 rfl))];rfl)
theorem VV:∀{xs:List Operand},(∀t,t∈xs.flatMap bq→f t=S.r t)→kU C (S.withR f) gs xs=kU C S gs xs
 |[],_=>rfl
 |x::xs,h=>by
  simp only[kU]
  rw[dJ fun t ht=>h t (List.mem_flatMap.2 ⟨x,List.mem_cons_self ..,ht⟩),VV fun t ht=>by
   obtain⟨y,hy,mI⟩:=List.mem_flatMap.1 ht;exact h t (List.mem_flatMap.2 ⟨y,List.mem_cons_of_mem _ hy,mI⟩)]
theorem aCd {x:Option Operand}(h:∀t,t∈zu x→f t=S.r t):Ew C (S.withR f) gs x=Ew C S gs x:=by
 cases x with
 |none=>rfl
 |some x=>exact dJ h
theorem aCb {e:PE}{x:Option Operand}(h:∀t,t∈zu x→f t=S.r t):Ev C (S.withR f) gs e x=Ev C S gs e x:=by
 cases x with
 |none=>rfl
 |some x=>exact dJ h
theorem qp:∀{xs:List Operand},(∀t,t∈xs.flatMap bq→f t=S.r t)→cl (S.withR f) gs xs=cl S gs xs
 |[],_=>rfl
 |x::xs,h=>by
  simp only[cl]
  rw[uf fun t ht=>h t (List.mem_flatMap.2 ⟨x,List.mem_cons_self ..,ht⟩),qp fun t ht=>by
   obtain⟨y,hy,mI⟩:=List.mem_flatMap.1 ht;exact h t (List.mem_flatMap.2 ⟨y,List.mem_cons_of_mem _ hy,mI⟩)]
  rfl
theorem WV:∀(l:List Sh) (j i:Nat),qT (S.withR f) j l i=qT S j l i
 |[],_,_=>rfl
 |s::l,j,i=>by simp only[qT];rw[WV l j (i+1)];rfl
theorem iz {P:Nat→Prop}{a b:List Nat}(h:∀t,t∈a++b→P t):(∀t,t∈a→P t)∧∀t,t∈b→P t:=
 ⟨fun t ht=>h t (List.mem_append_left _ ht),fun t ht=>h t (List.mem_append_right _ ht)⟩
theorem aeC {x:Operand}(h:∀t,t∈bq x→f t=S.r t):oP C (S.withR f) gs dst x=oP C S gs dst x:=by
 unfold oP;rw[dJ h];cases x<;>first|rfl|(simp only;rw[zo (h _ (List.mem_singleton.2 rfl))])
theorem axC {c x y:Operand}(h:∀t,t∈bq c++bq x++bq y→f t=S.r t):yP C (S.withR f) gs dst c x y=yP C S gs dst c x y:=by
 obtain⟨h1,h3⟩:=iz h;obtain⟨h1,h2⟩:=iz h1;unfold yP;cases c<;>first|rfl|skip
 simp only;rw[zo (h1 _ (List.mem_singleton.2 rfl)),dJ h2,dJ h3]
theorem axd {op:BinOp}{T:TypeId}{x y:Operand}(h:∀t,t∈bq x++bq y→f t=S.r t):yE C (S.withR f) gs dst op T x y=yE C S gs dst op T x y:=by
 obtain⟨h1,h2⟩:=iz h;unfold yE;rw[dJ h1,dJ h2]
theorem axH {op:UnOp}{x:Operand}(h:∀t,t∈bq x→f t=S.r t):yR C (S.withR f) gs dst op x=yR C S gs dst op x:=by unfold yR;rw[dJ h]
theorem axh {s d:TypeId}{x:Operand}(h:∀t,t∈bq x→f t=S.r t):yG C (S.withR f) gs dst s d x=yG C S gs dst s d x:=by unfold yG;rw[dJ h]
theorem axu {T:TypeId}{x:Operand}(h:∀t,t∈bq x→f t=S.r t):yM C (S.withR f) gs dst T x=yM C S gs dst T x:=by unfold yM;rw[agU h]
theorem aeA {b:Bool}{x y:Operand}(h:∀t,t∈bq x++bq y→f t=S.r t):v8 C (S.withR f) gs dst b x y=v8 C S gs dst b x y:=by
 obtain⟨h1,h2⟩:=iz h;unfold v8;rw[dJ h1,dJ h2]
theorem axw {T:TypeId}{x:Operand}(h:∀t,t∈bq x→f t=S.r t):tJ C (S.withR f) gs dst T x=tJ C S gs dst T x:=by
 unfold tJ;rw[uf h,dJ h];simp only[WV];rfl
theorem axl {T:TypeId}{x:Operand}{i:Nat}(h:∀t,t∈bq x→f t=S.r t):yJ C (S.withR f) gs dst T x i=yJ C S gs dst T x i:=by
 unfold yJ;rw[uf h,dJ h];rfl
theorem axn {T:TypeId}{x:Operand}{i:Nat}(h:∀t,t∈bq x→f t=S.r t):yI C (S.withR f) gs dst T x i=yI C S gs dst T x i:=by unfold yI;rw[dJ h]
theorem axq {T:TypeId}{x i:Operand}(h:∀t,t∈bq x++bq i→f t=S.r t):yL C (S.withR f) gs dst T x i=yL C S gs dst T x i:=by
 obtain⟨h1,h2⟩:=iz h;unfold yL;rw[dJ h1,dJ h2,uf h1];rfl
theorem axs {T:TypeId}{x i:Operand}(h:∀t,t∈bq x++bq i→f t=S.r t):yK C (S.withR f) gs dst T x i=yK C S gs dst T x i:=by
 obtain⟨h1,h2⟩:=iz h;unfold yK;rw[dJ h1,dJ h2]
theorem axj {x:Operand}{i:Nat}(h:∀t,t∈bq x→f t=S.r t):yH C (S.withR f) gs dst x i=yH C S gs dst x i:=by unfold yH;rw[dJ h]
theorem axy {T:TypeId}{m k:Operand}{ok:Bool}(h:∀t,t∈bq m++bq k→f t=S.r t):yN C (S.withR f) gs dst T m k ok=yN C S gs dst T m k ok:=by
 obtain⟨h1,h2⟩:=iz h;unfold yN;rw[agU h1,dJ h2]
theorem axF {T:TypeId}{x:Operand}{lo hi mx:Option Operand}(h:∀t,t∈bq x++zu lo++zu hi→f t=S.r t):yQ C (S.withR f) gs dst T x lo hi mx=yQ C S gs dst T x lo hi mx:=by
 obtain⟨h1,h3⟩:=iz h;obtain⟨h1,h2⟩:=iz h1;unfold yQ;rw[dJ h1];simp only[aCd h2,aCb h3]
theorem WK {zs:List Value}{parts:List (Nat×Operand)}(h:∀t,t∈(parts.flatMap fun p=>bq p.2)→f t=S.r t):∀(fs:List Field) (i off:Nat),jY C (S.withR f) gs zs parts fs i off=jY C S gs zs parts fs i off
 |[],_,_=>rfl
 |g::fs,i,off=>by
  simp only[jY,WK h fs];cases hp:parts.find? (fun p=>Nat.beq p.1 i) with
  |none=>rfl
  |some p=>
   have hu:use C (S.withR f) gs p.2=use C S gs p.2:=dJ fun t ht=>h t (List.mem_flatMap.2 ⟨p,List.mem_of_find?_eq_some hp,ht⟩);simp only[hu]
theorem axf {T:TypeId}{ps:List (Nat×Operand)}(h:∀t,t∈(ps.flatMap fun p=>bq p.2)→f t=S.r t):yF C (S.withR f) gs dst T ps=yF C S gs dst T ps:=by
 unfold yF;simp only[WK h];split
 ·rfl
 ·split
  ·split
   ·rename_i x y;rw[dJ (x:=x) fun t ht=>h t (by simp[ht]),dJ (x:=y) fun t ht=>h t (by simp[ht])]
   ·rfl
  ·rfl
 ·rfl
theorem axA {x:Operand}(h:∀t,t∈bq x→f t=S.r t):yO C (S.withR f) gs dst x=yO C S gs dst x:=by
 unfold yO;rw[dJ h];cases x<;>first|rfl|(simp only;rw[zo (h _ (List.mem_singleton.2 rfl))];rfl)
def mm:Op→Bool
 |.move _|.pick ..|.binOp ..|.unOp ..|.convert ..|.load ..|.fieldAddr ..|.field ..|.indexAddr ..|.index ..|.extract ..|.lookup ..|.slice ..|.build ..|.nilCheck _|.makeInterface ..|.call _=>true
 |_=>false
theorem aeE {op:Op}(hq:mm op=true)(h:∀t,t∈kL op→f t=S.r t):nD C (S.withR f) gs dst op=nD C S gs dst op:=by
 cases op<;>simp only[mm] at hq<;>simp only[kL] at h<;>simp only[nD]
 case move=>exact aeC h
 case pick=>exact axC h
 case binOp=>exact axd h
 case unOp=>exact axH h
 case convert=>exact axh h
 case load=>exact axw h
 case fieldAddr=>exact axl h
 case field=>exact axn h
 case indexAddr=>exact axq h
 case index=>exact axs h
 case extract=>exact axj h
 case lookup=>exact axy h
 case slice=>exact axF h
 case build=>exact axf h
 case nilCheck=>exact axA h
 case call c=>
  obtain⟨_,h2⟩:=iz h;split
  ·rename_i x T _ ha _;exact axu fun t ht=>h2 t (by rw[ha];simp[ht])
  ·rename_i x y _ ha;exact aeA fun t ht=>h2 t (by rw[ha];simpa using ht)
  ·rename_i x y _ ha;exact aeA fun t ht=>h2 t (by rw[ha];simpa using ht)
  ·rfl
 all_goals (cases hq;done)
theorem aye {op:Op}(h:∀t,t∈kL op→f t=S.r t)(hq:mm op=true):tM (S.withR f) gs op=tM S gs op:=by
 cases op<;>simp only[mm] at hq<;>simp only[kL] at h<;>simp only[tM]
 case build T ps=>exact qp fun t ht=>h t (by
  obtain⟨x,hx,qd⟩:=List.mem_flatMap.1 ht;obtain⟨p,hp,rfl⟩:=List.mem_map.1 hx;exact List.mem_flatMap.2 ⟨p,hp,qd⟩)
 case pick c x y=>
  obtain⟨h1,h3⟩:=iz h;obtain⟨h1,h2⟩:=iz h1;refine qp fun t ht=>?_;simp only[List.flatMap_cons,List.flatMap_nil,List.append_nil,List.mem_append] at ht;exact ht.elim (h2 t) (h3 t)
 case slice T x lo hi mx=>
  obtain⟨h1,h3⟩:=iz h;obtain⟨h1,h2⟩:=iz h1;exact qp fun t ht=>h1 t (by simpa using ht)
 all_goals first|rfl|(cases hq;done)
theorem ayf {op:Op}(h:∀t,t∈kL op→f t=S.r t)(hq:mm op=true):pre C (S.withR f) gs op=pre C S gs op:=by
 have oG:=hq;cases op<;>simp only[mm] at hq<;>simp only[pre,aye h oG]
 case load T x=>simp only[kL] at h;rw[uf h];rfl
 all_goals first|(cases hq;done)|skip
theorem arX {ops:Array Oper}{o:Oper}(h:∀t,t∈GZ ops o→f t=S.r t):ou (S.withR f) ops o=ou S ops o:=by
 unfold ou;cases hg:o.guard with
 |none=>rfl
 |some jw=>
  obtain⟨j,want⟩:=jw;simp only;cases ht:(ops[j]?).bind (·.dst) with
  |none=>rfl
  |some t=>
   simp only;have:(S.withR f).r t=S.r t:=h t (by unfold GZ;rw[hg];simp[ht]);rw[this]
end
def BA (C:Ctx)(S:St)(gs:List (Nat×Bool))(dst:Nat)(op:Op):Option (Sh×List PI):=
 match op with
 |.assign x=>
  match gs with
  |[]=>bif C.fr.any (Nat.beq dst)&&(cl S [] [x]).isEmpty then(match oP C S [] dst x with|some r=>bif mJ r.1 then some r else none|none=>none) else none
  |_=>none
 |.call c=>
  match nD C S gs dst (.call c) with
  |some r=>bif qn r.1&&hG gs (some dst) r.2 then some (gZ gs r.1,r.2) else none
  |none=>
   bif (cl S gs c.args.toList).isEmpty then
    match c.callee with
    |.value (.func f)=>(match oe C S gs dst f c.args.toList with|some r=>bif hG gs (some dst) r.2.2 then some (gZ gs r.2.1,r.2.2) else none|none=>none)
    |.value x=>(match na C S gs dst x c.args.toList with|some r=>bif hG gs (some dst) r.2.2 then some (gZ gs r.2.1,r.2.2) else none|none=>none)
    |_=>none
   else none
 |op=>bif mm op&&(pre C S gs op).isEmpty then(match nD C S gs dst op with|some r=>bif qn r.1&&hG gs (some dst) r.2 then some (gZ gs r.1,r.2) else none|none=>none) else none
def BB (C:Ctx)(S:St)(gs:List (Nat×Bool))(op:Op):Option (List PI):=
 match op,gs with
 |.store T x v,[]=>
  match fV S [] x with
  |.eptr ..=>bif (cl S [] [v]).isEmpty then(sB C S T x v).map (·.2) else none
  |_=>none
 |.mapUpdate T m k v,[]=>bif (cl S [] [k,v]).isEmpty then(qW C S T m k v).map (·.2) else none
 |.panic _,[]=>some [.chk (.nt (.con (.bool true)))]
 |_,_=>none
def sH (C:Ctx)(S:St)(ops:Array Oper)(o:Oper):Option (Sh×List PI):=
 match C.yl with
 |some _=>none
 |none=>(ou S ops o).bind fun gs=>
  match o.dst with
  |some dst=>BA C S gs dst o.op
  |none=>(BB C S gs o.op).map fun l=>(.none,l)
def mW (S:St)(o:Oper)(s:Sh):St:=match o.dst with|some d=>S.setR d s|none=>S
section
variable {C:Ctx} {S:St} {f:Nat→Sh} {gs:List (Nat×Bool)} {dst:Nat}
theorem aoc {g:Nat}{xs:List Operand}(h:∀t,t∈xs.flatMap bq→f t=S.r t)(he:(cl S gs xs).isEmpty=true):
 (match oe C (S.withR f) gs dst g xs with|some r=>bif hG gs (some dst) r.2.2 then some (gZ gs r.2.1,r.2.2) else none|none=>none)=(match oe C S gs dst g xs with|some r=>bif hG gs (some dst) r.2.2 then some (gZ gs r.2.1,r.2.2) else none|none=>none):=by
 have ho:=qp (gs:=gs) h;have kF:=List.isEmpty_iff.1 he;unfold oe;cases C.sig g with
 |none=>rfl
 |some s=>
  simp only[Option.bind_some];cases s.mode<;>first|rfl|skip
  simp only[ho,kF,St.fzs,List.foldl_nil,VV h];cases kU C S gs xs with
  |none=>rfl
  |some u=>
   simp only[Option.bind_some];cases Ty.subs u.1 s.args<;>rfl
theorem an7 {x:Operand}{xs:List Operand}(hx:∀t,t∈bq x→f t=S.r t)(h:∀t,t∈xs.flatMap bq→f t=S.r t)(he:(cl S gs xs).isEmpty=true):
 (match na C (S.withR f) gs dst x xs with|some r=>bif hG gs (some dst) r.2.2 then some (gZ gs r.2.1,r.2.2) else none|none=>none)=(match na C S gs dst x xs with|some r=>bif hG gs (some dst) r.2.2 then some (gZ gs r.2.1,r.2.2) else none|none=>none):=by
 have ho:=qp (gs:=gs) h;have kF:=List.isEmpty_iff.1 he;unfold na;rw[dJ hx];cases use C S gs x with
 |none=>rfl
 |some y=>
  obtain⟨ty,e⟩:=y;cases ty with
  |fn as r=>
   simp only;cases lz as r with
   |some _=>rfl
   |none=>
    simp only[ho,kF,St.fzs,List.foldl_nil,VV h];cases kU C S gs xs with
    |none=>rfl
    |some u=>
     simp only[Option.bind_some];cases Ty.subs u.1 as<;>rfl
  |_=>rfl
theorem apc {op:Op}(h:∀t,t∈kL op→f t=S.r t):BA C (S.withR f) gs dst op=BA C S gs dst op:=by
 have other:∀op,(∀t,t∈kL op→f t=S.r t)→(bif mm op&&(pre C (S.withR f) gs op).isEmpty then(match nD C (S.withR f) gs dst op with|some r=>bif qn r.1&&hG gs (some dst) r.2 then some (gZ gs r.1,r.2) else none|none=>none) else none)=
  (bif mm op&&(pre C S gs op).isEmpty then(match nD C S gs dst op with|some r=>bif qn r.1&&hG gs (some dst) r.2 then some (gZ gs r.1,r.2) else none|none=>none) else none):=by
  intro op h;cases hq:mm op with
  |false=>rfl
  |true=>rw[ayf h hq,aeE hq h]
 unfold BA;split
 ·rename_i x;simp only[kL] at h;rw[aeC h,qp (xs:=[x]) fun t ht=>h t (by simpa using ht)]
 ·rename_i c;have h':=h;simp only[kL] at h';obtain⟨h1,h2⟩:=iz h';rw[aeE (op:=.call c) rfl h,qp h2];split
  ·rfl
  ·cases he:(cl S gs c.args.toList).isEmpty with
   |false=>rfl
   |true=>
    simp only[cond_true];split
    ·exact aoc h2 he
    ·rename_i x _ hc;exact an7 (fun t ht=>h1 t (by rw[hc];exact ht)) h2 he
    ·rfl
 ·exact other _ h
theorem apd {op:Op}(h:∀t,t∈kL op→f t=S.r t):BB C (S.withR f) gs op=BB C S gs op:=by
 unfold BB;split
 ·rename_i T x v;simp only[kL] at h;obtain⟨h1,h2⟩:=iz h;rw[uf h1,qp (xs:=[v]) fun t ht=>h2 t (by simpa using ht)];split
  ·rename_i j ver size off kc;cases(cl S [] [v]).isEmpty with
   |false=>rfl
   |true=>
    simp only[cond_true];unfold sB;rw[uf h1,dJ h2,kc];simp only;have eo:(S.withR f).o=S.o:=rfl;have ev:(S.withR f).ver=S.ver:=rfl;rw[eo,ev];cases C.P.info? T with
    |none=>rfl
    |some inf=>
     simp only;cases Nat.beq ver (S.ver j) with
     |false=>rfl
     |true=>
      simp only[cond_true];cases S.o j with
      |row T' e0=>
       cases use C S [] v with
       |none=>cases e0<;>rfl
       |some y=>
        obtain⟨t,e⟩:=y;cases e0<;>simp only<;>(generalize (_&&_:Bool)=b;cases b<;>rfl)
      |_=>rfl
  ·rfl
 ·rename_i T m k v;simp only[kL] at h;obtain⟨h1,h3⟩:=iz h;obtain⟨h1,h2⟩:=iz h1
  rw[qp (xs:=[k,v]) fun t ht=>by
   simp only[List.flatMap_cons,List.flatMap_nil,List.append_nil,List.mem_append] at ht;exact ht.elim (h2 t) (h3 t)]
  cases(cl S [] [k,v]).isEmpty with
  |false=>rfl
  |true=>
   simp only[cond_true];unfold qW;rw[uf h1,dJ h2,dJ h3];have eo:(S.withR f).o=S.o:=rfl;have ev:(S.withR f).ver=S.ver:=rfl;rw[eo,ev];cases C.P.underlying T with
   |none=>rfl
   |some desc=>
    cases desc with
    |map K E=>
     cases fV S [] m with
     |obj j ver=>
      simp only;cases Nat.beq ver (S.ver j) with
      |false=>rfl
      |true=>
       simp only[cond_true];cases S.o j with
       |mp kt et=>
        cases use C S [] k with
        |none=>rfl
        |some y=>
         cases use C S [] v with
         |none=>rfl
         |some z=>
          obtain⟨tk,ek⟩:=y;obtain⟨tv,ev⟩:=z;simp only;generalize (_&&_:Bool)=b;cases b<;>rfl
       |_=>rfl
     |_=>rfl
    |_=>rfl
 ·rfl
 ·rfl
theorem apf {ops:Array Oper}{o:Oper}(h:∀t,t∈kL o.op++GZ ops o→f t=S.r t):sH C (S.withR f) ops o=sH C S ops o:=by
 obtain⟨h1,h2⟩:=iz h;unfold sH;rw[arX h2];split
 ·rfl
 ·cases ou S ops o with
  |none=>rfl
  |some gs=>
   simp only[Option.bind_some];split
   ·exact apc h1
   ·rw[apd h1]
theorem ayX {S:St}{t:Nat}{s:Sh}(h:S.r t=s)(hs:mJ s=true):wM S t t=some (S,[]):=by
 unfold wM;rw[h];cases s<;>first|rfl|cases hs
theorem ape {ops:Array Oper}{o:Oper}{q:Sh×List PI}(h:sH C S ops o=some q):oa C S ops o=some (mW S o q.1,q.2):=by
 unfold sH at h;split at h
 case h_1=>cases h
 rename_i jO;simp only[Option.bind_eq_some_iff] at h;obtain⟨gs,dC,h⟩:=h;have hY:xo C S ops o=none:=by
  unfold xo;rw[jO];split<;>first|rfl|(rename_i hx;cases hx;done)|(rename_i hx _;cases hx;done)
 have fin:∀{S':St},pre C S gs o.op++oS C S gs o=[]→core C S gs o=some (S',q.2)→jc C (post C S' o) S'=some (S',[])→hG gs o.dst q.2=true→oa C S ops o=some (S',q.2):=by
  intro S' h1 h2 h3 h4;unfold oa xn A8;rw[hY,dC];simp only[Option.bind_some,h1,jc,h2,h3,h4,cond_true,List.nil_append,List.append_nil]
 cases hd:o.dst with
 |some dst=>
  simp only[hd] at h;have cA:mW S o q.1=S.setR dst q.1:=by unfold mW;rw[hd]
  rw[cA];unfold BA at h;split at h
  ·rename_i x bF;split at h
   case h_2=>cases h
   cases hb:(C.fr.any (Nat.beq dst)&&(cl S [] [x]).isEmpty)<;>simp only[hb,cond_true,cond_false] at h
   ·cases h
   simp only[Bool.and_eq_true] at hb;split at h
   case h_2=>cases h
   rename_i r hr;cases Yq:mJ r.1<;>simp only[Yq,cond_true,cond_false] at h
   ·cases h
   cases h;have he:=List.isEmpty_iff.1 hb.2;refine fin ?_ ?_ ?_ rfl
   ·rw[bF];unfold oS;rw[bF,hd];simp only[hb.1,he,cond_true,pre,tM,List.map_nil,List.append_nil]
   ·unfold core;rw[hd];simp only[bF,nD,hb.1,cond_true,hr]
   ·unfold post;rw[bF,hd];simp only[jc,Gh.run];rw[ayX (s:=q.1) (by simp[St.setR,aQ]) Yq];rfl
  ·rename_i c bF;have PK:pre C S gs o.op++oS C S gs o=[]:=by
        rw[bF];unfold oS;rw[bF];simp[pre,tM]
   have jM:∀S':St,jc C (post C S' o) S'=some (S',[]):=fun S'=>by
        unfold post;rw[bF];rfl
   split at h
   ·rename_i r hr;cases hb:(qn r.1&&hG gs (some dst) r.2)<;>simp only[hb,cond_true,cond_false] at h
    ·cases h
    cases h;simp only[Bool.and_eq_true] at hb;refine fin PK ?_ (jM _) (by rw[hd];exact hb.2);unfold core;rw[hd];simp only[bF,hr,hb.1,cond_true]
   ·rename_i hr;cases he:(cl S gs c.args.toList).isEmpty<;>simp only[he,cond_true,cond_false] at h
    ·cases h
    have kF:=List.isEmpty_iff.1 he;have sfz:∀b:Bool,(bif b then S else S.fzs (cl S gs c.args.toList))=S:=fun b=>by rw[kF];cases b<;>rfl
    split at h
    ·rename_i f hc;split at h
     case h_2=>cases h
     rename_i r fi;cases hb:hG gs (some dst) r.2.2<;>simp only[hb,cond_true,cond_false] at h
     ·cases h
     cases h;refine fin PK ?_ (jM _) (by rw[hd];exact hb);have hS:r.1=S:=by
      simp only[oe,Option.bind_eq_some_iff] at fi;obtain⟨s,hs,fi⟩:=fi;split at fi
      case h_2=>cases fi
      simp only[Option.bind_eq_some_iff] at fi;obtain⟨u,hu,fi⟩:=fi;cases bV:Ty.subs u.1 s.args<;>simp only[bV,cond_true,cond_false] at fi
      ·cases fi
      cases fi;exact sfz _
     unfold core;rw[hd];simp only[bF,hr,hc,fi,hS]
    ·rename_i x Pr hc;split at h
     case h_2=>cases h
     rename_i r fi;cases hb:hG gs (some dst) r.2.2<;>simp only[hb,cond_true,cond_false] at h
     ·cases h
     cases h;refine fin PK ?_ (jM _) (by rw[hd];exact hb);have hS:r.1=S:=by
      unfold na at fi;split at fi
      case h_2=>cases fi
      rename_i as r0 e P5;split at fi
      case h_1=>cases fi
      simp only[Option.bind_eq_some_iff] at fi;obtain⟨u,hu,fi⟩:=fi;cases bV:Ty.subs u.1 as<;>simp only[bV,cond_true,cond_false] at fi
      ·cases fi
      cases fi;exact sfz _
     unfold core;rw[hd];simp only[bF,hr,hc];cases x with
     |func f=>exact absurd rfl (Pr f)
     |_=>simp only[fi,hS]
    ·cases h
  ·rename_i YZ dg;cases hb:(mm o.op&&(pre C S gs o.op).isEmpty)<;>simp only[hb,cond_true,cond_false] at h
   ·cases h
   simp only[Bool.and_eq_true] at hb;split at h
   case h_2=>cases h
   rename_i r hr;cases dX:(qn r.1&&hG gs (some dst) r.2)<;>simp only[dX,cond_true,cond_false] at h
   ·cases h
   cases h;simp only[Bool.and_eq_true] at dX;have cV:oS C S gs o=[]:=by
        unfold oS;split
        ·rename_i x t e _;exact absurd e (YZ x)
        ·rfl
   have jM:∀S':St,jc C (post C S' o) S'=some (S',[]):=fun S'=>by
        have:post C S' o=[]:=by
         unfold post;split
         ·rename_i x t e _;exact absurd e (YZ x)
         ·rename_i T t e _;rw[e] at hb;simp[mm] at hb
         ·rename_i T x v e;rw[e] at hb;simp[mm] at hb
         ·rfl
        rw[this];rfl
   refine fin (by rw[cV,List.isEmpty_iff.1 hb.2];rfl) ?_ (jM _) (by rw[hd];exact dX.2);unfold core;rw[hd];simp only[hr,dX.1,cond_true]
 |none=>
  simp only[hd,Option.map_eq_some_iff] at h;obtain⟨l,h,rfl⟩:=h;have cA:mW S o (.none:Sh)=S:=by unfold mW;rw[hd]
  show oa C S ops o=some (mW S o .none,l);rw[cA];have cV:oS C S gs o=[]:=by unfold oS;rw[hd];split<;>first|rfl|(rename_i hx;cases hx)
  unfold BB at h;split at h
  ·rename_i T x v bF;split at h
   case h_2=>cases h
   rename_i j ver size off kc;cases he:(cl S [] [v]).isEmpty<;>simp only[he,cond_true,cond_false] at h
   ·cases h
   simp only[Option.map_eq_some_iff] at h;obtain⟨r,hr,rfl⟩:=h;have hS:r.1=S:=by
        unfold sB at hr;split at hr
        case h_2=>cases hr
        rw[kc] at hr;simp only at hr;cases hv:Nat.beq ver (S.ver j)<;>simp only[hv,cond_true,cond_false] at hr
        ·cases hr
        split at hr
        ·revert hr;generalize (_&&_:Bool)=b;intro hr;cases b<;>simp only[cond_true,cond_false] at hr<;>cases hr;rfl
        ·revert hr;generalize (_&&_:Bool)=b;intro hr;cases b<;>simp only[cond_true,cond_false] at hr<;>cases hr;rfl
        ·cases hr
   refine fin ?_ ?_ ?_ rfl
   ·rw[cV,bF];simp only[pre,tM,kc,List.isEmpty_iff.1 he,List.map_nil,List.append_nil]
   ·unfold core;rw[hd];simp only[bF,hr];rw[←hS]
   ·unfold post;rw[bF];simp only[kc];rfl
  ·rename_i T m k v bF;cases he:(cl S [] [k,v]).isEmpty<;>simp only[he,cond_true,cond_false] at h
   ·cases h
   simp only[Option.map_eq_some_iff] at h;obtain⟨r,hr,rfl⟩:=h;have hS:r.1=S:=by
        unfold qW at hr;split at hr
        ·rename_i K _ j ver _ _;cases hv:Nat.beq ver (S.ver j)<;>simp only[hv,cond_true,cond_false] at hr
         ·cases hr
         split at hr
         ·revert hr;generalize (_&&_:Bool)=b;intro hr;cases b<;>simp only[cond_true,cond_false] at hr<;>cases hr;rfl
         ·cases hr
        ·cases hr
   refine fin ?_ ?_ ?_ rfl
   ·rw[cV,bF];simp only[pre,tM,List.isEmpty_iff.1 he,List.map_nil,List.append_nil]
   ·unfold core;rw[hd];simp only[bF,hr];rw[←hS]
   ·unfold post;rw[bF];rfl
  ·rename_i x bF;cases h;refine fin ?_ ?_ ?_ rfl
   ·rw[cV,bF];rfl
   ·unfold core;rw[hd];simp only[bF]
   ·unfold post;rw[bF];rfl
  ·cases h
end
def eW (ops:Array Oper)(shs:List Sh)(l:List Nat)(f:Nat→Sh):Nat→Sh:=
 l.foldl (fun f i=>match(ops[i]?).bind (·.dst) with|some d=>bZ f d (shs.getD i .none)|none=>f) f
def xB (C:Ctx)(S:St)(ops:Array Oper):Nat→Option (List (Sh×List PI))
 |0=>some []
 |k+1=>(xB C S ops k).bind fun q=>match ops[k]? with
  |some o=>(sH C (S.withR (eW ops (q.map (·.1)) (List.range k) S.r)) ops o).map fun r=>q++[r]
  |none=>none
def dk (ops:Array Oper):Nat→List Nat
 |0=>[]
 |k+1=>dk ops k++[match ops[k]? with
  |some o=>o.after.toList.foldr (fun e m=>bif Region.binds .any e then Nat.lor (Nat.lor (dA e.on) ((dk ops k).getD e.on 0)) m else m) 0
  |none=>0]
def afX (ops:Array Oper)(o:Oper):List Nat:=kL o.op++GZ ops o
def XQ (ops:Array Oper)(nc:List (List Nat))(clo:List Nat)(i:Nat):Bool:=
 match ops[i]? with
 |some o=>(nc.getD i []).all (ar (clo.getD i 0))&&(o.after.toList.all fun e=> !Region.binds .any e||Nat.blt e.on i)&&
   (afX ops o).all fun t=>(List.range ops.size).all fun j=>match(ops[j]?).bind (·.dst) with
     |some d=> !Nat.beq d t||((Nat.blt j i&&ar (clo.getD i 0) j)||ar (clo.getD j 0) i)
     |none=>true
 |none=>false
def GU (ops:Array Oper)(i:Nat):Bool:=match ops[i]? with|some o=>o.after.toList.all fun e=> !Region.binds .any e||Nat.blt e.on i|none=>false
def BC (ops:Array Oper)(nc:List (List Nat))(clo:List Nat)(m:Nat):Bool:=(List.range m).all (XQ ops nc clo)&&(List.range ops.size).all (GU ops)
def nS (clo:List Nat):Nat→Nat
 |0=>0
 |k+1=>bif (List.range k).all (ar (clo.getD k 0)) then nS clo k else k+1
theorem agB (clo:List Nat):∀k,nS clo k≤k
 |0=>Nat.le_refl _
 |k+1=>by
  unfold nS;cases(List.range k).all (ar (clo.getD k 0)) with
  |true=>exact Nat.le_succ_of_le (agB clo k)
  |false=>exact Nat.le_refl _
theorem agA (clo:List Nat):∀k i,nS clo k≤i→i<k→∀j,j<i→ar (clo.getD i 0) j=true
 |0,i,_,h=>by omega
 |k+1,i,h1,h2=>by
  unfold nS at h1;cases hb:(List.range k).all (ar (clo.getD k 0)) with
  |true=>
   rw[hb] at h1;by_cases e:i=k
   ·subst e;exact fun j hj=>List.all_eq_true.1 hb j (List.mem_range.2 hj)
   ·exact agA clo k i h1 (by omega)
  |false=>rw[hb] at h1;simp only[cond_false] at h1;omega
def XR (C:Ctx)(ops:Array Oper)(S:St):Option (St×List PI):=
 (xB C S ops (nS (dk ops ops.size) ops.size)).bind fun q=>
    bif BC ops (oN (q.map (·.2)) (nS (dk ops ops.size) ops.size)) (dk ops ops.size) (nS (dk ops ops.size) ops.size) then
     (m8 C ops (List.range' (nS (dk ops ops.size) ops.size) (ops.size-nS (dk ops ops.size) ops.size)) (S.withR (eW ops (q.map (·.1)) (List.range (nS (dk ops ops.size) ops.size)) S.r))).map fun r=>(r.1,(q.map (·.2)).flatten++r.2)
    else none
theorem Mi (ops:Array Oper)(shs:List Sh)(i:Nat)(l:List Nat)(f:Nat→Sh):eW ops shs (i::l) f=eW ops shs l (match(ops[i]?).bind (·.dst) with|some d=>bZ f d (shs.getD i .none)|none=>f):=rfl
theorem Eh {ops:Array Oper}{shs:List Sh}{t:Nat}:∀{l:List Nat} {f:Nat→Sh},(∀i,i∈l→(ops[i]?).bind (·.dst)≠some t)→eW ops shs l f t=f t
 |[],_,_=>rfl
 |i::l,f,h=>by
  rw[Mi,Eh fun j hj=>h j (List.mem_cons_of_mem _ hj)];have:=h i (List.mem_cons_self ..);cases hd:(ops[i]?).bind (·.dst) with
  |none=>rfl
  |some d=>exact bk _ _ (fun e=>this (by rw[hd,e]))
def MY (ops:Array Oper):Prop:=∀(i j t:Nat),(ops[i]?).bind (·.dst)=some t→(ops[j]?).bind (·.dst)=some t→i=j
theorem Mh {ops:Array Oper}(ho:MY ops){shs:List Sh}{t i:Nat}(ht:(ops[i]?).bind (·.dst)=some t):∀{l:List Nat} {f:Nat→Sh},i∈l→eW ops shs l f t=shs.getD i .none
 |[],_,h=>nomatch h
 |j::l,f,h=>by
  rw[Mi];by_cases hl:i∈l
  ·exact Mh ho ht hl
  ·have e:i=j:=(List.mem_cons.1 h).resolve_right hl;subst e;rw[Eh fun k hk e=>hl (by rw[ho i k t ht e];exact hk),ht];exact aQ _ _ _
theorem agr {ops:Array Oper}(ho:MY ops){shs Tq:List Sh}{l m:List Nat}{f:Nat→Sh}{t:Nat}(h1:∀i,(ops[i]?).bind (·.dst)=some t→(i∈l↔i∈m))(h2:∀i,i∈l→(ops[i]?).bind (·.dst)=some t→shs.getD i .none=Tq.getD i .none):eW ops shs l f t=eW ops Tq m f t:=by
 by_cases hh:∃i,i∈l∧(ops[i]?).bind (·.dst)=some t
 ·obtain⟨i,hi,ht⟩:=hh;rw[Mh ho ht hi,Mh ho ht ((h1 i ht).1 hi),h2 i hi ht]
 ·rw[Eh fun i hi e=>hh ⟨i,hi,e⟩,Eh fun i hi e=>hh ⟨i,(h1 i e).2 hi,e⟩]
theorem axa {ops:Array Oper}(h:(ops.toList.filterMap (·.dst)).Nodup):MY ops:=by
 intro i j t hi hj;rw[Option.bind_eq_some_iff] at hi hj;obtain⟨oi,h1,h2⟩:=hi;obtain⟨oj,h3,h4⟩:=hj;by_cases e:i=j
 ·exact e
 ·exact(uO.dst_once h h1 h3 h2 h4 e).elim
theorem Oy {C:Ctx}{S:St}{ops:Array Oper}:∀{k:Nat} {q:List (Sh×List PI)},xB C S ops k=some q→q.length=k∧∀i,i<k→∃o,ops[i]?=some o∧
 sH C (S.withR (eW ops (q.map (·.1)) (List.range i) S.r)) ops o=some ((q.map (·.1)).getD i .none,(q.map (·.2)).getD i [])
 |0,q,h=>by simp only[xB,Option.some.injEq] at h;subst h;exact⟨rfl,fun i hi=>by omega⟩
 |k+1,q,h=>by
  simp only[xB,Option.bind_eq_some_iff] at h;obtain⟨p,hp,h⟩:=h;split at h
  case h_2=>cases h
  rename_i o ho;simp only[Option.map_eq_some_iff] at h;obtain⟨r,hr,rfl⟩:=h;obtain⟨l1,aR⟩:=Oy hp;have same:∀i,i≤k→eW ops ((p++[r]).map (·.1)) (List.range i) S.r=eW ops (p.map (·.1)) (List.range i) S.r:=by
   intro i hi;have key:∀(l:List Nat) (f:Nat→Sh),(∀j,j∈l→j<p.length)→eW ops ((p++[r]).map (·.1)) l f=eW ops (p.map (·.1)) l f:=by
    intro l
    induction l with
    |nil=>intro f _;rfl
    |cons j l ih=>
     intro f hl;have hj:=hl j (List.mem_cons_self ..);have e:((p++[r]).map (·.1)).getD j .none=(p.map (·.1)).getD j .none:=by
       rw[List.map_append,List.getD_eq_getElem?_getD,List.getElem?_append_left (by simpa using hj),←List.getD_eq_getElem?_getD]
     rw[Mi,Mi,e,ih _ fun m hm=>hl m (List.mem_cons_of_mem _ hm)]
   exact key _ _ fun j hj=>by have:=List.mem_range.1 hj;omega
  refine⟨by simp[l1],fun i hi=>?_⟩;by_cases e:i=k
  ·subst e;refine⟨o,ho,?_⟩;rw[same i (Nat.le_refl _),hr];have e1:((p++[r]).map (·.1)).getD i .none=r.1:=by
    rw[List.map_append,List.getD_eq_getElem?_getD,List.getElem?_append_right (by simp[l1])];simp[l1]
   have e2:((p++[r]).map (·.2)).getD i []=r.2:=by
    rw[List.map_append,List.getD_eq_getElem?_getD,List.getElem?_append_right (by simp[l1])];simp[l1]
   rw[e1,e2]
  ·obtain⟨o',h1,h2⟩:=aR i (by omega);refine⟨o',h1,?_⟩;rw[same i (by omega),h2];have:i<p.length:=by omega
   simp only[List.map_append,List.getD_eq_getElem?_getD];rw[List.getElem?_append_left (by simpa using this),List.getElem?_append_left (by simpa using this)]
theorem GC (ops:Array Oper):∀k,(dk ops k).length=k
 |0=>rfl
 |k+1=>by simp[dk,GC ops k]
theorem W7 (ops:Array Oper){k m i:Nat}(h:i<k)(hm:k≤m):(dk ops m).getD i 0=(dk ops k).getD i 0:=by
 induction m with
 |zero=>omega
 |succ m ih=>
  by_cases e:k=m+1
  ·rw[e]
  ·rw[←ih (by omega)];simp only[dk,List.getD_eq_getElem?_getD];rw[List.getElem?_append_left (by rw[GC];omega)]
theorem GD {ops:Array Oper}{N i m:Nat}{o:Oper}(hi:i<N)(ho:ops[i]?=some o)(af:(o.after.toList.all fun e=> !Region.binds .any e||Nat.blt e.on i)=true)(h:ar ((dk ops N).getD i 0) m=true):
 ∃e,e∈o.after.toList∧Region.binds .any e=true∧(m=e.on∨ar ((dk ops N).getD e.on 0) m=true):=by
 rw[W7 ops (k:=i+1) (by omega) (by omega)] at h
 have e1:(dk ops (i+1)).getD i 0=o.after.toList.foldr (fun e m=>bif Region.binds .any e then Nat.lor (Nat.lor (dA e.on) ((dk ops i).getD e.on 0)) m else m) 0:=by
  simp only[dk,List.getD_eq_getElem?_getD];rw[List.getElem?_append_right (by rw[GC];exact Nat.le_refl _),GC];simp[ho]
 rw[e1] at h;have aR:=List.all_eq_true.1 af;generalize o.after.toList=l at h aR
 induction l with
 |nil=>rw[qP] at h;simp at h
 |cons e l ih=>
  simp only[List.foldr_cons] at h;cases hb:Region.binds .any e<;>rw[hb] at h<;>simp only[cond_true,cond_false] at h
  ·obtain⟨e',h1,h2⟩:=ih h (fun x hx=>aR x (List.mem_cons_of_mem _ hx));exact⟨e',List.mem_cons_of_mem _ h1,h2⟩
  ·rw[eK,eK,Bool.or_eq_true,Bool.or_eq_true] at h;have oE:e.on<i:=by
        have:=aR e (List.mem_cons_self ..);rw[hb] at this;simpa [Nat.blt_eq] using this
   rcases h with(h|h)|h
   ·refine⟨e,List.mem_cons_self ..,hb,.inl ?_⟩;have:=gY 0 e.on m;have z:ar 0 m=false:=by rw[qP];simp
    rw[eK,z,Bool.false_or,Bool.false_or,h] at this;exact(cK this.symm).symm
   ·refine⟨e,List.mem_cons_self ..,hb,.inr ?_⟩;rw[W7 ops oE (by omega)];exact h
   ·obtain⟨e',h1,h2⟩:=ih h (fun x hx=>aR x (List.mem_cons_of_mem _ hx));exact⟨e',List.mem_cons_of_mem _ h1,h2⟩
section
variable {C:Ctx} {S:St} {ρ:Env} {σ:Im} {own:Nat→Option Nat} {hv:Nat→Value} {w0:World} {σ0:Base} {A:Nat→Prop} {a:Act} {w:World} {n:Nat} {ids:List Nat} {Φ:aS}
theorem afY {ops:Array Oper}{listed:Array Bool}{E:Nat}(aK:listed.size=ops.size)(hl:∀i,listed.getD i false=ar E i)(i:Nat):i∈Region.ready .any ops listed↔i∈nP ops E:=by
 unfold Region.ready nP;simp only[List.mem_filter,List.mem_range];refine and_congr_right fun hi=>?_;have h1:listed.getD i true=ar E i:=by
  rw[←hl i];simp only[Array.getD_eq_getD_getElem?];rw[Array.getElem?_eq_getElem (by omega)];rfl
 have h2:ops[i]?=some ops[i]:=Array.getElem?_eq_getElem hi;rw[h1,h2];simp only[Option.map_some,Option.getD_some,←Array.all_toList,hl]
def ud (ops:Array Oper)(E:Nat):Nat→Prop:=fun t=>∃i o,ar E i=true∧ops[i]?=some o∧o.dst=some t
def qI (ops:Array Oper)(E:Nat):Nat:=((List.range ops.size).filter fun i=> !ar E i).length
theorem aB5 {ops:Array Oper}{E i:Nat}(hi:i<ops.size)(hb:ar E i=false):qI ops E=qI ops (Nat.lor E (dA i))+1:=by
 unfold qI;obtain⟨l1,l2,hl⟩:=List.append_of_mem (List.mem_range.2 hi);have bu:=List.nodup_range (n:=ops.size);rw[hl,List.nodup_append] at bu;obtain⟨_,h2,h3⟩:=bu;rw[List.nodup_cons] at h2;have g1:∀j,j∈l1→j≠i:=fun j hj=>h3 j hj i (List.mem_cons_self ..);have g2:∀j,j∈l2→j≠i:=fun j hj e=>h2.1 (e▸hj)
 have c:∀l:List Nat,(∀j,j∈l→j≠i)→(l.filter fun j=> !ar (Nat.lor E (dA i)) j)=l.filter fun j=> !ar E j:=by
  intro l hl;apply List.filter_congr;intro j hj;rw[gY,ez (fun e=>hl j hj e.symm),Bool.or_false]
 have du:ar (Nat.lor E (dA i)) i=true:=by rw[gY,Nat.beq_refl,Bool.or_true]
 rw[hl];simp only[List.filter_append,List.filter_cons,c l1 g1,c l2 g2,hb,du,Bool.not_true,Bool.not_false,if_true,Bool.false_eq_true,if_false,List.length_append,List.length_cons];omega
theorem aph {rd:Option Nat}(hC:CtxOK C σ0)(ba:dz C)(hΦ:cY C Φ)(hY:nX C Φ w0 σ0){a0:Act}(Ca:a0.tmps.size=n){ops:Array Oper}(az:qB n ops=true)(gd:BI ops=true){m:Nat}(hm:m≤ops.size){q:List (Sh×List PI)}(hq:xB C S ops m=some q)
 (sX:BC ops (oN (q.map (·.2)) m) (dk ops ops.size) m=true) (x9:∀i,m≤i→i<ops.size→∀j,j<i→ar ((dk ops ops.size).getD i 0) j=true) {Q:Exit→Act→World→Prop} {ρ':Env}
 (hK:∀listed a' w',listed.size=ops.size→(∀i,listed.getD i false=decide (i<m))→SameBut (pG ops) a0 a'→Good C w0 σ0 (S.withR (eW ops (q.map (·.1)) (List.range m) S.r)) ρ' (kT ops (List.range m)) a' w'→wpAnyIn (FR rd) 0 C.P .any ops Q (ops.size-m) listed a' w'):
 ∀(k E:Nat) (listed:Array Bool) (ρ:Env) (a:Act) (w:World),qI ops E=k→(∀j,ar E j=true→j<m)→(∀j,j<ops.size→ar E j=true→∀m,ar ((dk ops ops.size).getD j 0) m=true→ar E m=true)→listed.size=ops.size→(∀i,listed.getD i false=ar E i)→SameBut (pG ops) a0 a→
  Good C w0 σ0 (S.withR (eW ops (q.map (·.1)) ((List.range m).filter (ar E)) S.r)) ρ (ud ops E) a w→PI.runs Φ (ec (q.map (·.2)) (List.range m) E) ρ=some ρ'→wpAnyIn (FR rd) 0 C.P .any ops Q k listed a w:=by
 have HF:=az;simp only[qB,Bool.and_eq_true] at az;have bu:=mQ az.1;have PB:=axa bu;obtain⟨hlen,aR⟩:=Oy hq;unfold BC at sX;rw[Bool.and_eq_true] at sX
 have BO:∀i,i<ops.size→∀o,ops[i]?=some o→(o.after.toList.all fun e=> !Region.binds .any e||Nat.blt e.on i)=true:=by
  intro i hi o ho;have:=List.all_eq_true.1 sX.2 i (List.mem_range.2 hi);unfold GU at this;rw[ho] at this;exact this
 have at5:∀i,i<m→∀o,ops[i]?=some o→((oN (q.map (·.2)) m).getD i []).all (ar ((dk ops ops.size).getD i 0))=true∧
  ∀t,t∈afX ops o→∀j,j<ops.size→(ops[j]?).bind (·.dst)=some t→(j<i∧ar ((dk ops ops.size).getD i 0) j=true)∨ar ((dk ops ops.size).getD j 0) i=true:=by
  intro i hi o ho;have:=List.all_eq_true.1 sX.1 i (List.mem_range.2 hi);unfold XQ at this;rw[ho] at this;simp only[Bool.and_eq_true] at this;refine⟨this.1.1,fun t ht j hj hd=>?_⟩;have:=List.all_eq_true.1 (List.all_eq_true.1 this.2 t ht) j (List.mem_range.2 hj);rw[hd] at this;simp only[Nat.beq_refl,Bool.not_true,Bool.false_or,Bool.or_eq_true,Bool.and_eq_true,Nat.blt_eq] at this;exact this
 have Wk:∀(k E:Nat) (listed:Array Bool) (ρ:Env) (a:Act) (w:World),(∀i,i<m→ar E i=true)→qI ops E=k→(∀j,ar E j=true→j<m)→listed.size=ops.size→(∀i,listed.getD i false=ar E i)→SameBut (pG ops) a0 a→
  Good C w0 σ0 (S.withR (eW ops (q.map (·.1)) ((List.range m).filter (ar E)) S.r)) ρ (ud ops E) a w→PI.runs Φ (ec (q.map (·.2)) (List.range m) E) ρ=some ρ'→wpAnyIn (FR rd) 0 C.P .any ops Q k listed a w:=by
  intro k E listed ρ a w jH hk vm aK hl hn hg ak;have hb:∀i,ar E i=decide (i<m):=by
   intro i;by_cases h:i<m
   ·rw[jH i h,decide_eq_true h]
   ·rw[decide_eq_false h];cases hb:ar E i with
    |false=>rfl
    |true=>exact absurd (vm i hb) h
  have O4:ec (q.map (·.2)) (List.range m) E=[]:=by
   unfold ec;rw[List.flatMap_eq_nil_iff];intro i hi;rw[jH i (List.mem_range.1 hi)];rfl
  rw[O4] at ak;simp only[PI.runs,Option.some.injEq] at ak;subst ak;have asG:qI ops E=ops.size-m:=by
   unfold qI
   have key:∀N,m≤N→((List.range N).filter fun i=> !ar E i).length=N-m:=by
        intro N
        induction N with
        |zero=>intro _;simp
        |succ N ih=>
         intro hN;rw[List.range_succ,List.filter_append,List.length_append];by_cases h:m≤N
         ·rw[ih h];simp[hb N,Nat.not_lt.2 h];omega
         ·have:m=N+1:=by omega
          have e:(List.range N).filter (fun i=> !ar E i)=[]:=by
           rw[List.filter_eq_nil_iff];intro i hi;rw[jH i (by have:=List.mem_range.1 hi;omega)];simp
          have hN':ar E N=true:=jH N (by omega);rw[e];simp[hN'];omega
   exact key _ hm
  have ef:(List.range m).filter (ar E)=List.range m:=List.filter_eq_self.2 fun i hi=>jH i (List.mem_range.1 hi);rw[ef] at hg;have oI:ud ops E=kT ops (List.range m):=by
   funext t;apply propext;constructor
   ·rintro⟨i,o,h1,h2,h3⟩;exact⟨i,o,List.mem_range.2 (vm i h1),h2,h3⟩
   ·rintro⟨i,o,h1,h2,h3⟩;exact⟨i,o,jH i (List.mem_range.1 h1),h2,h3⟩
  rw[oI] at hg;rw[←hk,asG];exact hK listed a w aK (fun i=>by rw[hl i,hb i]) hn hg
 intro k
 induction k with
 |zero=>
  intro E listed ρ a w hk vm Hh aK hl hn hg ak;refine Wk 0 E listed ρ a w (fun i hi=>?_) hk vm aK hl hn hg ak;cases hb:ar E i with
  |true=>rfl
  |false=>
   have:i∈(List.range ops.size).filter fun i=> !ar E i:=List.mem_filter.2 ⟨List.mem_range.2 (by omega),by rw[hb];rfl⟩;unfold qI at hk;rw[List.length_eq_zero_iff.1 hk] at this;cases this
 |succ k ih=>
  intro E listed ρ a w hk vm Hh aK hl hn hg ak;by_cases jH:∀i,i<m→ar E i=true
  ·exact Wk (k+1) E listed ρ a w jH hk vm aK hl hn hg ak
  refine⟨fun he=>?_,fun i hi=>?_⟩
  ·
   obtain⟨i,hi,ru⟩:∃i,(i<m∧ar E i=false)∧∀j,j<i→ar E j=true:=by
        have hex:∃i,i<m∧ar E i=false:=by
         refine Classical.byContradiction fun fN=>jH fun i hi=>?_;cases hb:ar E i with
         |true=>rfl
         |false=>exact absurd ⟨i,hi,hb⟩ fN
        obtain⟨i,hi⟩:=hex
        induction i using Nat.strongRecOn with
        |ind i ly=>
         by_cases hh:∃j,j<i∧ar E j=false
         ·obtain⟨j,hj,hb⟩:=hh;exact ly j hj ⟨by omega,hb⟩
         ·refine⟨i,hi,fun j hj=>?_⟩;cases hb:ar E j with
          |true=>rfl
          |false=>exact absurd ⟨j,hj,hb⟩ hh
   have mz:i<ops.size:=by omega
   have ho:ops[i]?=some ops[i]:=Array.getElem?_eq_getElem mz;have cS:i∈nP ops E:=by
        unfold nP;simp only[List.mem_filter,List.mem_range,Bool.and_eq_true,Bool.not_eq_true',ho];refine⟨mz,hi.2,?_⟩;rw[List.all_eq_true];intro e jf;have:=List.all_eq_true.1 (BO i mz _ ho) e jf;cases hb:Region.binds .any e with
        |false=>rfl
        |true=>
         rw[hb] at this;simp only[Bool.not_true,Bool.false_or,Nat.blt_eq] at this;rw[ru _ this];rfl
   rw[←afY aK hl,he] at cS;cases cS
  ·rw[afY aK hl] at hi;unfold nP at hi;simp only[List.mem_filter,List.mem_range,Bool.and_eq_true,Bool.not_eq_true'] at hi;obtain⟨bC,df,sP⟩:=hi;have Zd:ops[i]?=some ops[i]:=Array.getElem?_eq_getElem bC;generalize ops[i]=o at Zd;have ho:=Zd;rw[ho] at sP;simp only at sP;have o2:=BO i bC o ho;have xH:∀m,ar ((dk ops ops.size).getD i 0) m=true→ar E m=true:=by
        intro m hm;obtain⟨e,gw,j6,O3⟩:=GD bC ho o2 hm;have hE:ar E e.on=true:=by
         have:=List.all_eq_true.1 sP e gw
         rwa [j6,Bool.not_true,Bool.false_or] at this
        rcases O3 with rfl|O3
        ·exact hE
        ·have oE:e.on<i:=by
          have:=List.all_eq_true.1 o2 e gw;rw[j6] at this;simpa [Nat.blt_eq] using this
         exact Hh e.on (by omega) hE m O3
   have j9:i<m:=by
        refine Classical.byContradiction fun fN=>jH fun j hj=>?_;exact xH j (x9 i (by omega) bC j (by omega))
   obtain⟨o',dL,jI⟩:=aR i j9;rw[ho] at dL;cases dL;obtain⟨o1,o3⟩:=at5 i j9 o ho;have dg:((oN (q.map (·.2)) m).getD i []).all (ar E)=true:=by
        rw[List.all_eq_true] at o1 ⊢;exact fun m hm=>xH m (o1 m hm)
   have asJ:sH C (S.withR (eW ops (q.map (·.1)) ((List.range m).filter (ar E)) S.r)) ops o=some ((q.map (·.1)).getD i .none,(q.map (·.2)).getD i []):=by
        rw[←jI];refine apf (S:=S.withR (eW ops (q.map (·.1)) (List.range i) S.r)) fun t ht=>?_;refine agr PB (fun j hj=>?_) (fun _ _ _=>rfl);have eD:j<ops.size:=by
         rw[Option.bind_eq_some_iff] at hj;obtain⟨oj,h1,_⟩:=hj;exact(Array.getElem?_eq_some_iff.1 h1).1
        rw[List.mem_filter,List.mem_range,List.mem_range];rcases o3 t ht j eD hj with⟨h1,h2⟩|h1
        ·exact⟨fun _=>h1,fun _=>⟨by omega,xH j h2⟩⟩
        ·constructor
         ·rintro⟨_,oy⟩;have:=Hh j eD oy i h1;rw[df] at this;cases this
         ·intro sS;exfalso;have key:∀m j,j<ops.size→ar ((dk ops ops.size).getD j 0) m=true→m<j:=by
           intro m j
           induction j using Nat.strongRecOn with
           |ind j ly=>
            intro hj hm;have Ce:ops[j]?=some ops[j]:=Array.getElem?_eq_getElem hj;have p2:=BO j hj _ Ce;obtain⟨e,e1,e2,e3⟩:=GD hj Ce p2 hm;have oE:e.on<j:=by
                have:=List.all_eq_true.1 p2 e e1;rw[e2] at this;simpa [Nat.blt_eq] using this
            rcases e3 with rfl|e3
            ·exact oE
            ·have:=ly e.on oE (by omega) e3;omega
          have:=key i j eD h1;omega
   have hcp:=ape asJ;rw[af4 j9 df dg,Option.bind_eq_some_iff] at ak;obtain⟨ρ1,hρ1,hρ2⟩:=ak;have vd:∀d,o.dst=some d→¬ud ops E d∧d<a.tmps.size:=by
        intro d hd;refine⟨fun⟨i',o',du,dL,dH⟩=>?_,?_⟩
        ·have aE:i'≠i:=fun e=>by subst e;rw[df] at du;cases du
         exact uO.dst_once bu dL ho dH hd aE
        ·have:=List.all_eq_true.1 az.2 o (by simpa using Array.mem_of_getElem? ho);simp only[hd,Bool.and_eq_true] at this;rw[hn.size,Ca];simpa [Nat.blt_eq] using this.2
   have mD:rK o.op=true:=by
        have:=List.all_eq_true.1 az.2 o (by simpa using Array.mem_of_getElem? ho);simp only[Bool.and_eq_true] at this;exact this.1
   have hj:∀j want t,o.guard=some (j,want)→(ops[j]?).bind (·.dst)=some t→ud ops E t:=by
        intro j want t jJ ht;rw[Option.bind_eq_some_iff] at ht;obtain⟨oj,h1,h2⟩:=ht;have sR:=List.all_eq_true.1 gd o (by simpa using Array.mem_of_getElem? ho);simp only[jJ] at sR;obtain⟨e,gw,j6⟩:=List.any_eq_true.1 sR;simp only[Bool.and_eq_true] at j6;have h3:=List.all_eq_true.1 sP e gw;rw[j6.1] at h3;simp only[Bool.not_true,Bool.false_or] at h3;exact⟨j,oj,by rw[←cK j6.2];exact h3,h1,h2⟩
   have asF:∀j,j<ops.size→ar (Nat.lor E (dA i)) j=true→∀m,ar ((dk ops ops.size).getD j 0) m=true→ar (Nat.lor E (dA i)) m=true:=by
        intro j hj oy m hm;rw[gY,Bool.or_eq_true] at oy;rw[gY,Bool.or_eq_true];rcases oy with oy|oy
        ·exact .inl (Hh j hj oy m hm)
        ·rw[←cK oy] at hm;exact .inl (xH m hm)
   have main:=GF (rd:=rd) (K:=wpAnyIn (FR rd) 0 C.P .any ops Q k (listed.setIfInBounds i true)) (Q:=Q) hg hC ba hΦ hY mD vd hj hcp hρ1 (fun a' w' fg p9=>by
        have hA:(fun u=>ud ops E u∨o.dst=some u)=ud ops (Nat.lor E (dA i)):=by
         funext u;apply propext;constructor
         ·rintro(⟨i',o',h1,h2,h3⟩|h1)
          ·exact⟨i',o',by rw[gY,h1,Bool.true_or],h2,h3⟩
          ·exact⟨i,o,by rw[gY,Nat.beq_refl,Bool.or_true],ho,h1⟩
         ·rintro⟨i',o',h1,h2,h3⟩;rw[gY,Bool.or_eq_true] at h1;rcases h1 with h1|h1
          ·exact .inl ⟨i',o',h1,h2,h3⟩
          ·rw[←cK h1,ho] at h2;cases h2;exact .inr h3
        rw[hA] at fg;have hSt:mW (S.withR (eW ops (q.map (·.1)) ((List.range m).filter (ar E)) S.r)) o ((q.map (·.1)).getD i .none)=S.withR (eW ops (q.map (·.1)) ((List.range m).filter (ar (Nat.lor E (dA i)))) S.r):=by
         have as3:∀t,(mW (S.withR (eW ops (q.map (·.1)) ((List.range m).filter (ar E)) S.r)) o ((q.map (·.1)).getD i .none)).r t=eW ops (q.map (·.1)) ((List.range m).filter (ar (Nat.lor E (dA i)))) S.r t:=by
          intro t;by_cases Hk:o.dst=some t
          ·have hb:(ops[i]?).bind (·.dst)=some t:=by rw[ho];exact Hk
           rw[Mh PB hb (List.mem_filter.2 ⟨List.mem_range.2 j9,by rw[gY,Nat.beq_refl,Bool.or_true]⟩)];unfold mW;rw[Hk];simp[St.setR,aQ]
          ·have e1:(mW (S.withR (eW ops (q.map (·.1)) ((List.range m).filter (ar E)) S.r)) o ((q.map (·.1)).getD i .none)).r t=eW ops (q.map (·.1)) ((List.range m).filter (ar E)) S.r t:=by
            unfold mW;split
            ·rename_i d hd;exact bk _ _ (fun e=>Hk (by rw[hd,e]))
            ·rfl
           rw[e1];refine agr PB (fun j hj=>?_) (fun _ _ _=>rfl);have sS:¬i=j:=fun e=>by subst e;rw[ho] at hj;exact Hk hj
           rw[List.mem_filter,List.mem_filter,gY,ez sS,Bool.or_false]
         have:∀(X Y:St),X.o=Y.o→X.ver=Y.ver→(∀t,X.r t=Y.r t)→X=Y:=by
          intro X Y h1 h2 h3;cases X;cases Y;simp only at h1 h2 h3;subst h1 h2
          congr 1
          exact funext h3
         refine this _ _ ?_ ?_ as3
         ·unfold mW;split<;>rfl
         ·unfold mW;split<;>rfl
        rw[hSt] at fg;refine ih _ _ ρ1 a' w' (by have:=aB5 bC df;omega) (fun j hj=>by rw[gY,Bool.or_eq_true] at hj;rcases hj with hj|hj;exact vm j hj;rw[←cK hj];exact j9) asF (by simpa using aK) (fun j=>?_) (hn.trans (p9.mono fun t e=>⟨o,by simpa using Array.mem_of_getElem? ho,e⟩)) fg hρ2;rw[gY];simp only[Array.getD_eq_getD_getElem?,Array.getElem?_setIfInBounds];by_cases cw:i=j
        ·subst cw;simp[aK,bC]
        ·rw[if_neg cw,ez cw,Bool.or_false,←hl j];simp only[Array.getD_eq_getD_getElem?])
   simp only[wpOpIn,ho];split
   ·rename_i hw;rw[if_pos hw] at main;exact main
   ·rename_i hw;rw[if_neg hw] at main;exact⟨fun _ _=>trivial,main⟩
theorem azE {rd:Option Nat}(hC:CtxOK C σ0)(ba:dz C)(hΦ:cY C Φ)(hY:nX C Φ w0 σ0){ops:Array Oper}(az:qB n ops=true)(gd:BI ops=true)(BO:(List.range ops.size).all (GU ops)=true){m:Nat}
 (x9:∀i,m≤i→i<ops.size→∀j,j<i→ar ((dk ops ops.size).getD i 0) j=true) {Q:Exit→Act→World→Prop} {ρ':Env}:
 ∀(k i:Nat) {S:St} {ρ:Env} {a:Act} {w:World} {r:St×List PI} (listed:Array Bool),i+k=ops.size→m≤i→listed.size=ops.size→(∀j,listed.getD j false=decide (j<i))→a.tmps.size=n→
  Good C w0 σ0 S ρ (kT ops (List.range i)) a w→m8 C ops (List.range' i k) S=some r→PI.runs Φ r.2 ρ=some ρ'→
  (∀a' w',SameBut (pG ops) a a'→Good C w0 σ0 r.1 ρ' (kT ops (List.range ops.size)) a' w'→Q .normal a' w')→wpAnyIn (FR rd) 0 C.P .any ops Q k listed a w:=by
 have HF:=az;simp only[qB,Bool.and_eq_true] at az;have bu:=mQ az.1
 have Na:∀i,i<ops.size→∀o,ops[i]?=some o→(o.after.toList.all fun e=> !Region.binds .any e||Nat.blt e.on i)=true:=by
  intro i hi o ho;have:=List.all_eq_true.1 BO i (List.mem_range.2 hi);unfold GU at this;rw[ho] at this;exact this
 have mem:∀(listed:Array Bool) (i j:Nat),listed.size=ops.size→(∀j,listed.getD j false=decide (j<i))→(j∈Region.ready .any ops listed↔(j<ops.size∧¬j<i∧∀o,ops[j]?=some o→(o.after.toList.all fun e=> !Region.binds .any e||decide (e.on<i))=true)):=by
  intro listed i j aK hl;unfold Region.ready;simp only[List.mem_filter,List.mem_range];refine and_congr_right fun hj=>?_;have h1:listed.getD j true=decide (j<i):=by
   rw[←hl j];simp only[Array.getD_eq_getD_getElem?];rw[Array.getElem?_eq_getElem (by omega)];rfl
  have h2:ops[j]?=some ops[j]:=Array.getElem?_eq_getElem hj;rw[h1,h2];simp only[Option.map_some,Option.getD_some,←Array.all_toList,hl,Bool.and_eq_true,Bool.not_eq_true',decide_eq_false_iff_not,Option.some.injEq,forall_eq']
 intro k
 induction k with
 |zero=>
  intro i S ρ a w r listed hik hmi aK hl hn hg hr ak hQ;simp only[List.range'_zero,m8,Option.some.injEq] at hr;subst hr;rw[mT ak] at hQ;refine⟨?_,hQ a w (.refl _ _) ?_⟩
  ·rw[List.eq_nil_iff_forall_not_mem];intro j hj;rw[mem listed i j aK hl] at hj;exact hj.2.1 (by omega)
  ·have:i=ops.size:=by omega
   rw[←this];exact hg
 |succ k ih=>
  intro i S ρ a w r listed hik hmi aK hl hn hg hr ak hQ;have bC:i<ops.size:=by omega
  have ho:ops[i]?=some ops[i]:=Array.getElem?_eq_getElem bC;generalize ops[i]=o at ho;refine⟨fun he=>?_,fun i' du=>?_⟩
  ·have:i∈Region.ready .any ops listed:=by
        rw[mem listed i i aK hl];refine⟨bC,by omega,fun o' dL=>?_⟩;rw[List.all_eq_true];intro e jf;have:=List.all_eq_true.1 (Na i bC o' dL) e jf;cases hb:Region.binds .any e with
        |false=>rfl
        |true=>
         rw[hb] at this;simp only[Bool.not_true,Bool.false_or,Nat.blt_eq] at this;simpa using this
   rw[he] at this;cases this
  ·rw[mem listed i i' aK hl] at du;obtain⟨h1,h2,h3⟩:=du;obtain rfl:i'=i:=by
        refine Classical.byContradiction fun aE=>?_;have dL:ops[i']?=some ops[i']:=Array.getElem?_eq_getElem h1;have xH:=x9 i' (by omega) h1 i (by omega);have af:∀m j,j<ops.size→ar ((dk ops ops.size).getD j 0) m=true→m<j:=by
         intro m j
         induction j using Nat.strongRecOn with
         |ind j ly=>
          intro hj hm;have Ce:ops[j]?=some ops[j]:=Array.getElem?_eq_getElem hj;have p2:=Na j hj _ Ce;obtain⟨e,e1,e2,e3⟩:=GD hj Ce p2 hm;have oE:e.on<j:=by
           have:=List.all_eq_true.1 p2 e e1;rw[e2] at this;simpa [Nat.blt_eq] using this
          rcases e3 with rfl|e3
          ·exact oE
          ·have:=ly e.on oE (by omega) e3;omega
        obtain⟨e,e1,e2,e3⟩:=GD h1 dL (Na i' h1 _ dL) xH;have h4:=List.all_eq_true.1 (h3 _ dL) e e1;rw[e2] at h4;simp only[Bool.not_true,Bool.false_or,decide_eq_true_eq] at h4;rcases e3 with e3|e3
        ·omega
        ·have:=af i e.on (by omega) e3;omega
   rw[List.range'_succ] at hr;simp only[m8,ho] at hr;simp only[Option.bind_eq_some_iff,Option.map_eq_some_iff] at hr;obtain⟨r1,gS,q,hq,rfl⟩:=hr;simp only[nQ,Option.bind_eq_some_iff] at ak;obtain⟨ρ1,hρ1,hρ2⟩:=ak;have vd:∀d,o.dst=some d→¬kT ops (List.range i') d∧d<a.tmps.size:=by
        intro d hd;refine⟨fun⟨i2,o2,vh,jK,dt⟩=>?_,?_⟩
        ·have aE:i2≠i':=by have:=List.mem_range.1 vh;omega
         exact uO.dst_once bu jK ho dt hd aE
        ·have:=List.all_eq_true.1 az.2 o (by simpa using Array.mem_of_getElem? ho);simp only[hd,Bool.and_eq_true] at this;rw[hn];simpa [Nat.blt_eq] using this.2
   have mD:rK o.op=true:=by
        have:=List.all_eq_true.1 az.2 o (by simpa using Array.mem_of_getElem? ho);simp only[Bool.and_eq_true] at this;exact this.1
   have hj:∀j want t,o.guard=some (j,want)→(ops[j]?).bind (·.dst)=some t→kT ops (List.range i') t:=by
        intro j want t jJ ht;rw[Option.bind_eq_some_iff] at ht;obtain⟨oj,h1,h2⟩:=ht;have sR:=List.all_eq_true.1 gd o (by simpa using Array.mem_of_getElem? ho);simp only[jJ] at sR;obtain⟨e,gw,j6⟩:=List.any_eq_true.1 sR;simp only[Bool.and_eq_true] at j6;have h4:=List.all_eq_true.1 (h3 o ho) e gw;rw[j6.1] at h4;simp only[Bool.not_true,Bool.false_or,decide_eq_true_eq] at h4;exact⟨j,oj,List.mem_range.2 (by rw[←cK j6.2];exact h4),h1,h2⟩
   have main:=GF (rd:=rd) (K:=wpAnyIn (FR rd) 0 C.P .any ops Q k (listed.setIfInBounds i' true)) (Q:=Q) hg hC ba hΦ hY mD vd hj gS hρ1 (fun a' w' fg iu=>by
        have:(fun u=>kT ops (List.range i') u∨o.dst=some u)=kT ops (List.range (i'+1)):=by
         funext u;apply propext;constructor
         ·rintro(⟨i2,o2,h1,h2,h3⟩|h1)
          ·exact⟨i2,o2,List.mem_range.2 (by have:=List.mem_range.1 h1;omega),h2,h3⟩
          ·exact⟨i',o,List.mem_range.2 (by omega),ho,h1⟩
         ·rintro⟨i2,o2,g1,g2,g3⟩;by_cases e:i2=i'
          ·rw[e,ho] at g2;cases g2;exact .inr g3
          ·exact .inl ⟨i2,o2,List.mem_range.2 (by have:=List.mem_range.1 g1;omega),g2,g3⟩
        rw[this] at fg;refine ih (i'+1) _ (by omega) (by omega) (by simpa using aK) (fun j=>?_) (iu.size.trans hn) fg hq hρ2 (fun a2 w2 s2 g2=>hQ a2 w2 ((iu.mono fun t e=>⟨o,by simpa using Array.mem_of_getElem? ho,e⟩).trans s2) g2);simp only[Array.getD_eq_getD_getElem?,Array.getElem?_setIfInBounds];by_cases cw:i'=j
        ·subst cw;simp[aK,bC]
        ·rw[if_neg cw];have:=hl j;simp only[Array.getD_eq_getD_getElem?] at this;rw[this];by_cases af:j<i'
         ·rw[decide_eq_true af,decide_eq_true (by omega:j<i'+1)]
         ·rw[decide_eq_false af,decide_eq_false (by omega:¬j<i'+1)])
   simp only[wpOpIn,ho];split
   ·rename_i hw;rw[if_pos hw] at main;exact main
   ·rename_i hw;rw[if_neg hw] at main;exact⟨fun _ _=>trivial,main⟩
end
def S7 (C:Ctx)(n:Nat)(ids:List Nat)(ops:Array Oper)(draw:Bool)(S:Snap):Option (Snap×List PI):=
 bif qB n ops then
    bif draw then
     bif BI ops&&C.P.follows .mixedOrders then
        match XR C ops (S.st ids) with
        |some r=>some (⟨ug (eV r.1) r.1 S.rs (ops.toList.filterMap (·.dst)),ids.map fun j=>gD r.1 (r.1.o j)⟩,r.2)
        |none=>
        (mU C ops (List.range ops.size) (S.st ids)).bind fun X=>
         (Ef ops (Ry C ops n ids X (oN X ops.size)) ops.size [(0,⟨S.rs.map fun s=>ki (S.st ids) (cr s),ids.map fun j=>gD (S.st ids) ((S.st ids).o j)⟩)]).map fun T=>(⟨T.rs.map (eV (T.stO ids)),ids.map fun j=>gD (T.stO ids) ((T.stO ids).o j)⟩,X.flatten)
     else none
    else bif X2 ops then(m8 C ops (List.range ops.size) (S.st ids)).map fun r=>(⟨ug (eV r.1) r.1 S.rs (ops.toList.filterMap (·.dst)),ids.map fun j=>gD r.1 (r.1.o j)⟩,r.2) else none
 else none
def wT (ops:Array Oper)(E:Nat):Nat→Prop:=fun t=>∃i o,ar E i=true∧ops[i]?=some o∧o.dst=some t
section
variable {C:Ctx} {S:St} {ρ:Env} {σ:Im} {own:Nat→Option Nat} {hv:Nat→Value} {w0:World} {σ0:Base} {A:Nat→Prop} {a:Act} {w:World} {n:Nat} {ids:List Nat} {Φ:aS}
theorem S6 {ops:Array Oper}{listed:Array Bool}{E:Nat}(aK:listed.size=ops.size)(hl:∀i,listed.getD i false=ar E i)(i:Nat):i∈Region.ready .any ops listed↔i∈nP ops E:=by
 unfold Region.ready nP;simp only[List.mem_filter,List.mem_range];refine and_congr_right fun hi=>?_;have h1:listed.getD i true=ar E i:=by
  rw[←hl i];simp only[Array.getD_eq_getD_getElem?];rw[Array.getElem?_eq_getElem (by omega)];rfl
 have h2:ops[i]?=some ops[i]:=Array.getElem?_eq_getElem hi;rw[h1,h2];simp only[Option.map_some,Option.getD_some,←Array.all_toList,hl]
theorem azg {rd:Option Nat}(hC:CtxOK C σ0)(ba:dz C)(hΦ:cY C Φ)(hY:nX C Φ w0 σ0){a0:Act}(Ca:a0.tmps.size=n){ops:Array Oper}(az:qB n ops=true)(gd:BI ops=true){X:List (List PI)}{Q:Exit→Act→World→Prop}{ρ':Env}:
 ∀(k:Nat) {L:List (Nat×Snap)} {T:Snap},Ef ops (Ry C ops n ids X (oN X ops.size)) k L=some T→
  (∀a' w',SameBut (pG ops) a0 a'→Good C w0 σ0 (T.stO ids) ρ' (fun t=>∃E,wT ops E t) a' w'→Q .normal a' w')→
  ∀(E:Nat) (U:Snap),(E,U)∈L→∀(listed:Array Bool) (ρ:Env) (a:Act) (w:World),listed.size=ops.size→(∀i,listed.getD i false=ar E i)→SameBut (pG ops) a0 a→
   Good C w0 σ0 (U.stO ids) ρ (wT ops E) a w→PI.runs Φ (ec X (List.range ops.size) E) ρ=some ρ'→wpAnyIn (FR rd) 0 C.P .any ops Q k listed a w:=by
 simp only[qB,Bool.and_eq_true] at az;have bu:=mQ az.1;intro k
 induction k with
 |zero=>
  intro L T hs hQ E U hm listed ρ a w aK hl hn hg ak;simp only[Ef] at hs;split at hs
  case h_2=>cases hs
  rename_i x;cases aR:(List.range ops.size).all (ar x.1)<;>simp only[aR,cond_true,cond_false] at hs
  ·cases hs
  cases hs;simp only[List.mem_singleton] at hm;subst hm;simp only at aR hg hQ ak hl;have jH:=List.all_eq_true.1 aR;have O4:ec X (List.range ops.size) E=[]:=by
   unfold ec;rw[List.flatMap_eq_nil_iff];intro i hi;rw[jH i hi];rfl
  rw[O4] at ak;simp only[PI.runs,Option.some.injEq] at ak;subst ak;refine⟨?_,hQ a w hn ?_⟩
  ·rw[List.eq_nil_iff_forall_not_mem];intro i hi;rw[S6 aK hl] at hi;unfold nP at hi;simp only[List.mem_filter,Bool.and_eq_true,Bool.not_eq_true'] at hi;rw[jH i hi.1] at hi;cases hi.2.1
  ·obtain⟨σ,own,hv,h⟩:=hg;exact⟨σ,own,hv,h.defers,h.ok,h.le,h.old,h.newc,h.newm,h.below,h.bw,h.owns,h.regs,h.objs,fun t gs s e=>⟨fun g hm=>⟨E,(h.opts t gs s e).1 g hm⟩,(h.opts t gs s e).2⟩,h.frame⟩
 |succ k ih=>
  intro L T hs hQ E U hm listed ρ a w aK hl hn hg ak;simp only[Ef,Option.bind_eq_some_iff] at hs;obtain⟨L',hL,hs⟩:=hs;obtain⟨_,cS⟩:=aab hL;obtain⟨aE,PX⟩:=cS _ hm;refine⟨fun he=>?_,fun i hi=>?_⟩
  ·exfalso;refine aE ?_;rw[List.eq_nil_iff_forall_not_mem];intro i hi;rw[←S6 aK hl,he] at hi;cases hi
  ·rw[S6 aK hl] at hi;obtain⟨y,hy,hyL⟩:=PX i hi;unfold nP at hi;simp only[List.mem_filter,List.mem_range,Bool.and_eq_true,Bool.not_eq_true'] at hi;obtain⟨bC,df,sP⟩:=hi;simp only[Ry] at hy;split at hy
   case h_2=>cases hy
   rename_i o ho;simp only[Option.bind_eq_some_iff] at hy;obtain⟨r,hr,hy⟩:=hy;cases hc:(PI.beqs r.2 (X.getD i [])&&((oN X ops.size).getD i []).all (ar E))<;>simp only[hc,cond_true,cond_false] at hy
   ·cases hy
   cases hy;simp only[Bool.and_eq_true] at hc;have hX:=PI.beqs_eq _ _ hc.1;rw[af4 bC df hc.2,Option.bind_eq_some_iff] at ak;obtain⟨ρ1,hρ1,hρ2⟩:=ak;rw[←hX] at hρ1;rw[ho] at sP;simp only at sP;have vd:∀d,o.dst=some d→¬wT ops E d∧d<a.tmps.size:=by
        intro d hd;refine⟨fun⟨i',o',du,dL,dH⟩=>?_,?_⟩
        ·have aE:i'≠i:=fun e=>by subst e;rw[df] at du;cases du
         exact uO.dst_once bu dL ho dH hd aE
        ·have:=List.all_eq_true.1 az.2 o (by simpa using Array.mem_of_getElem? ho);simp only[hd,Bool.and_eq_true] at this;rw[hn.size,Ca];simpa [Nat.blt_eq] using this.2
   have mD:rK o.op=true:=by
        have:=List.all_eq_true.1 az.2 o (by simpa using Array.mem_of_getElem? ho);simp only[Bool.and_eq_true] at this;exact this.1
   have hj:∀j want t,o.guard=some (j,want)→(ops[j]?).bind (·.dst)=some t→wT ops E t:=by
        intro j want t jJ ht;rw[Option.bind_eq_some_iff] at ht;obtain⟨oj,h1,h2⟩:=ht;have sR:=List.all_eq_true.1 gd o (by simpa using Array.mem_of_getElem? ho);simp only[jJ] at sR;obtain⟨e,gw,j6⟩:=List.any_eq_true.1 sR;simp only[Bool.and_eq_true] at j6;have h3:=List.all_eq_true.1 sP e gw;rw[j6.1] at h3;simp only[Bool.not_true,Bool.false_or] at h3;exact⟨j,oj,by rw[←cK j6.2];exact h3,h1,h2⟩
   have main:=GF (rd:=rd) (K:=wpAnyIn (FR rd) 0 C.P .any ops Q k (listed.setIfInBounds i true)) (Q:=Q) hg hC ba hΦ hY mD vd hj hr hρ1 (fun a' w' fg p9=>by
        have hA:(fun u=>wT ops E u∨o.dst=some u)=wT ops (Nat.lor E (dA i)):=by
         funext u;apply propext;constructor
         ·rintro(⟨i',o',h1,h2,h3⟩|h1)
          ·exact⟨i',o',by rw[gY,h1,Bool.true_or],h2,h3⟩
          ·exact⟨i,o,by rw[gY,Nat.beq_refl,Bool.or_true],ho,h1⟩
         ·rintro⟨i',o',h1,h2,h3⟩;rw[gY,Bool.or_eq_true] at h1;rcases h1 with h1|h1
          ·exact .inl ⟨i',o',h1,h2,h3⟩
          ·rw[←cK h1,ho] at h2;cases h2;exact .inr h3
        rw[hA] at fg
        refine ih hs hQ _ _ hyL _ ρ1 a' w' (by simpa using aK) (fun j=>?_) (hn.trans (p9.mono fun t e=>⟨o,by simpa using Array.mem_of_getElem? ho,e⟩)) (by
         have:=fg.snapO U.rs.length ids
         rw[show r.1.snapO U.rs.length ids=⟨ug (ki r.1) r.1 U.rs o.dst.toList,ids.map fun j=>gD r.1 (r.1.o j)⟩ from by
          unfold St.snapO;rw[Ej fun t ht=>?_];rw[W9 hr t (fun e=>ht (by rw[e];simp))];rfl] at this
         exact this) hρ2
        rw[gY];simp only[Array.getD_eq_getD_getElem?,Array.getElem?_setIfInBounds];by_cases cw:i=j
        ·subst cw;simp[aK,bC]
        ·rw[if_neg cw,ez cw,Bool.or_false,←hl j];simp only[Array.getD_eq_getD_getElem?])
   simp only[wpOpIn,ho];split
   ·rename_i hw;rw[if_pos hw] at main;exact main
   ·rename_i hw;rw[if_neg hw] at main;exact⟨fun _ _=>trivial,main⟩
theorem agl {ops:Array Oper}:∀{l:List Nat} {S:St} {X:List (List PI)},mU C ops l S=some X→X.length=l.length
 |[],S,X,h=>by simp only[mU,Option.some.injEq] at h;subst h;rfl
 |i::l,S,X,h=>by
  simp only[mU] at h;split at h
  case h_2=>cases h
  simp only[Option.bind_eq_some_iff,Option.map_eq_some_iff] at h;obtain⟨r,_,q,hq,rfl⟩:=h;simp[agl hq]
theorem af5 (X:List (List PI)):ec X (List.range X.length) 0=X.flatten:=by
 have h0:∀i,ar 0 i=false:=fun i=>by rw[qP];simp
 have key:∀(Y Z:List (List PI)),ec (Y++Z) (List.range' Y.length Z.length) 0=Z.flatten:=by
  intro Y Z
  induction Z generalizing Y with
  |nil=>rfl
  |cons z Z ih=>
   have:=ih (Y++[z]);simp only[List.append_assoc,List.singleton_append,List.length_append,List.length_cons,List.length_nil,Nat.zero_add] at this;rw[List.length_cons,List.range'_succ];have e:ec (Y++z::Z) (Y.length::List.range' (Y.length+1) Z.length) 0=(Y++z::Z).getD Y.length []++ec (Y++z::Z) (List.range' (Y.length+1) Z.length) 0:=by
        unfold ec;rw[List.flatMap_cons,h0];rfl
   rw[e,this,List.flatten_cons]
   congr 1
   simp[List.getD_eq_getElem?_getD]
 have:=key [] X;simp only[List.nil_append,List.length_nil] at this;rw[List.range_eq_range'];exact this
theorem ayS (ba:dz C)(hΦ:cY C Φ):MZ C n ids Φ (S7 C n ids):=by
 intro id ops draw S r hr rd w0 σ0 ρ ρ' a w Q hC hY hn hg ak hQ;unfold S7 at hr;cases az:qB n ops<;>simp only[az,cond_true,cond_false] at hr
 ·cases hr
 cases draw with
 |false=>
  simp only[cond_false] at hr;cases YB:X2 ops<;>simp only[YB,cond_true,cond_false] at hr
  ·cases hr
  simp only[Option.map_eq_some_iff] at hr;obtain⟨q,hq,rfl⟩:=hr;refine wpIn_region ?_
  have oI:kT ops []=fun _=>False:=by
   funext t;apply propext;constructor
   ·rintro⟨i,o,h,_⟩;cases h
   ·intro h;exact h.elim
  refine uO hC ba hΦ hY az (List.range ops.size) [] (by simpa using List.nodup_range) (fun p i q o j want hl ho jJ=>?_) hn (by rw[oI];exact hg) hq ak (fun a' w' gx fg=>hQ a' w' gx (by
   have:=fg.snapF S.rs.length ids
   rw[show q.1.snap S.rs.length ids=⟨ug (eV q.1) q.1 S.rs (ops.toList.filterMap (·.dst)),ids.map fun j=>gD q.1 (q.1.o j)⟩ from by
        unfold St.snap;rw[Ej fun t ht=>?_];rw[N4 hq t (fun i o hi ho e=>ht (List.mem_filterMap.2 ⟨o,by simpa using Array.mem_of_getElem? ho,e⟩))];show _=eV q.1 (cr (S.rs.getD t .none));cases S.rs.getD t .none<;>rfl] at this
   exact this))
  have hi:i<ops.size:=by
   have:i∈List.range ops.size:=by rw[hl];simp
   exact List.mem_range.1 this
  have hb:=List.all_eq_true.1 YB i (List.mem_range.2 hi);rw[ho] at hb;simp only[jJ,Nat.blt_eq] at hb;have hp:=List.pairwise_lt_range (n:=ops.size);have sT:j∈List.range ops.size:=List.mem_range.2 (by omega);rw[hl,List.pairwise_append] at hp;obtain⟨_,eR,_⟩:=hp;rw[List.pairwise_cons] at eR;rw[hl,List.mem_append] at sT;simp only[List.nil_append];rcases sT with hm|hm
  ·exact hm
  ·rcases List.mem_cons.1 hm with e|hm
   ·omega
   ·have:=eR.1 j hm;omega
 |true=>
  simp only[cond_true] at hr;cases gd:(BI ops&&C.P.follows .mixedOrders)<;>simp only[gd,cond_true,cond_false] at hr
  ·cases hr
  simp only[Bool.and_eq_true] at gd;have h0:∀i,ar 0 i=false:=fun i=>by rw[qP];simp
  split at hr
  case h_1=>
   rename_i r jI;cases hr;generalize P2:nS (dk ops ops.size) ops.size=m at*;unfold XR at jI;rw[P2] at jI;have atL:m≤ops.size:=P2▸agB _ _;have x9:∀i,m≤i→i<ops.size→∀j,j<i→ar ((dk ops ops.size).getD i 0) j=true:=P2▸agA _ _;rw[Option.bind_eq_some_iff] at jI;obtain⟨q,hq,jI⟩:=jI;cases sX:BC ops (oN (q.map (·.2)) m) (dk ops ops.size) m<;>simp only[sX,cond_true,cond_false] at jI
   ·cases jI
   rw[Option.map_eq_some_iff] at jI;obtain⟨r1,gS,rfl⟩:=jI;refine wpIn_region_any gd.2 ?_
   have oI:ud ops 0=fun _=>False:=by
        funext t;apply propext;constructor
        ·rintro⟨i,o,h,_⟩;rw[h0] at h;cases h
        ·intro h;exact h.elim
   have hlen:(q.map (·.2)).length=m:=by rw[List.length_map];exact(Oy hq).1
   have auS:qI ops 0=ops.size:=by
        unfold qI;have:((List.range ops.size).filter fun i=> !ar 0 i)=List.range ops.size:=List.filter_eq_self.2 fun i _=>by rw[h0];rfl
        rw[this,List.length_range]
   have nm:(List.range m).filter (ar 0)=[]:=List.filter_eq_nil_iff.2 fun i _=>by rw[h0];simp
   simp only[nQ,Option.bind_eq_some_iff] at ak;obtain⟨ρ1,hρ1,hρ2⟩:=ak;have PF:=sX;unfold BC at PF;rw[Bool.and_eq_true] at PF;refine aph (w0:=w0) (S:=S.st ids) hC ba hΦ hY hn az gd.1 atL hq sX x9 (ρ':=ρ1) (fun listed a' w' aK hl gx fg=>?_) ops.size 0 _ ρ a _ auS (fun j hj=>by rw[h0] at hj;cases hj) (fun j _ hj=>by rw[h0] at hj;cases hj) (by simp) (fun i=>?_) (.refl _ _) ?_ ?_
   ·refine azE hC ba hΦ hY az gd.1 PF.2 x9 (ops.size-m) m listed (by omega) (Nat.le_refl _) aK hl (gx.size.trans hn) fg gS hρ2 (fun a2 w2 s2 g2=>hQ a2 w2 (gx.trans s2) (by
     have:=g2.snapF S.rs.length ids
     rw[show r1.1.snap S.rs.length ids=⟨ug (eV r1.1) r1.1 S.rs (ops.toList.filterMap (·.dst)),ids.map fun j=>gD r1.1 (r1.1.o j)⟩ from by
      unfold St.snap;rw[Ej fun t ht=>?_];rw[N4 gS t (fun i o hi ho e=>ht (List.mem_filterMap.2 ⟨o,by simpa using Array.mem_of_getElem? ho,e⟩))]
      have e1:eW ops (q.map (·.1)) (List.range m) (S.st ids).r t=(S.st ids).r t:=Eh fun i hi e=>by
        rw[Option.bind_eq_some_iff] at e;obtain⟨o,ho,hd⟩:=e;exact ht (List.mem_filterMap.2 ⟨o,by simpa using Array.mem_of_getElem? ho,hd⟩)
      show eV _ (S.rs.getD t .none)=eV _ (eW ops (q.map (·.1)) (List.range m) (S.st ids).r t);rw[e1];show _=eV _ (cr (S.rs.getD t .none));cases S.rs.getD t .none<;>rfl] at this
     exact this))
   ·rw[h0];simp only[Array.getD_eq_getD_getElem?,Array.getElem?_replicate];split<;>rfl
   ·rw[oI,nm];exact hg.drew
   ·rw[←hlen,af5];exact hρ1
  simp only[Option.bind_eq_some_iff,Option.map_eq_some_iff] at hr;obtain⟨X,hX,T,hT,rfl⟩:=hr;refine wpIn_region_any gd.2 ?_
  have oI:wT ops 0=fun _=>False:=by
   funext t;apply propext;constructor
   ·rintro⟨i,o,h,_⟩;rw[h0] at h;cases h
   ·intro h;exact h.elim
  have hlen:=agl hX;rw[List.length_range] at hlen
  refine azg (w0:=w0) hC ba hΦ hY hn az gd.1 (ρ':=ρ') ops.size hT (fun a' w' gx fg=>hQ a' w' gx (by
   have:=fg.snapF T.rs.length ids
   rw[show(T.stO ids).snap T.rs.length ids=⟨T.rs.map (eV (T.stO ids)),ids.map fun j=>gD (T.stO ids) ((T.stO ids).o j)⟩ from by
        unfold St.snap;have:=Ej (g:=eV (T.stO ids)) (S:=T.stO ids) (rs:=T.rs) (ds:=[]) (fun t _=>rfl);rw[←this];rfl] at this
   exact this)) 0 _ (List.mem_singleton.2 rfl) _ ρ a _ (by simp) (fun i=>?_) (.refl _ _) ?_ ?_
  ·rw[h0];simp only[Array.getD_eq_getD_getElem?,Array.getElem?_replicate];split<;>rfl
  ·rw[oI];have:=(hg.drew).snapO S.rs.length ids
   rw[show(S.st ids).snapO S.rs.length ids=⟨S.rs.map fun s=>ki (S.st ids) (cr s),ids.map fun j=>gD (S.st ids) ((S.st ids).o j)⟩ from by
        unfold St.snapO
        have:=Ej (g:=fun s=>ki (S.st ids) (cr s)) (S:=S.st ids) (rs:=S.rs) (ds:=[]) (fun t _=>by
         show ki _ (cr (S.rs.getD t .none))=ki _ (cr (cr (S.rs.getD t .none)));cases S.rs.getD t .none<;>rfl)
        have h2:(fun t=>ki (S.st ids) (cr ((S.st ids).r t)))=fun t=>ki (S.st ids) ((S.st ids).r t):=by
         funext t;show ki _ (cr (cr (S.rs.getD t .none)))=ki _ (cr (S.rs.getD t .none));cases S.rs.getD t .none<;>rfl
        rw[h2] at this;rw[←this];rfl] at this
   exact this
  ·rw[←hlen,af5];exact ak
end
end Cx
