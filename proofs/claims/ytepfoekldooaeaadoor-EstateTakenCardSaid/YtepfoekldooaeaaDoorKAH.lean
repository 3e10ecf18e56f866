/-
  Shared texts of this claim.
-/
import Derived.Test.YtepfoekldooaeaaDoorKAG
import Derived.Orders
set_option linter.unusedSimpArgs false
set_option linter.unusedVariables false
namespace Cx
open Go Go.RowKit
def ir (S:St):Sh→Sh
 |.opt gs s=>.opt gs (dI S s)
 |s=>dI S s
def St.snapO (n:Nat)(ids:List Nat)(S:St):Snap:=⟨(List.range n).map fun t=>ir S (S.r t),ids.map fun j=>fh S (S.o j)⟩
def Snap.stO (ids:List Nat)(s:Snap):St:=⟨fun t=>s.rs.getD t .none,fun j=>cP ids s.os j,fun _=>0⟩
theorem nW (S:St)(s:Sh):∀gs s',dI S s≠.opt gs s':=by
 intro gs s' e;cases s<;>simp only[dI] at e<;>first|cases e|(revert e;cases Nat.beq _ _<;>intro e<;>cases e)|(revert e;cases List.all _ _<;>intro e<;>cases e)
section
variable {C:Ctx} {S:St} {ρ:Env} {σ:Im} {own:Nat→Option Nat} {hv:Nat→Value} {w0:World} {σ0:Base} {A:Nat→Prop} {a:Act} {w:World} {n:Nat} {ids:List Nat} {Φ:aO}
theorem akb {s:Sh}{v:Value}{d:D}(h:ay C S ρ σ hv s v d){T:St}(hT:T.ver=fun _=>0):ay C T ρ σ hv (ir S s) v d:=by
 have hc:Compat S.norm hv T hv:=⟨fun j=>by rw[hT];exact Nat.zero_le _,fun _ _=>rfl⟩
 have key:∀s,ay C S ρ σ hv s v d→ay C T ρ σ hv (dI S s) v d:=fun s hs=>ay.mono' (.refl σ) hc (nW S s) (CQ hs).1;cases s with
 |opt gs s=>exact⟨fun hh=>key s (h.1 hh),h.2⟩
 |_=>exact key _ h
theorem Good.snapO (h:Good C w0 σ0 S ρ A a w)(n:Nat)(ids:List Nat):Good C w0 σ0 ((S.snapO n ids).stO ids) ρ A a w:=by
 obtain⟨σ,own,hv,h⟩:=h;have h1:=h.norm;have hc:Compat S.norm hv ((S.snapO n ids).stO ids) hv:=⟨fun _=>Nat.le_refl _,fun _ _=>rfl⟩
 refine⟨σ,own,hv,h.defers,h.ok,h.le,h.old,h.newc,h.newm,h.below,h.bw,h.owns,fun t=>?_,fun j=>?_,fun t gs s e=>?_,?_⟩
 rotate_right
 ·obtain⟨t,fx,cx,f1,f5⟩:=h.frame;refine⟨t,fx,cx,f1,fun j hj=>f5 j ?_⟩;exact yF (fun j=>fh S (S.o j)) (fun ob=>ob=.tr→S.o j=.tr) (fun e=>by cases e) j Ts ids hj
 ·show ay C _ ρ σ hv (((List.range n).map fun t=>ir S (S.r t)).getD t .none) _ _;rw[List.getD_eq_getElem?_getD,List.getElem?_map];by_cases ht:t<n
  ·rw[List.getElem?_range ht];exact akb (h.regs t) rfl
  ·rw[List.getElem?_eq_none (by simpa using ht)];trivial
 ·have ho:=(h1.objs j).mono (.refl σ) hc (w:=w) (w':=w) rfl rfl (fun k hk=>⟨hk,rfl⟩);exact yF (fun j=>fh S (S.o j)) (fun ob=>bJ C _ ρ σ own hv w w0.heap.size j ob) trivial j ho ids
 ·change ((List.range n).map fun t=>ir S (S.r t)).getD t .none=.opt gs s at e;rw[List.getD_eq_getElem?_getD,List.getElem?_map] at e;by_cases ht:t<n
  ·rw[List.getElem?_range ht] at e;simp only[Option.map_some,Option.getD_some] at e;cases hs:S.r t with
   |opt bn s'=>
    rw[hs] at e;simp only[ir,Sh.opt.injEq] at e;obtain⟨rfl,rfl⟩:=e;exact⟨(h.opts t bn s' hs).1,nW S s'⟩
   |none=>rw[hs] at e;exact absurd e (nW S .none gs s)
   |yv=>rw[hs] at e;exact absurd e (nW S .yv gs s)
   |fclo f c=>rw[hs] at e;exact absurd e (nW S (.fclo f c) gs s)
   |dat t=>rw[hs] at e;exact absurd e (nW S (.dat t) gs s)
   |obj t u=>rw[hs] at e;exact absurd e (nW S (.obj t u) gs s)
   |ptr t u v=>rw[hs] at e;exact absurd e (nW S (.ptr t u v) gs s)
   |eptr t u v x=>rw[hs] at e;exact absurd e (nW S (.eptr t u v x) gs s)
  ·rw[List.getElem?_eq_none (by simpa using ht)] at e;cases e
theorem Good.snapF (h:Good C w0 σ0 S ρ A a w)(n:Nat)(ids:List Nat):Good C w0 σ0 ((S.snap n ids).st ids) ρ (fun _=>False) a w:=by
 obtain⟨σ,own,hv,h⟩:=h;exact⟨σ,own,hv,h.snap n ids⟩
theorem Good.drew (h:Good C w0 σ0 S ρ A a w):Good C w0 σ0 S ρ A a {w with drawn:=w.drawn+1}:=by
 obtain⟨σ,own,hv,h⟩:=h;refine⟨σ,own,hv,h.defers,⟨fun k o v e=>h.ok.c k o v e,fun k es e=>h.ok.m k es e⟩,h.le,h.old,h.newc,h.newm,h.below.drew,h.bw,h.owns,h.regs,fun j=>?_,h.opts,?_⟩
 rotate_right
 ·obtain⟨t,fx,cx,f1,f2⟩:=h.frame;exact⟨t,fx,cx,⟨σ0.keep _ _ _ _ _ f1.F (Below.drew (.refl _ _)) (fun _ _=>rfl),f1.own,f1.c,f1.m,f1.d⟩,f2⟩
 exact(h.objs j).mono (.refl σ) (.refl S hv) rfl rfl (fun k hk=>⟨hk,rfl⟩)
end
def qk (g:Sh→Sh)(S:St)(rs:List Sh)(ds:List Nat):List Sh:=(ds.foldl (fun l d=>l.set d (S.r d)) rs).map g
theorem Pl (S:St):∀(ds:List Nat) (rs:List Sh),(ds.foldl (fun l d=>l.set d (S.r d)) rs).length=rs.length∧∀t,t<rs.length→(ds.foldl (fun l d=>l.set d (S.r d)) rs).getD t .none=if t∈ds then S.r t else rs.getD t .none
 |[],rs=>⟨rfl,fun t _=>by simp⟩
 |d::ds,rs=>by
  obtain⟨h1,h2⟩:=Pl S ds (rs.set d (S.r d));simp only[List.length_set] at h1 h2;refine⟨h1,fun t ht=>?_⟩;rw[List.foldl_cons,h2 t ht];simp only[List.mem_cons,List.getD_eq_getElem?_getD,List.getElem?_set];by_cases hm:t∈ds
  ·simp[hm]
  ·by_cases e:d=t
   ·subst e;simp[hm,ht]
   ·have e':¬t=d:=fun h=>e h.symm;simp[hm,e,e']
theorem zU {g:Sh→Sh}{S:St}{rs:List Sh}{ds:List Nat}(h:∀t,t∉ds→g (rs.getD t .none)=g (S.r t)):qk g S rs ds=(List.range rs.length).map fun t=>g (S.r t):=by
 obtain⟨h1,h2⟩:=Pl S ds rs;unfold qk;apply List.ext_getElem?;intro t;simp only[List.getElem?_map];by_cases ht:t<rs.length
 ·have:=h2 t ht;rw[List.getD_eq_getElem?_getD,List.getElem?_eq_getElem (by omega)] at this;rw[List.getElem?_eq_getElem (by omega),List.getElem?_range ht];simp only[Option.getD_some,Option.map_some] at this ⊢;rw[this];by_cases hm:t∈ds
  ·simp[hm]
  ·simp only[hm,if_false];rw[h t hm]
 ·rw[List.getElem?_eq_none (by omega),List.getElem?_eq_none (by simpa using ht)];rfl
def yz (E:Nat)(T:Snap):List (Nat×Snap)→Option (List (Nat×Snap))
 |[]=>some [(E,T)]
 |x::l=>bif Nat.beq x.1 E then(bif x.2.beq T then some (x::l) else none) else(yz E T l).map (x::·)
def kS (ops:Array Oper)(E:Nat):List Nat:=
 (List.range ops.size).filter fun i=> !ak E i&&(match ops[i]? with|some o=>o.after.toList.all fun e=> !Region.binds .any e||ak E e.on|none=>false)
def J7 (C:Ctx)(ops:Array Oper)(n:Nat)(ids:List Nat)(X:List (List PI))(nc:List (List Nat))(E:Nat)(T:Snap)(i:Nat):Option (Nat×Snap):=
 match ops[i]? with
 |some o=>(lg C (T.stO ids) ops o).bind fun r=>
  bif PI.beqs r.2 (X.getD i [])&&(nc.getD i []).all (ak E) then some (Nat.lor E (cR i),⟨qk (ir r.1) r.1 T.rs o.dst.toList,ids.map fun j=>fh r.1 (r.1.o j)⟩) else none
 |none=>none
def zV (one:Nat→Option (Nat×Snap)):List Nat→List (Nat×Snap)→Option (List (Nat×Snap))
 |[],acc=>some acc
 |i::l,acc=>(one i).bind fun x=>(yz x.1 x.2 acc).bind fun acc=>zV one l acc
def yE (ops:Array Oper)(one:Nat→Snap→Nat→Option (Nat×Snap)):List (Nat×Snap)→List (Nat×Snap)→Option (List (Nat×Snap))
 |[],acc=>some acc
 |x::l,acc=>
  match kS ops x.1 with
  |[]=>none
  |rs=>(zV (one x.1 x.2) rs acc).bind fun acc=>yE ops one l acc
def zR (ops:Array Oper)(one:Nat→Snap→Nat→Option (Nat×Snap)):Nat→List (Nat×Snap)→Option Snap
 |0,L=>
  match L with
  |[x]=>bif (List.range ops.size).all (ak x.1) then some x.2 else none
  |_=>none
 |k+1,L=>(yE ops one L []).bind fun L=>zR ops one k L
theorem QX {E:Nat}{T:Snap}:∀{l l':List (Nat×Snap)},yz E T l=some l'→(E,T)∈l'∧∀x,x∈l→x∈l'
 |[],l',h=>by simp only[yz,Option.some.injEq] at h;subst h;simp
 |x::l,l',h=>by
  simp only[yz] at h;cases hb:Nat.beq x.1 E<;>simp only[hb,cond_true,cond_false] at h
  ·simp only[Option.map_eq_some_iff] at h;obtain⟨l2,h2,rfl⟩:=h;obtain⟨h3,h4⟩:=QX h2;exact⟨List.mem_cons_of_mem _ h3,fun y hy=>(List.mem_cons.1 hy).elim (fun e=>e▸List.mem_cons_self ..) fun hm=>List.mem_cons_of_mem _ (h4 y hm)⟩
  ·cases hs:x.2.beq T<;>simp only[hs,cond_true,cond_false] at h
   ·cases h
   ·cases h;refine⟨?_,fun y hy=>hy⟩;have e1:=cn hb;have e2:=Snap.beq_eq _ _ hs;subst e1;subst e2;simp
theorem V7 {one:Nat→Option (Nat×Snap)}:∀{rs:List Nat} {acc vg:List (Nat×Snap)},zV one rs acc=some vg→(∀x,x∈acc→x∈vg)∧∀i,i∈rs→∃x,one i=some x∧x∈vg
 |[],acc,vg,h=>by simp only[zV,Option.some.injEq] at h;subst h;simp
 |i::rs,acc,vg,h=>by
  simp only[zV,Option.bind_eq_some_iff] at h;obtain⟨x,hx,WX,h1,h2⟩:=h;obtain⟨h3,h4⟩:=QX h1;obtain⟨h5,h6⟩:=V7 h2;refine⟨fun y hy=>h5 y (h4 y hy),fun j hj=>?_⟩;rcases List.mem_cons.1 hj with e|hm
  ·subst e;exact⟨x,hx,h5 _ h3⟩
  ·exact h6 j hm
theorem Rh {ops:Array Oper}{one:Nat→Snap→Nat→Option (Nat×Snap)}:∀{L acc L':List (Nat×Snap)},yE ops one L acc=some L'→
 (∀x,x∈acc→x∈L')∧∀x,x∈L→kS ops x.1≠[]∧∀i,i∈kS ops x.1→∃y,one x.1 x.2 i=some y∧y∈L'
 |[],acc,L',h=>by simp only[yE,Option.some.injEq] at h;subst h;simp
 |x::L,acc,L',h=>by
  simp only[yE] at h;split at h
  ·cases h
  ·rename_i av;simp only[Option.bind_eq_some_iff] at h;obtain⟨WX,h1,h2⟩:=h;obtain⟨h3,h4⟩:=V7 h1;obtain⟨h5,h6⟩:=Rh h2;refine⟨fun y hy=>h5 y (h3 y hy),fun y hy=>?_⟩;rcases List.mem_cons.1 hy with e|hm
   ·subst e;refine⟨fun e=>av e,fun i hi=>?_⟩;obtain⟨z,hz,hm⟩:=h4 i hi;exact⟨z,hz,h5 z hm⟩
   ·exact h6 y hm
def dp (X:List (List PI))(l:List Nat)(E:Nat):List PI:=l.flatMap fun i=>bif ak E i then[] else X.getD i []
theorem LB {X:List (List PI)}{E E':Nat}:∀(l:List Nat),(∀i,i∈l→ak E i=ak E' i)→dp X l E=dp X l E'
 |[],_=>rfl
 |i::l,h=>by
  have ih:=LB (X:=X) l fun j hj=>h j (List.mem_cons_of_mem _ hj);unfold dp at ih ⊢;simp only[List.flatMap_cons];rw[ih,h i (List.mem_cons_self ..)]
theorem Foot.comm_each {a b:List PI}(h:(fa a).comm (fa b)=true):∀p q,p∈a→q∈b→Comm p q:=by
 simp only[Foot.comm,Bool.and_eq_true] at h;obtain⟨h1,h2,h3,h4,h5,h6⟩:=h;intro p q hp hq;obtain⟨p1,p2,p3,p4⟩:=Pm hp;obtain⟨q1,q2,q3,q4⟩:=Pm hq;exact⟨fun t x y=>IY h1 (p1 t x) (q1 t y),fun t x y=>IY h2 (p1 t x) (q3 t y),fun t x y=>IY h3 (q1 t x) (p3 t y),fun t x y=>F0 h4 (p2 t x) (q2 t y),fun t x y=>F0 h5 (p2 t x) (q4 t y),fun t x y=>F0 h6 (q2 t x) (p4 t y)⟩
def lO (X:List (List PI))(N:Nat):List (List Nat):=
 (List.range N).map fun i=>(List.range i).filter fun j=> !(fa (X.getD j [])).comm (fa (X.getD i []))
theorem fE (E i j:Nat):ak (Nat.lor E (cR i)) j=(ak E j||Nat.beq i j):=by
 rw[dB]
 congr 1
 rw[nl];show(1<<<i).testBit j=_;rw[Nat.testBit_shiftLeft];by_cases h:i=j
 ·subst h;simp
 ·have h1:Nat.beq i j=false:=dO h;rw[h1];by_cases h2:i≤j
  ·have:j-i≠0:=by omega
   cases hk:j-i with
   |zero=>omega
   |succ k=>
    have:(1:Nat).testBit (k+1)=false:=by simp[Nat.testBit_succ]
    simp[this]
  ·simp[h2]
theorem VI {X:List (List PI)}{N E i:Nat}(hi:i<N)(hb:ak E i=false)(cY:((lO X N).getD i []).all (ak E)=true)(Φ:aO)(ρ:Env):
 PI.runs Φ (dp X (List.range N) E) ρ=(PI.runs Φ (X.getD i []) ρ).bind (PI.runs Φ (dp X (List.range N) (Nat.lor E (cR i)))):=by
 obtain⟨l1,l2,hl⟩:=List.append_of_mem (List.mem_range.2 hi);have hp:=List.pairwise_lt_range (n:=N);rw[hl,List.pairwise_append] at hp;obtain⟨_,dF,hp3⟩:=hp;rw[List.pairwise_cons] at dF;have Ru:∀j,j∈l1→j<i:=fun j hj=>hp3 j hj i (List.mem_cons_self ..);have lt2:∀j,j∈l2→i<j:=fun j hj=>dF.1 j hj;have e0:∀E,dp X (l1++i::l2) E=dp X l1 E++((bif ak E i then[] else X.getD i [])++dp X l2 E):=fun E=>by simp[dp]
 have e1:dp X l1 (Nat.lor E (cR i))=dp X l1 E:=LB l1 fun j hj=>by
  rw[fE,dO (by have:=Ru j hj;omega),Bool.or_false]
 have e2:dp X l2 (Nat.lor E (cR i))=dp X l2 E:=LB l2 fun j hj=>by
  rw[fE,dO (by have:=lt2 j hj;omega),Bool.or_false]
 have e3:ak (Nat.lor E (cR i)) i=true:=by rw[fE,Nat.beq_refl,Bool.or_true]
 rw[hl,e0,e0,e1,e2,e3,hb];simp only[cond_true,cond_false,List.nil_append]
 have afx:PI.runs Φ (dp X l1 E++X.getD i [])=PI.runs Φ (X.getD i []++dp X l1 E):=funext fun ρ=>PI.comms _ _ (fun p q hp hq=>by
  unfold dp at hp;obtain⟨j,hj,hp⟩:=List.mem_flatMap.1 hp;cases lz:ak E j<;>simp only[lz,cond_true,cond_false] at hp
  case true=>cases hp
  have hc:(fa (X.getD j [])).comm (fa (X.getD i []))=true:=by
   cases gV:(fa (X.getD j [])).comm (fa (X.getD i [])) with
   |true=>rfl
   |false=>
    have oU:(lO X N).getD i []=(List.range i).filter fun j=> !(fa (X.getD j [])).comm (fa (X.getD i [])):=by
     unfold lO;rw[List.getD_eq_getElem?_getD,List.getElem?_map,List.getElem?_range hi];rfl
    rw[oU] at cY;have:=List.all_eq_true.1 cY j (List.mem_filter.2 ⟨List.mem_range.2 (Ru j hj),by rw[gV];rfl⟩);rw[lz] at this;cases this
  exact Foot.comm_each hc p q hp hq) ρ
 rw[←List.append_assoc,kT,afx];have:=kT (Φ:=Φ) (a:=X.getD i []) (b:=dp X l1 E) (ρ:=ρ);rw[this,Option.bind_assoc]
 congr 1
 funext ρ1;rw[kT]
def j9 (C:Ctx)(ops:Array Oper):List Nat→St→Option (List (List PI))
 |[],_=>some []
 |i::l,S=>
  match ops[i]? with
  |some o=>(lg C S ops o).bind fun r=>(j9 C ops l r.1).map fun q=>r.2::q
  |none=>none
def Pt (ops:Array Oper):Bool:=(List.range ops.size).all fun i=>match ops[i]? with
 |some o=>(match o.guard with|some (j,_)=>Nat.blt j i|none=>true)
 |none=>true
def xp (ops:Array Oper):Bool:=ops.toList.all fun o=>match o.guard with
 |some (j,_)=>o.after.toList.any fun e=>Region.binds .any e&&Nat.beq e.on j
 |none=>true
def bj:Operand→List Nat
 |.tmp t=>[t]
 |_=>[]
def u3:Option Operand→List Nat
 |some x=>bj x
 |none=>[]
def iT:Op→List Nat
 |.move x=>bj x
 |.assign x=>bj x
 |.unOp _ _ x=>bj x
 |.convert _ _ x=>bj x
 |.load _ x=>bj x
 |.fieldAddr _ x _=>bj x
 |.field _ x _=>bj x
 |.extract x _=>bj x
 |.nilCheck x=>bj x
 |.pick c x y=>bj c++bj x++bj y
 |.binOp _ _ x y _=>bj x++bj y
 |.indexAddr _ x i=>bj x++bj i
 |.index _ x i=>bj x++bj i
 |.lookup _ m k _=>bj m++bj k
 |.slice _ x lo hi _=>bj x++u3 lo++u3 hi
 |.build _ ps=>ps.toList.flatMap fun p=>bj p.2
 |.call c=>(match c.callee with|.value x=>bj x|_=>[])++c.args.toList.flatMap bj
 |.store _ x v=>bj x++bj v
 |.mapUpdate _ m k v=>bj m++bj k++bj v
 |_=>[]
def BD (ops:Array Oper)(o:Oper):List Nat:=
 match o.guard with
 |some (j,_)=>(match(ops[j]?).bind (·.dst) with|some t=>[t]|none=>[])
 |none=>[]
def St.withR (S:St)(f:Nat→Sh):St:=⟨f,S.o,S.ver⟩
section
variable {C:Ctx} {S:St} {f:Nat→Sh} {gs:List (Nat×Bool)} {dst:Nat}
theorem uU {t:Nat}(h:f t=S.r t):iI (S.withR f) gs t=iI S gs t:=by
 have e:(S.withR f).r t=S.r t:=h;unfold iI;rw[e]
theorem qj {x:Operand}(h:∀t,t∈bj x→f t=S.r t):eK (S.withR f) gs x=eK S gs x:=by
 cases x<;>first|rfl|exact uU (h _ (List.mem_singleton.2 rfl))
theorem da {x:Operand}(h:∀t,t∈bj x→f t=S.r t):use C (S.withR f) gs x=use C S gs x:=by
 cases x<;>first|rfl|(unfold use;simp only;rw[uU (h _ (List.mem_singleton.2 rfl))];rfl)
theorem Wq {x:Operand}(h:∀t,t∈bj x→f t=S.r t):view C (S.withR f) gs x=view C S gs x:=by
 unfold view;rw[da h];cases x<;>first|rfl|(simp only;rw[uU (h _ (List.mem_singleton.2 rfl))];rfl)
theorem Ny:∀{xs:List Operand},(∀t,t∈xs.flatMap bj→f t=S.r t)→iX C (S.withR f) gs xs=iX C S gs xs
 |[],_=>rfl
 |x::xs,h=>by
  simp only[iX]
  rw[da fun t ht=>h t (List.mem_flatMap.2 ⟨x,List.mem_cons_self ..,ht⟩),Ny fun t ht=>by
   obtain⟨y,hy,nP⟩:=List.mem_flatMap.1 ht;exact h t (List.mem_flatMap.2 ⟨y,List.mem_cons_of_mem _ hy,nP⟩)]
theorem apd {x:Option Operand}(h:∀t,t∈u3 x→f t=S.r t):Ab C (S.withR f) gs x=Ab C S gs x:=by
 cases x with
 |none=>rfl
 |some x=>exact da h
theorem apb {e:PE}{x:Option Operand}(h:∀t,t∈u3 x→f t=S.r t):Aa C (S.withR f) gs e x=Aa C S gs e x:=by
 cases x with
 |none=>rfl
 |some x=>exact da h
theorem mO:∀{xs:List Operand},(∀t,t∈xs.flatMap bj→f t=S.r t)→bE (S.withR f) gs xs=bE S gs xs
 |[],_=>rfl
 |x::xs,h=>by
  simp only[bE]
  rw[qj fun t ht=>h t (List.mem_flatMap.2 ⟨x,List.mem_cons_self ..,ht⟩),mO fun t ht=>by
   obtain⟨y,hy,nP⟩:=List.mem_flatMap.1 ht;exact h t (List.mem_flatMap.2 ⟨y,List.mem_cons_of_mem _ hy,nP⟩)]
  rfl
theorem Oh:∀(l:List Sh) (j i:Nat),nm (S.withR f) j l i=nm S j l i
 |[],_,_=>rfl
 |s::l,j,i=>by simp only[nm];rw[Oh l j (i+1)];rfl
theorem fT {P:Nat→Prop}{a b:List Nat}(h:∀t,t∈a++b→P t):(∀t,t∈a→P t)∧∀t,t∈b→P t:=
 ⟨fun t ht=>h t (List.mem_append_left _ ht),fun t ht=>h t (List.mem_append_right _ ht)⟩
theorem Uu {x:Operand}(h:∀t,t∈bj x→f t=S.r t):lQ C (S.withR f) gs dst x=lQ C S gs dst x:=by
 unfold lQ;rw[da h];cases x<;>first|rfl|(simp only;rw[uU (h _ (List.mem_singleton.2 rfl))])
theorem ak1 {c x y:Operand}(h:∀t,t∈bj c++bj x++bj y→f t=S.r t):ur C (S.withR f) gs dst c x y=ur C S gs dst c x y:=by
 obtain⟨h1,h3⟩:=fT h;obtain⟨h1,h2⟩:=fT h1;unfold ur;cases c<;>first|rfl|skip
 simp only;rw[uU (h1 _ (List.mem_singleton.2 rfl)),da h2,da h3]
theorem akC {op:BinOp}{T:TypeId}{x y:Operand}(h:∀t,t∈bj x++bj y→f t=S.r t):uc C (S.withR f) gs dst op T x y=uc C S gs dst op T x y:=by
 obtain⟨h1,h2⟩:=fT h;unfold uc;rw[da h1,da h2]
theorem ak6 {op:UnOp}{x:Operand}(h:∀t,t∈bj x→f t=S.r t):uv C (S.withR f) gs dst op x=uv C S gs dst op x:=by unfold uv;rw[da h]
theorem akG {s d:TypeId}{x:Operand}(h:∀t,t∈bj x→f t=S.r t):uf C (S.withR f) gs dst s d x=uf C S gs dst s d x:=by unfold uf;rw[da h]
theorem akT {T:TypeId}{x:Operand}(h:∀t,t∈bj x→f t=S.r t):um C (S.withR f) gs dst T x=um C S gs dst T x:=by unfold um;rw[Wq h]
theorem Us {b:Bool}{x y:Operand}(h:∀t,t∈bj x++bj y→f t=S.r t):rR C (S.withR f) gs dst b x y=rR C S gs dst b x y:=by
 obtain⟨h1,h2⟩:=fT h;unfold rR;rw[da h1,da h2]
theorem akV {T:TypeId}{x:Operand}(h:∀t,t∈bj x→f t=S.r t):pI C (S.withR f) gs dst T x=pI C S gs dst T x:=by
 unfold pI;rw[qj h,da h];simp only[Oh];rfl
theorem akK {T:TypeId}{x:Operand}{i:Nat}(h:∀t,t∈bj x→f t=S.r t):ui C (S.withR f) gs dst T x i=ui C S gs dst T x i:=by
 unfold ui;rw[qj h,da h];rfl
theorem akM {T:TypeId}{x:Operand}{i:Nat}(h:∀t,t∈bj x→f t=S.r t):uh C (S.withR f) gs dst T x i=uh C S gs dst T x i:=by unfold uh;rw[da h]
theorem akP {T:TypeId}{x i:Operand}(h:∀t,t∈bj x++bj i→f t=S.r t):uk C (S.withR f) gs dst T x i=uk C S gs dst T x i:=by
 obtain⟨h1,h2⟩:=fT h;unfold uk;rw[da h1,da h2,qj h1];rfl
theorem akR {T:TypeId}{x i:Operand}(h:∀t,t∈bj x++bj i→f t=S.r t):uj C (S.withR f) gs dst T x i=uj C S gs dst T x i:=by
 obtain⟨h1,h2⟩:=fT h;unfold uj;rw[da h1,da h2]
theorem akI {x:Operand}{i:Nat}(h:∀t,t∈bj x→f t=S.r t):ug C (S.withR f) gs dst x i=ug C S gs dst x i:=by unfold ug;rw[da h]
theorem akX {T:TypeId}{m k:Operand}{ok:Bool}(h:∀t,t∈bj m++bj k→f t=S.r t):uo C (S.withR f) gs dst T m k ok=uo C S gs dst T m k ok:=by
 obtain⟨h1,h2⟩:=fT h;unfold uo;rw[Wq h1,da h2]
theorem ak4 {T:TypeId}{x:Operand}{lo hi mx:Option Operand}(h:∀t,t∈bj x++u3 lo++u3 hi→f t=S.r t):uu C (S.withR f) gs dst T x lo hi mx=uu C S gs dst T x lo hi mx:=by
 obtain⟨h1,h3⟩:=fT h;obtain⟨h1,h2⟩:=fT h1;unfold uu;rw[da h1];simp only[apd h2,apb h3]
theorem N6 {zs:List Value}{parts:List (Nat×Operand)}(h:∀t,t∈(parts.flatMap fun p=>bj p.2)→f t=S.r t):∀(fs:List Field) (i off:Nat),gP C (S.withR f) gs zs parts fs i off=gP C S gs zs parts fs i off
 |[],_,_=>rfl
 |g::fs,i,off=>by
  simp only[gP,N6 h fs];cases hp:parts.find? (fun p=>Nat.beq p.1 i) with
  |none=>rfl
  |some p=>
   have hu:use C (S.withR f) gs p.2=use C S gs p.2:=da fun t ht=>h t (List.mem_flatMap.2 ⟨p,List.mem_of_find?_eq_some hp,ht⟩);simp only[hu]
theorem akE {T:TypeId}{ps:List (Nat×Operand)}(h:∀t,t∈(ps.flatMap fun p=>bj p.2)→f t=S.r t):ud C (S.withR f) gs dst T ps=ud C S gs dst T ps:=by
 unfold ud;simp only[N6 h];split
 ·rfl
 ·split
  ·split
   ·rename_i x y;rw[da (x:=x) fun t ht=>h t (by simp[ht]),da (x:=y) fun t ht=>h t (by simp[ht])]
   ·rfl
  ·rfl
 ·rfl
theorem akZ {x:Operand}(h:∀t,t∈bj x→f t=S.r t):uq C (S.withR f) gs dst x=uq C S gs dst x:=by
 unfold uq;rw[da h];cases x<;>first|rfl|(simp only;rw[uU (h _ (List.mem_singleton.2 rfl))];rfl)
def jP:Op→Bool
 |.move _|.pick ..|.binOp ..|.unOp ..|.convert ..|.load ..|.fieldAddr ..|.field ..|.indexAddr ..|.index ..|.extract ..|.lookup ..|.slice ..|.build ..|.nilCheck _|.makeInterface ..|.call _=>true
 |_=>false
theorem Uw {op:Op}(hq:jP op=true)(h:∀t,t∈iT op→f t=S.r t):kG C (S.withR f) gs dst op=kG C S gs dst op:=by
 cases op<;>simp only[jP] at hq<;>simp only[iT] at h<;>simp only[kG]
 case move=>exact Uu h
 case pick=>exact ak1 h
 case binOp=>exact akC h
 case unOp=>exact ak6 h
 case convert=>exact akG h
 case load=>exact akV h
 case fieldAddr=>exact akK h
 case field=>exact akM h
 case indexAddr=>exact akP h
 case index=>exact akR h
 case extract=>exact akI h
 case lookup=>exact akX h
 case slice=>exact ak4 h
 case build=>exact akE h
 case nilCheck=>exact akZ h
 case call c=>
  obtain⟨_,h2⟩:=fT h;split
  ·rename_i x T _ ha _;exact akT fun t ht=>h2 t (by rw[ha];simp[ht])
  ·rename_i x y _ ha;exact Us fun t ht=>h2 t (by rw[ha];simpa using ht)
  ·rename_i x y _ ha;exact Us fun t ht=>h2 t (by rw[ha];simpa using ht)
  ·rfl
 all_goals (cases hq;done)
theorem alz {op:Op}(h:∀t,t∈iT op→f t=S.r t)(hq:jP op=true):pM (S.withR f) gs op=pM S gs op:=by
 cases op<;>simp only[jP] at hq<;>simp only[iT] at h<;>simp only[pM]
 case build T ps=>exact mO fun t ht=>h t (by
  obtain⟨x,hx,IK⟩:=List.mem_flatMap.1 ht;obtain⟨p,hp,rfl⟩:=List.mem_map.1 hx;exact List.mem_flatMap.2 ⟨p,hp,IK⟩)
 case pick c x y=>
  obtain⟨h1,h3⟩:=fT h;obtain⟨h1,h2⟩:=fT h1;refine mO fun t ht=>?_;simp only[List.flatMap_cons,List.flatMap_nil,List.append_nil,List.mem_append] at ht;exact ht.elim (h2 t) (h3 t)
 case slice T x lo hi mx=>
  obtain⟨h1,h3⟩:=fT h;obtain⟨h1,h2⟩:=fT h1;exact mO fun t ht=>h1 t (by simpa using ht)
 all_goals first|rfl|(cases hq;done)
theorem alA {op:Op}(h:∀t,t∈iT op→f t=S.r t)(hq:jP op=true):pre C (S.withR f) gs op=pre C S gs op:=by
 have ri:=hq;cases op<;>simp only[jP] at hq<;>simp only[pre,alz h ri]
 case load T x=>simp only[iT] at h;rw[qj h];rfl
 all_goals first|(cases hq;done)|skip
theorem aeQ {ops:Array Oper}{o:Oper}(h:∀t,t∈BD ops o→f t=S.r t):lx (S.withR f) ops o=lx S ops o:=by
 unfold lx;cases hg:o.guard with
 |none=>rfl
 |some jw=>
  obtain⟨j,want⟩:=jw;simp only;cases ht:(ops[j]?).bind (·.dst) with
  |none=>rfl
  |some t=>
   simp only;have:(S.withR f).r t=S.r t:=h t (by unfold BD;rw[hg];simp[ht]);rw[this]
end
def xh (C:Ctx)(S:St)(gs:List (Nat×Bool))(dst:Nat)(op:Op):Option (Sh×List PI):=
 match op with
 |.assign x=>
  match gs with
  |[]=>bif C.fr.any (Nat.beq dst)&&(bE S [] [x]).isEmpty then(match lQ C S [] dst x with|some r=>bif jZ r.1 then some r else none|none=>none) else none
  |_=>none
 |.call c=>
  match kG C S gs dst (.call c) with
  |some r=>bif mN r.1&&fH gs (some dst) r.2 then some (fG gs r.1,r.2) else none
  |none=>
   bif (bE S gs c.args.toList).isEmpty then
    match c.callee with
    |.value (.func f)=>(match ll C S gs dst f c.args.toList with|some r=>bif fH gs (some dst) r.2.2 then some (fG gs r.2.1,r.2.2) else none|none=>none)
    |.value x=>(match ki C S gs dst x c.args.toList with|some r=>bif fH gs (some dst) r.2.2 then some (fG gs r.2.1,r.2.2) else none|none=>none)
    |_=>none
   else none
 |op=>bif jP op&&(pre C S gs op).isEmpty then(match kG C S gs dst op with|some r=>bif mN r.1&&fH gs (some dst) r.2 then some (fG gs r.1,r.2) else none|none=>none) else none
def xj (C:Ctx)(S:St)(gs:List (Nat×Bool))(op:Op):Option (List PI):=
 match op,gs with
 |.store T x v,[]=>
  match eK S [] x with
  |.eptr ..=>bif (bE S [] [v]).isEmpty then(oJ C S T x v).map (·.2) else none
  |_=>none
 |.mapUpdate T m k v,[]=>bif (bE S [] [k,v]).isEmpty then(np C S T m k v).map (·.2) else none
 |.panic _,[]=>some [.chk (.nt (.con (.bool true)))]
 |_,_=>none
def oO (C:Ctx)(S:St)(ops:Array Oper)(o:Oper):Option (Sh×List PI):=
 match C.yl with
 |some _=>none
 |none=>(lx S ops o).bind fun gs=>
  match o.dst with
  |some dst=>xh C S gs dst o.op
  |none=>(xj C S gs o.op).map fun l=>(.none,l)
def ka (S:St)(o:Oper)(s:Sh):St:=match o.dst with|some d=>S.setR d s|none=>S
section
variable {C:Ctx} {S:St} {f:Nat→Sh} {gs:List (Nat×Bool)} {dst:Nat}
theorem abK {g:Nat}{xs:List Operand}(h:∀t,t∈xs.flatMap bj→f t=S.r t)(he:(bE S gs xs).isEmpty=true):
 (match ll C (S.withR f) gs dst g xs with|some r=>bif fH gs (some dst) r.2.2 then some (fG gs r.2.1,r.2.2) else none|none=>none)=(match ll C S gs dst g xs with|some r=>bif fH gs (some dst) r.2.2 then some (fG gs r.2.1,r.2.2) else none|none=>none):=by
 have ho:=mO (gs:=gs) h;have iO:=List.isEmpty_iff.1 he;unfold ll;cases C.sig g with
 |none=>rfl
 |some s=>
  simp only[Option.bind_some];cases s.mode<;>first|rfl|skip
  simp only[ho,iO,St.fzs,List.foldl_nil,Ny h];cases iX C S gs xs with
  |none=>rfl
  |some u=>
   simp only[Option.bind_some];cases Ty.subs u.1 s.args<;>rfl
theorem abF {x:Operand}{xs:List Operand}(hx:∀t,t∈bj x→f t=S.r t)(h:∀t,t∈xs.flatMap bj→f t=S.r t)(he:(bE S gs xs).isEmpty=true):
 (match ki C (S.withR f) gs dst x xs with|some r=>bif fH gs (some dst) r.2.2 then some (fG gs r.2.1,r.2.2) else none|none=>none)=(match ki C S gs dst x xs with|some r=>bif fH gs (some dst) r.2.2 then some (fG gs r.2.1,r.2.2) else none|none=>none):=by
 have ho:=mO (gs:=gs) h;have iO:=List.isEmpty_iff.1 he;unfold ki;rw[da hx];cases use C S gs x with
 |none=>rfl
 |some y=>
  obtain⟨ty,e⟩:=y;cases ty with
  |fn as r=>
   simp only;cases jt as r with
   |some _=>rfl
   |none=>
    simp only[ho,iO,St.fzs,List.foldl_nil,Ny h];cases iX C S gs xs with
    |none=>rfl
    |some u=>
     simp only[Option.bind_some];cases Ty.subs u.1 as<;>rfl
  |_=>rfl
theorem acN {op:Op}(h:∀t,t∈iT op→f t=S.r t):xh C (S.withR f) gs dst op=xh C S gs dst op:=by
 have other:∀op,(∀t,t∈iT op→f t=S.r t)→(bif jP op&&(pre C (S.withR f) gs op).isEmpty then(match kG C (S.withR f) gs dst op with|some r=>bif mN r.1&&fH gs (some dst) r.2 then some (fG gs r.1,r.2) else none|none=>none) else none)=
  (bif jP op&&(pre C S gs op).isEmpty then(match kG C S gs dst op with|some r=>bif mN r.1&&fH gs (some dst) r.2 then some (fG gs r.1,r.2) else none|none=>none) else none):=by
  intro op h;cases hq:jP op with
  |false=>rfl
  |true=>rw[alA h hq,Uw hq h]
 unfold xh;split
 ·rename_i x;simp only[iT] at h;rw[Uu h,mO (xs:=[x]) fun t ht=>h t (by simpa using ht)]
 ·rename_i c;have h':=h;simp only[iT] at h';obtain⟨h1,h2⟩:=fT h';rw[Uw (op:=.call c) rfl h,mO h2];split
  ·rfl
  ·cases he:(bE S gs c.args.toList).isEmpty with
   |false=>rfl
   |true=>
    simp only[cond_true];split
    ·exact abK h2 he
    ·rename_i x _ hc;exact abF (fun t ht=>h1 t (by rw[hc];exact ht)) h2 he
    ·rfl
 ·exact other _ h
theorem acO {op:Op}(h:∀t,t∈iT op→f t=S.r t):xj C (S.withR f) gs op=xj C S gs op:=by
 unfold xj;split
 ·rename_i T x v;simp only[iT] at h;obtain⟨h1,h2⟩:=fT h;rw[qj h1,mO (xs:=[v]) fun t ht=>h2 t (by simpa using ht)];split
  ·rename_i j ver size off ia;cases(bE S [] [v]).isEmpty with
   |false=>rfl
   |true=>
    simp only[cond_true];unfold oJ;rw[qj h1,da h2,ia];simp only;have eo:(S.withR f).o=S.o:=rfl;have ev:(S.withR f).ver=S.ver:=rfl;rw[eo,ev];cases C.P.info? T with
    |none=>rfl
    |some inf=>
     simp only;cases Nat.beq ver (S.ver j) with
     |false=>rfl
     |true=>
      simp only[cond_true];cases S.o j with
      |row T' e0=>
       cases use C S [] v with
       |none=>cases e0<;>rfl
       |some y=>
        obtain⟨t,e⟩:=y;cases e0<;>simp only<;>(generalize (_&&_:Bool)=b;cases b<;>rfl)
      |_=>rfl
  ·rfl
 ·rename_i T m k v;simp only[iT] at h;obtain⟨h1,h3⟩:=fT h;obtain⟨h1,h2⟩:=fT h1
  rw[mO (xs:=[k,v]) fun t ht=>by
   simp only[List.flatMap_cons,List.flatMap_nil,List.append_nil,List.mem_append] at ht;exact ht.elim (h2 t) (h3 t)]
  cases(bE S [] [k,v]).isEmpty with
  |false=>rfl
  |true=>
   simp only[cond_true];unfold np;rw[qj h1,da h2,da h3];have eo:(S.withR f).o=S.o:=rfl;have ev:(S.withR f).ver=S.ver:=rfl;rw[eo,ev];cases C.P.underlying T with
   |none=>rfl
   |some desc=>
    cases desc with
    |map K E=>
     cases eK S [] m with
     |obj j ver=>
      simp only;cases Nat.beq ver (S.ver j) with
      |false=>rfl
      |true=>
       simp only[cond_true];cases S.o j with
       |mp kt et=>
        cases use C S [] k with
        |none=>rfl
        |some y=>
         cases use C S [] v with
         |none=>rfl
         |some z=>
          obtain⟨tk,ek⟩:=y;obtain⟨tv,ev⟩:=z;simp only;generalize (_&&_:Bool)=b;cases b<;>rfl
       |_=>rfl
     |_=>rfl
    |_=>rfl
 ·rfl
 ·rfl
theorem acQ {ops:Array Oper}{o:Oper}(h:∀t,t∈iT o.op++BD ops o→f t=S.r t):oO C (S.withR f) ops o=oO C S ops o:=by
 obtain⟨h1,h2⟩:=fT h;unfold oO;rw[aeQ h2];split
 ·rfl
 ·cases lx S ops o with
  |none=>rfl
  |some gs=>
   simp only[Option.bind_some];split
   ·exact acN h1
   ·rw[acO h1]
theorem amB {S:St}{t:Nat}{s:Sh}(h:S.r t=s)(hs:jZ s=true):sm S t t=some (S,[]):=by
 unfold sm;rw[h];cases s<;>first|rfl|cases hs
theorem acP {ops:Array Oper}{o:Oper}{q:Sh×List PI}(h:oO C S ops o=some q):lg C S ops o=some (ka S o q.1,q.2):=by
 unfold oO at h;split at h
 case h_1=>cases h
 rename_i jo;simp only[Option.bind_eq_some_iff] at h;obtain⟨gs,cT,h⟩:=h;have hY:sR C S ops o=none:=by
  unfold sR;rw[jo];split<;>first|rfl|(rename_i hx;cases hx;done)|(rename_i hx _;cases hx;done)
 have fin:∀{S':St},pre C S gs o.op++lS C S gs o=[]→core C S gs o=some (S',q.2)→gd C (post C S' o) S'=some (S',[])→fH gs o.dst q.2=true→lg C S ops o=some (S',q.2):=by
  intro S' h1 h2 h3 h4;unfold lg sQ wJ;rw[hY,cT];simp only[Option.bind_some,h1,gd,h2,h3,h4,cond_true,List.nil_append,List.append_nil]
 cases hd:o.dst with
 |some dst=>
  simp only[hd] at h;have cv:ka S o q.1=S.setR dst q.1:=by unfold ka;rw[hd]
  rw[cv];unfold xh at h;split at h
  ·rename_i x bx;split at h
   case h_2=>cases h
   cases hb:(C.fr.any (Nat.beq dst)&&(bE S [] [x]).isEmpty)<;>simp only[hb,cond_true,cond_false] at h
   ·cases h
   simp only[Bool.and_eq_true] at hb;split at h
   case h_2=>cases h
   rename_i r hr;cases PW:jZ r.1<;>simp only[PW,cond_true,cond_false] at h
   ·cases h
   cases h;have he:=List.isEmpty_iff.1 hb.2;refine fin ?_ ?_ ?_ rfl
   ·rw[bx];unfold lS;rw[bx,hd];simp only[hb.1,he,cond_true,pre,pM,List.map_nil,List.append_nil]
   ·unfold core;rw[hd];simp only[bx,kG,hb.1,cond_true,hr]
   ·unfold post;rw[bx,hd];simp only[gd,Gh.run];rw[amB (s:=q.1) (by simp[St.setR,aI]) PW];rfl
  ·rename_i c bx;have Ie:pre C S gs o.op++lS C S gs o=[]:=by
        rw[bx];unfold lS;rw[bx];simp[pre,pM]
   have gB:∀S':St,gd C (post C S' o) S'=some (S',[]):=fun S'=>by
        unfold post;rw[bx];rfl
   split at h
   ·rename_i r hr;cases hb:(mN r.1&&fH gs (some dst) r.2)<;>simp only[hb,cond_true,cond_false] at h
    ·cases h
    cases h;simp only[Bool.and_eq_true] at hb;refine fin Ie ?_ (gB _) (by rw[hd];exact hb.2);unfold core;rw[hd];simp only[bx,hr,hb.1,cond_true]
   ·rename_i hr;cases he:(bE S gs c.args.toList).isEmpty<;>simp only[he,cond_true,cond_false] at h
    ·cases h
    have iO:=List.isEmpty_iff.1 he;have V4:∀b:Bool,(bif b then S else S.fzs (bE S gs c.args.toList))=S:=fun b=>by rw[iO];cases b<;>rfl
    split at h
    ·rename_i f hc;split at h
     case h_2=>cases h
     rename_i r dT;cases hb:fH gs (some dst) r.2.2<;>simp only[hb,cond_true,cond_false] at h
     ·cases h
     cases h;refine fin Ie ?_ (gB _) (by rw[hd];exact hb);have hS:r.1=S:=by
      simp only[ll,Option.bind_eq_some_iff] at dT;obtain⟨s,hs,dT⟩:=dT;split at dT
      case h_2=>cases dT
      simp only[Option.bind_eq_some_iff] at dT;obtain⟨u,hu,dT⟩:=dT;cases bQ:Ty.subs u.1 s.args<;>simp only[bQ,cond_true,cond_false] at dT
      ·cases dT
      cases dT;exact V4 _
     unfold core;rw[hd];simp only[bx,hr,hc,dT,hS]
    ·rename_i x HX hc;split at h
     case h_2=>cases h
     rename_i r dT;cases hb:fH gs (some dst) r.2.2<;>simp only[hb,cond_true,cond_false] at h
     ·cases h
     cases h;refine fin Ie ?_ (gB _) (by rw[hd];exact hb);have hS:r.1=S:=by
      unfold ki at dT;split at dT
      case h_2=>cases dT
      rename_i as r0 e IA;split at dT
      case h_1=>cases dT
      simp only[Option.bind_eq_some_iff] at dT;obtain⟨u,hu,dT⟩:=dT;cases bQ:Ty.subs u.1 as<;>simp only[bQ,cond_true,cond_false] at dT
      ·cases dT
      cases dT;exact V4 _
     unfold core;rw[hd];simp only[bx,hr,hc];cases x with
     |func f=>exact absurd rfl (HX f)
     |_=>simp only[dT,hS]
    ·cases h
  ·rename_i Qo cY;cases hb:(jP o.op&&(pre C S gs o.op).isEmpty)<;>simp only[hb,cond_true,cond_false] at h
   ·cases h
   simp only[Bool.and_eq_true] at hb;split at h
   case h_2=>cases h
   rename_i r hr;cases dq:(mN r.1&&fH gs (some dst) r.2)<;>simp only[dq,cond_true,cond_false] at h
   ·cases h
   cases h;simp only[Bool.and_eq_true] at dq;have cC:lS C S gs o=[]:=by
        unfold lS;split
        ·rename_i x t e _;exact absurd e (Qo x)
        ·rfl
   have gB:∀S':St,gd C (post C S' o) S'=some (S',[]):=fun S'=>by
        have:post C S' o=[]:=by
         unfold post;split
         ·rename_i x t e _;exact absurd e (Qo x)
         ·rename_i T t e _;rw[e] at hb;simp[jP] at hb
         ·rename_i T x v e;rw[e] at hb;simp[jP] at hb
         ·rfl
        rw[this];rfl
   refine fin (by rw[cC,List.isEmpty_iff.1 hb.2];rfl) ?_ (gB _) (by rw[hd];exact dq.2);unfold core;rw[hd];simp only[hr,dq.1,cond_true]
 |none=>
  simp only[hd,Option.map_eq_some_iff] at h;obtain⟨l,h,rfl⟩:=h;have cv:ka S o (.none:Sh)=S:=by unfold ka;rw[hd]
  show lg C S ops o=some (ka S o .none,l);rw[cv];have cC:lS C S gs o=[]:=by unfold lS;rw[hd];split<;>first|rfl|(rename_i hx;cases hx)
  unfold xj at h;split at h
  ·rename_i T x v bx;split at h
   case h_2=>cases h
   rename_i j ver size off ia;cases he:(bE S [] [v]).isEmpty<;>simp only[he,cond_true,cond_false] at h
   ·cases h
   simp only[Option.map_eq_some_iff] at h;obtain⟨r,hr,rfl⟩:=h;have hS:r.1=S:=by
        unfold oJ at hr;split at hr
        case h_2=>cases hr
        rw[ia] at hr;simp only at hr;cases hv:Nat.beq ver (S.ver j)<;>simp only[hv,cond_true,cond_false] at hr
        ·cases hr
        split at hr
        ·revert hr;generalize (_&&_:Bool)=b;intro hr;cases b<;>simp only[cond_true,cond_false] at hr<;>cases hr;rfl
        ·revert hr;generalize (_&&_:Bool)=b;intro hr;cases b<;>simp only[cond_true,cond_false] at hr<;>cases hr;rfl
        ·cases hr
   refine fin ?_ ?_ ?_ rfl
   ·rw[cC,bx];simp only[pre,pM,ia,List.isEmpty_iff.1 he,List.map_nil,List.append_nil]
   ·unfold core;rw[hd];simp only[bx,hr];rw[←hS]
   ·unfold post;rw[bx];simp only[ia];rfl
  ·rename_i T m k v bx;cases he:(bE S [] [k,v]).isEmpty<;>simp only[he,cond_true,cond_false] at h
   ·cases h
   simp only[Option.map_eq_some_iff] at h;obtain⟨r,hr,rfl⟩:=h;have hS:r.1=S:=by
        unfold np at hr;split at hr
        ·rename_i K _ j ver _ _;cases hv:Nat.beq ver (S.ver j)<;>simp only[hv,cond_true,cond_false] at hr
         ·cases hr
         split at hr
         ·revert hr;generalize (_&&_:Bool)=b;intro hr;cases b<;>simp only[cond_true,cond_false] at hr<;>cases hr;rfl
         ·cases hr
        ·cases hr
   refine fin ?_ ?_ ?_ rfl
   ·rw[cC,bx];simp only[pre,pM,List.isEmpty_iff.1 he,List.map_nil,List.append_nil]
   ·unfold core;rw[hd];simp only[bx,hr];rw[←hS]
   ·unfold post;rw[bx];rfl
  ·rename_i x bx;cases h;refine fin ?_ ?_ ?_ rfl
   ·rw[cC,bx];rfl
   ·unfold core;rw[hd];simp only[bx]
   ·unfold post;rw[bx];rfl
  ·cases h
end
def dK (ops:Array Oper)(shs:List Sh)(l:List Nat)(f:Nat→Sh):Nat→Sh:=
 l.foldl (fun f i=>match(ops[i]?).bind (·.dst) with|some d=>bC f d (shs.getD i .none)|none=>f) f
def sZ (C:Ctx)(S:St)(ops:Array Oper):Nat→Option (List (Sh×List PI))
 |0=>some []
 |k+1=>(sZ C S ops k).bind fun q=>match ops[k]? with
  |some o=>(oO C (S.withR (dK ops (q.map (·.1)) (List.range k) S.r)) ops o).map fun r=>q++[r]
  |none=>none
def cJ (ops:Array Oper):Nat→List Nat
 |0=>[]
 |k+1=>cJ ops k++[match ops[k]? with
  |some o=>o.after.toList.foldr (fun e m=>bif Region.binds .any e then Nat.lor (Nat.lor (cR e.on) ((cJ ops k).getD e.on 0)) m else m) 0
  |none=>0]
def VA (ops:Array Oper)(o:Oper):List Nat:=iT o.op++BD ops o
def Pg (ops:Array Oper)(nc:List (List Nat))(clo:List Nat)(i:Nat):Bool:=
 match ops[i]? with
 |some o=>(nc.getD i []).all (ak (clo.getD i 0))&&(o.after.toList.all fun e=> !Region.binds .any e||Nat.blt e.on i)&&
   (VA ops o).all fun t=>(List.range ops.size).all fun j=>match(ops[j]?).bind (·.dst) with
     |some d=> !Nat.beq d t||((Nat.blt j i&&ak (clo.getD i 0) j)||ak (clo.getD j 0) i)
     |none=>true
 |none=>false
def Bx (ops:Array Oper)(i:Nat):Bool:=match ops[i]? with|some o=>o.after.toList.all fun e=> !Region.binds .any e||Nat.blt e.on i|none=>false
def xk (ops:Array Oper)(nc:List (List Nat))(clo:List Nat)(m:Nat):Bool:=(List.range m).all (Pg ops nc clo)&&(List.range ops.size).all (Bx ops)
def kW (clo:List Nat):Nat→Nat
 |0=>0
 |k+1=>bif (List.range k).all (ak (clo.getD k 0)) then kW clo k else k+1
theorem Wa (clo:List Nat):∀k,kW clo k≤k
 |0=>Nat.le_refl _
 |k+1=>by
  unfold kW;cases(List.range k).all (ak (clo.getD k 0)) with
  |true=>exact Nat.le_succ_of_le (Wa clo k)
  |false=>exact Nat.le_refl _
theorem V9 (clo:List Nat):∀k i,kW clo k≤i→i<k→∀j,j<i→ak (clo.getD i 0) j=true
 |0,i,_,h=>by omega
 |k+1,i,h1,h2=>by
  unfold kW at h1;cases hb:(List.range k).all (ak (clo.getD k 0)) with
  |true=>
   rw[hb] at h1;by_cases e:i=k
   ·subst e;exact fun j hj=>List.all_eq_true.1 hb j (List.mem_range.2 hj)
   ·exact V9 clo k i h1 (by omega)
  |false=>rw[hb] at h1;simp only[cond_false] at h1;omega
def Ph (C:Ctx)(ops:Array Oper)(S:St):Option (St×List PI):=
 (sZ C S ops (kW (cJ ops ops.size) ops.size)).bind fun q=>
    bif xk ops (lO (q.map (·.2)) (kW (cJ ops ops.size) ops.size)) (cJ ops ops.size) (kW (cJ ops ops.size) ops.size) then
     (kh C ops (List.range' (kW (cJ ops ops.size) ops.size) (ops.size-kW (cJ ops ops.size) ops.size)) (S.withR (dK ops (q.map (·.1)) (List.range (kW (cJ ops ops.size) ops.size)) S.r))).map fun r=>(r.1,(q.map (·.2)).flatten++r.2)
    else none
theorem Fv (ops:Array Oper)(shs:List Sh)(i:Nat)(l:List Nat)(f:Nat→Sh):dK ops shs (i::l) f=dK ops shs l (match(ops[i]?).bind (·.dst) with|some d=>bC f d (shs.getD i .none)|none=>f):=rfl
theorem zT {ops:Array Oper}{shs:List Sh}{t:Nat}:∀{l:List Nat} {f:Nat→Sh},(∀i,i∈l→(ops[i]?).bind (·.dst)≠some t)→dK ops shs l f t=f t
 |[],_,_=>rfl
 |i::l,f,h=>by
  rw[Fv,zT fun j hj=>h j (List.mem_cons_of_mem _ hj)];have:=h i (List.mem_cons_self ..);cases hd:(ops[i]?).bind (·.dst) with
  |none=>rfl
  |some d=>exact ba _ _ (fun e=>this (by rw[hd,e]))
def FQ (ops:Array Oper):Prop:=∀(i j t:Nat),(ops[i]?).bind (·.dst)=some t→(ops[j]?).bind (·.dst)=some t→i=j
theorem Fu {ops:Array Oper}(ho:FQ ops){shs:List Sh}{t i:Nat}(ht:(ops[i]?).bind (·.dst)=some t):∀{l:List Nat} {f:Nat→Sh},i∈l→dK ops shs l f t=shs.getD i .none
 |[],_,h=>nomatch h
 |j::l,f,h=>by
  rw[Fv];by_cases hl:i∈l
  ·exact Fu ho ht hl
  ·have e:i=j:=(List.mem_cons.1 h).resolve_right hl;subst e;rw[zT fun k hk e=>hl (by rw[ho i k t ht e];exact hk),ht];exact aI _ _ _
theorem V3 {ops:Array Oper}(ho:FQ ops){shs LP:List Sh}{l m:List Nat}{f:Nat→Sh}{t:Nat}(h1:∀i,(ops[i]?).bind (·.dst)=some t→(i∈l↔i∈m))(h2:∀i,i∈l→(ops[i]?).bind (·.dst)=some t→shs.getD i .none=LP.getD i .none):dK ops shs l f t=dK ops LP m f t:=by
 by_cases hh:∃i,i∈l∧(ops[i]?).bind (·.dst)=some t
 ·obtain⟨i,hi,ht⟩:=hh;rw[Fu ho ht hi,Fu ho ht ((h1 i ht).1 hi),h2 i hi ht]
 ·rw[zT fun i hi e=>hh ⟨i,hi,e⟩,zT fun i hi e=>hh ⟨i,(h1 i e).2 hi,e⟩]
theorem akz {ops:Array Oper}(h:(ops.toList.filterMap (·.dst)).Nodup):FQ ops:=by
 intro i j t hi hj;rw[Option.bind_eq_some_iff] at hi hj;obtain⟨oi,h1,h2⟩:=hi;obtain⟨oj,h3,h4⟩:=hj;by_cases e:i=j
 ·exact e
 ·exact(qI.dst_once h h1 h3 h2 h4 e).elim
theorem G9 {C:Ctx}{S:St}{ops:Array Oper}:∀{k:Nat} {q:List (Sh×List PI)},sZ C S ops k=some q→q.length=k∧∀i,i<k→∃o,ops[i]?=some o∧
 oO C (S.withR (dK ops (q.map (·.1)) (List.range i) S.r)) ops o=some ((q.map (·.1)).getD i .none,(q.map (·.2)).getD i [])
 |0,q,h=>by simp only[sZ,Option.some.injEq] at h;subst h;exact⟨rfl,fun i hi=>by omega⟩
 |k+1,q,h=>by
  simp only[sZ,Option.bind_eq_some_iff] at h;obtain⟨p,hp,h⟩:=h;split at h
  case h_2=>cases h
  rename_i o ho;simp only[Option.map_eq_some_iff] at h;obtain⟨r,hr,rfl⟩:=h;obtain⟨l1,aJ⟩:=G9 hp;have same:∀i,i≤k→dK ops ((p++[r]).map (·.1)) (List.range i) S.r=dK ops (p.map (·.1)) (List.range i) S.r:=by
   intro i hi;have key:∀(l:List Nat) (f:Nat→Sh),(∀j,j∈l→j<p.length)→dK ops ((p++[r]).map (·.1)) l f=dK ops (p.map (·.1)) l f:=by
    intro l
    induction l with
    |nil=>intro f _;rfl
    |cons j l ih=>
     intro f hl;have hj:=hl j (List.mem_cons_self ..);have e:((p++[r]).map (·.1)).getD j .none=(p.map (·.1)).getD j .none:=by
       rw[List.map_append,List.getD_eq_getElem?_getD,List.getElem?_append_left (by simpa using hj),←List.getD_eq_getElem?_getD]
     rw[Fv,Fv,e,ih _ fun m hm=>hl m (List.mem_cons_of_mem _ hm)]
   exact key _ _ fun j hj=>by have:=List.mem_range.1 hj;omega
  refine⟨by simp[l1],fun i hi=>?_⟩;by_cases e:i=k
  ·subst e;refine⟨o,ho,?_⟩;rw[same i (Nat.le_refl _),hr];have e1:((p++[r]).map (·.1)).getD i .none=r.1:=by
    rw[List.map_append,List.getD_eq_getElem?_getD,List.getElem?_append_right (by simp[l1])];simp[l1]
   have e2:((p++[r]).map (·.2)).getD i []=r.2:=by
    rw[List.map_append,List.getD_eq_getElem?_getD,List.getElem?_append_right (by simp[l1])];simp[l1]
   rw[e1,e2]
  ·obtain⟨o',h1,h2⟩:=aJ i (by omega);refine⟨o',h1,?_⟩;rw[same i (by omega),h2];have:i<p.length:=by omega
   simp only[List.map_append,List.getD_eq_getElem?_getD];rw[List.getElem?_append_left (by simpa using this),List.getElem?_append_left (by simpa using this)]
theorem Bi (ops:Array Oper):∀k,(cJ ops k).length=k
 |0=>rfl
 |k+1=>by simp[cJ,Bi ops k]
theorem OF (ops:Array Oper){k m i:Nat}(h:i<k)(hm:k≤m):(cJ ops m).getD i 0=(cJ ops k).getD i 0:=by
 induction m with
 |zero=>omega
 |succ m ih=>
  by_cases e:k=m+1
  ·rw[e]
  ·rw[←ih (by omega)];simp only[cJ,List.getD_eq_getElem?_getD];rw[List.getElem?_append_left (by rw[Bi];omega)]
theorem Bj {ops:Array Oper}{N i m:Nat}{o:Oper}(hi:i<N)(ho:ops[i]?=some o)(ae:(o.after.toList.all fun e=> !Region.binds .any e||Nat.blt e.on i)=true)(h:ak ((cJ ops N).getD i 0) m=true):
 ∃e,e∈o.after.toList∧Region.binds .any e=true∧(m=e.on∨ak ((cJ ops N).getD e.on 0) m=true):=by
 rw[OF ops (k:=i+1) (by omega) (by omega)] at h
 have e1:(cJ ops (i+1)).getD i 0=o.after.toList.foldr (fun e m=>bif Region.binds .any e then Nat.lor (Nat.lor (cR e.on) ((cJ ops i).getD e.on 0)) m else m) 0:=by
  simp only[cJ,List.getD_eq_getElem?_getD];rw[List.getElem?_append_right (by rw[Bi];exact Nat.le_refl _),Bi];simp[ho]
 rw[e1] at h;have aJ:=List.all_eq_true.1 ae;generalize o.after.toList=l at h aJ
 induction l with
 |nil=>rw[nl] at h;simp at h
 |cons e l ih=>
  simp only[List.foldr_cons] at h;cases hb:Region.binds .any e<;>rw[hb] at h<;>simp only[cond_true,cond_false] at h
  ·obtain⟨e',h1,h2⟩:=ih h (fun x hx=>aJ x (List.mem_cons_of_mem _ hx));exact⟨e',List.mem_cons_of_mem _ h1,h2⟩
  ·rw[dB,dB,Bool.or_eq_true,Bool.or_eq_true] at h;have lH:e.on<i:=by
        have:=aJ e (List.mem_cons_self ..);rw[hb] at this;simpa [Nat.blt_eq] using this
   rcases h with(h|h)|h
   ·refine⟨e,List.mem_cons_self ..,hb,.inl ?_⟩;have:=fE 0 e.on m;have z:ak 0 m=false:=by rw[nl];simp
    rw[dB,z,Bool.false_or,Bool.false_or,h] at this;exact(cn this.symm).symm
   ·refine⟨e,List.mem_cons_self ..,hb,.inr ?_⟩;rw[OF ops lH (by omega)];exact h
   ·obtain⟨e',h1,h2⟩:=ih h (fun x hx=>aJ x (List.mem_cons_of_mem _ hx));exact⟨e',List.mem_cons_of_mem _ h1,h2⟩
section
variable {C:Ctx} {S:St} {ρ:Env} {σ:Im} {own:Nat→Option Nat} {hv:Nat→Value} {w0:World} {σ0:Base} {A:Nat→Prop} {a:Act} {w:World} {n:Nat} {ids:List Nat} {Φ:aO}
theorem VB {ops:Array Oper}{listed:Array Bool}{E:Nat}(aD:listed.size=ops.size)(hl:∀i,listed.getD i false=ak E i)(i:Nat):i∈Region.ready .any ops listed↔i∈kS ops E:=by
 unfold Region.ready kS;simp only[List.mem_filter,List.mem_range];refine and_congr_right fun hi=>?_;have h1:listed.getD i true=ak E i:=by
  rw[←hl i];simp only[Array.getD_eq_getD_getElem?];rw[Array.getElem?_eq_getElem (by omega)];rfl
 have h2:ops[i]?=some ops[i]:=Array.getElem?_eq_getElem hi;rw[h1,h2];simp only[Option.map_some,Option.getD_some,←Array.all_toList,hl]
def qh (ops:Array Oper)(E:Nat):Nat→Prop:=fun t=>∃i o,ak E i=true∧ops[i]?=some o∧o.dst=some t
def m9 (ops:Array Oper)(E:Nat):Nat:=((List.range ops.size).filter fun i=> !ak E i).length
theorem ao5 {ops:Array Oper}{E i:Nat}(hi:i<ops.size)(hb:ak E i=false):m9 ops E=m9 ops (Nat.lor E (cR i))+1:=by
 unfold m9;obtain⟨l1,l2,hl⟩:=List.append_of_mem (List.mem_range.2 hi);have bk:=List.nodup_range (n:=ops.size);rw[hl,List.nodup_append] at bk;obtain⟨_,h2,h3⟩:=bk;rw[List.nodup_cons] at h2;have g1:∀j,j∈l1→j≠i:=fun j hj=>h3 j hj i (List.mem_cons_self ..);have g2:∀j,j∈l2→j≠i:=fun j hj e=>h2.1 (e▸hj)
 have c:∀l:List Nat,(∀j,j∈l→j≠i)→(l.filter fun j=> !ak (Nat.lor E (cR i)) j)=l.filter fun j=> !ak E j:=by
  intro l hl;apply List.filter_congr;intro j hj;rw[fE,dO (fun e=>hl j hj e.symm),Bool.or_false]
 have cK:ak (Nat.lor E (cR i)) i=true:=by rw[fE,Nat.beq_refl,Bool.or_true]
 rw[hl];simp only[List.filter_append,List.filter_cons,c l1 g1,c l2 g2,hb,cK,Bool.not_true,Bool.not_false,if_true,Bool.false_eq_true,if_false,List.length_append,List.length_cons];omega
theorem acS {rd:Option Nat}(hC:CtxOK C σ0)(bh:dg C)(hΦ:dh C Φ)(hY:ma C Φ w0 σ0){a0:Act}(HV:a0.tmps.size=n){ops:Array Oper}(aw:m3 n ops=true)(eP:xp ops=true){m:Nat}(hm:m≤ops.size){q:List (Sh×List PI)}(hq:sZ C S ops m=some q)
 (oZ:xk ops (lO (q.map (·.2)) m) (cJ ops ops.size) m=true) (tI:∀i,m≤i→i<ops.size→∀j,j<i→ak ((cJ ops ops.size).getD i 0) j=true) {Q:Exit→Act→World→Prop} {ρ':Env}
 (hK:∀listed a' w',listed.size=ops.size→(∀i,listed.getD i false=decide (i<m))→SameBut (mj ops) a0 a'→Good C w0 σ0 (S.withR (dK ops (q.map (·.1)) (List.range m) S.r)) ρ' (iW ops (List.range m)) a' w'→wpAnyIn (FR rd) 0 C.P .any ops Q (ops.size-m) listed a' w'):
 ∀(k E:Nat) (listed:Array Bool) (ρ:Env) (a:Act) (w:World),m9 ops E=k→(∀j,ak E j=true→j<m)→(∀j,j<ops.size→ak E j=true→∀m,ak ((cJ ops ops.size).getD j 0) m=true→ak E m=true)→listed.size=ops.size→(∀i,listed.getD i false=ak E i)→SameBut (mj ops) a0 a→
  Good C w0 σ0 (S.withR (dK ops (q.map (·.1)) ((List.range m).filter (ak E)) S.r)) ρ (qh ops E) a w→PI.runs Φ (dp (q.map (·.2)) (List.range m) E) ρ=some ρ'→wpAnyIn (FR rd) 0 C.P .any ops Q k listed a w:=by
 have Ck:=aw;simp only[m3,Bool.and_eq_true] at aw;have bk:=j6 aw.1;have H8:=akz bk;obtain⟨hlen,aJ⟩:=G9 hq;unfold xk at oZ;rw[Bool.and_eq_true] at oZ
 have xy:∀i,i<ops.size→∀o,ops[i]?=some o→(o.after.toList.all fun e=> !Region.binds .any e||Nat.blt e.on i)=true:=by
  intro i hi o ho;have:=List.all_eq_true.1 oZ.2 i (List.mem_range.2 hi);unfold Bx at this;rw[ho] at this;exact this
 have agI:∀i,i<m→∀o,ops[i]?=some o→((lO (q.map (·.2)) m).getD i []).all (ak ((cJ ops ops.size).getD i 0))=true∧
  ∀t,t∈VA ops o→∀j,j<ops.size→(ops[j]?).bind (·.dst)=some t→(j<i∧ak ((cJ ops ops.size).getD i 0) j=true)∨ak ((cJ ops ops.size).getD j 0) i=true:=by
  intro i hi o ho;have:=List.all_eq_true.1 oZ.1 i (List.mem_range.2 hi);unfold Pg at this;rw[ho] at this;simp only[Bool.and_eq_true] at this;refine⟨this.1.1,fun t ht j hj hd=>?_⟩;have:=List.all_eq_true.1 (List.all_eq_true.1 this.2 t ht) j (List.mem_range.2 hj);rw[hd] at this;simp only[Nat.beq_refl,Bool.not_true,Bool.false_or,Bool.or_eq_true,Bool.and_eq_true,Nat.blt_eq] at this;exact this
 have NQ:∀(k E:Nat) (listed:Array Bool) (ρ:Env) (a:Act) (w:World),(∀i,i<m→ak E i=true)→m9 ops E=k→(∀j,ak E j=true→j<m)→listed.size=ops.size→(∀i,listed.getD i false=ak E i)→SameBut (mj ops) a0 a→
  Good C w0 σ0 (S.withR (dK ops (q.map (·.1)) ((List.range m).filter (ak E)) S.r)) ρ (qh ops E) a w→PI.runs Φ (dp (q.map (·.2)) (List.range m) E) ρ=some ρ'→wpAnyIn (FR rd) 0 C.P .any ops Q k listed a w:=by
  intro k E listed ρ a w gx hk rf aD hl hn hg af;have hb:∀i,ak E i=decide (i<m):=by
   intro i;by_cases h:i<m
   ·rw[gx i h,decide_eq_true h]
   ·rw[decide_eq_false h];cases hb:ak E i with
    |false=>rfl
    |true=>exact absurd (rf i hb) h
  have Hz:dp (q.map (·.2)) (List.range m) E=[]:=by
   unfold dp;rw[List.flatMap_eq_nil_iff];intro i hi;rw[gx i (List.mem_range.1 hi)];rfl
  rw[Hz] at af;simp only[PI.runs,Option.some.injEq] at af;subst af;have afw:m9 ops E=ops.size-m:=by
   unfold m9
   have key:∀N,m≤N→((List.range N).filter fun i=> !ak E i).length=N-m:=by
        intro N
        induction N with
        |zero=>intro _;simp
        |succ N ih=>
         intro hN;rw[List.range_succ,List.filter_append,List.length_append];by_cases h:m≤N
         ·rw[ih h];simp[hb N,Nat.not_lt.2 h];omega
         ·have:m=N+1:=by omega
          have e:(List.range N).filter (fun i=> !ak E i)=[]:=by
           rw[List.filter_eq_nil_iff];intro i hi;rw[gx i (by have:=List.mem_range.1 hi;omega)];simp
          have hN':ak E N=true:=gx N (by omega);rw[e];simp[hN'];omega
   exact key _ hm
  have ef:(List.range m).filter (ak E)=List.range m:=List.filter_eq_self.2 fun i hi=>gx i (List.mem_range.1 hi);rw[ef] at hg;have nM:qh ops E=iW ops (List.range m):=by
   funext t;apply propext;constructor
   ·rintro⟨i,o,h1,h2,h3⟩;exact⟨i,o,List.mem_range.2 (rf i h1),h2,h3⟩
   ·rintro⟨i,o,h1,h2,h3⟩;exact⟨i,o,gx i (List.mem_range.1 h1),h2,h3⟩
  rw[nM] at hg;rw[←hk,afw];exact hK listed a w aD (fun i=>by rw[hl i,hb i]) hn hg
 intro k
 induction k with
 |zero=>
  intro E listed ρ a w hk rf BT aD hl hn hg af;refine NQ 0 E listed ρ a w (fun i hi=>?_) hk rf aD hl hn hg af;cases hb:ak E i with
  |true=>rfl
  |false=>
   have:i∈(List.range ops.size).filter fun i=> !ak E i:=List.mem_filter.2 ⟨List.mem_range.2 (by omega),by rw[hb];rfl⟩;unfold m9 at hk;rw[List.length_eq_zero_iff.1 hk] at this;cases this
 |succ k ih=>
  intro E listed ρ a w hk rf BT aD hl hn hg af;by_cases gx:∀i,i<m→ak E i=true
  ·exact NQ (k+1) E listed ρ a w gx hk rf aD hl hn hg af
  refine⟨fun he=>?_,fun i hi=>?_⟩
  ·
   obtain⟨i,hi,Cd⟩:∃i,(i<m∧ak E i=false)∧∀j,j<i→ak E j=true:=by
        have hex:∃i,i<m∧ak E i=false:=by
         refine Classical.byContradiction fun eG=>gx fun i hi=>?_;cases hb:ak E i with
         |true=>rfl
         |false=>exact absurd ⟨i,hi,hb⟩ eG
        obtain⟨i,hi⟩:=hex
        induction i using Nat.strongRecOn with
        |ind i jr=>
         by_cases hh:∃j,j<i∧ak E j=false
         ·obtain⟨j,hj,hb⟩:=hh;exact jr j hj ⟨by omega,hb⟩
         ·refine⟨i,hi,fun j hj=>?_⟩;cases hb:ak E j with
          |true=>rfl
          |false=>exact absurd ⟨j,hj,hb⟩ hh
   have nG:i<ops.size:=by omega
   have ho:ops[i]?=some ops[i]:=Array.getElem?_eq_getElem nG;have cA:i∈kS ops E:=by
        unfold kS;simp only[List.mem_filter,List.mem_range,Bool.and_eq_true,Bool.not_eq_true',ho];refine⟨nG,hi.2,?_⟩;rw[List.all_eq_true];intro e gg;have:=List.all_eq_true.1 (xy i nG _ ho) e gg;cases hb:Region.binds .any e with
        |false=>rfl
        |true=>
         rw[hb] at this;simp only[Bool.not_true,Bool.false_or,Nat.blt_eq] at this;rw[Cd _ this];rfl
   rw[←VB aD hl,he] at cA;cases cA
  ·rw[VB aD hl] at hi;unfold kS at hi;simp only[List.mem_filter,List.mem_range,Bool.and_eq_true,Bool.not_eq_true'] at hi;obtain⟨bq,cG,oT⟩:=hi;have Qs:ops[i]?=some ops[i]:=Array.getElem?_eq_getElem bq;generalize ops[i]=o at Qs;have ho:=Qs;rw[ho] at oT;simp only at oT;have o2:=xy i bq o ho;have tl:∀m,ak ((cJ ops ops.size).getD i 0) m=true→ak E m=true:=by
        intro m hm;obtain⟨e,fo,gY,Hy⟩:=Bj bq ho o2 hm;have hE:ak E e.on=true:=by
         have:=List.all_eq_true.1 oT e fo
         rwa [gY,Bool.not_true,Bool.false_or] at this
        rcases Hy with rfl|Hy
        ·exact hE
        ·have lH:e.on<i:=by
          have:=List.all_eq_true.1 o2 e fo;rw[gY] at this;simpa [Nat.blt_eq] using this
         exact BT e.on (by omega) hE m Hy
   have hH:i<m:=by
        refine Classical.byContradiction fun eG=>gx fun j hj=>?_;exact tl j (tI i (by omega) bq j (by omega))
   obtain⟨o',db,hG⟩:=aJ i hH;rw[ho] at db;cases db;obtain⟨o1,o3⟩:=agI i hH o ho;have cY:((lO (q.map (·.2)) m).getD i []).all (ak E)=true:=by
        rw[List.all_eq_true] at o1 ⊢;exact fun m hm=>tl m (o1 m hm)
   have afz:oO C (S.withR (dK ops (q.map (·.1)) ((List.range m).filter (ak E)) S.r)) ops o=some ((q.map (·.1)).getD i .none,(q.map (·.2)).getD i []):=by
        rw[←hG];refine acQ (S:=S.withR (dK ops (q.map (·.1)) (List.range i) S.r)) fun t ht=>?_;refine V3 H8 (fun j hj=>?_) (fun _ _ _=>rfl);have ei:j<ops.size:=by
         rw[Option.bind_eq_some_iff] at hj;obtain⟨oj,h1,_⟩:=hj;exact(Array.getElem?_eq_some_iff.1 h1).1
        rw[List.mem_filter,List.mem_range,List.mem_range];rcases o3 t ht j ei hj with⟨h1,h2⟩|h1
        ·exact⟨fun _=>h1,fun _=>⟨by omega,tl j h2⟩⟩
        ·constructor
         ·rintro⟨_,lz⟩;have:=BT j ei lz i h1;rw[cG] at this;cases this
         ·intro oW;exfalso;have key:∀m j,j<ops.size→ak ((cJ ops ops.size).getD j 0) m=true→m<j:=by
           intro m j
           induction j using Nat.strongRecOn with
           |ind j jr=>
            intro hj hm;have yb:ops[j]?=some ops[j]:=Array.getElem?_eq_getElem hj;have p2:=xy j hj _ yb;obtain⟨e,e1,e2,e3⟩:=Bj hj yb p2 hm;have lH:e.on<j:=by
                have:=List.all_eq_true.1 p2 e e1;rw[e2] at this;simpa [Nat.blt_eq] using this
            rcases e3 with rfl|e3
            ·exact lH
            ·have:=jr e.on lH (by omega) e3;omega
          have:=key i j ei h1;omega
   have hcp:=acP afz;rw[VI hH cG cY,Option.bind_eq_some_iff] at af;obtain⟨ρ1,hρ1,hρ2⟩:=af;have qY:∀d,o.dst=some d→¬qh ops E d∧d<a.tmps.size:=by
        intro d hd;refine⟨fun⟨i',o',cK,db,eO⟩=>?_,?_⟩
        ·have av:i'≠i:=fun e=>by subst e;rw[cG] at cK;cases cK
         exact qI.dst_once bk db ho eO hd av
        ·have:=List.all_eq_true.1 aw.2 o (by simpa using Array.mem_of_getElem? ho);simp only[hd,Bool.and_eq_true] at this;rw[hn.size,HV];simpa [Nat.blt_eq] using this.2
   have jU:nX o.op=true:=by
        have:=List.all_eq_true.1 aw.2 o (by simpa using Array.mem_of_getElem? ho);simp only[Bool.and_eq_true] at this;exact this.1
   have hj:∀j want t,o.guard=some (j,want)→(ops[j]?).bind (·.dst)=some t→qh ops E t:=by
        intro j want t fb ht;rw[Option.bind_eq_some_iff] at ht;obtain⟨oj,h1,h2⟩:=ht;have oV:=List.all_eq_true.1 eP o (by simpa using Array.mem_of_getElem? ho);simp only[fb] at oV;obtain⟨e,fo,gY⟩:=List.any_eq_true.1 oV;simp only[Bool.and_eq_true] at gY;have h3:=List.all_eq_true.1 oT e fo;rw[gY.1] at h3;simp only[Bool.not_true,Bool.false_or] at h3;exact⟨j,oj,by rw[←cn gY.2];exact h3,h1,h2⟩
   have afv:∀j,j<ops.size→ak (Nat.lor E (cR i)) j=true→∀m,ak ((cJ ops ops.size).getD j 0) m=true→ak (Nat.lor E (cR i)) m=true:=by
        intro j hj lz m hm;rw[fE,Bool.or_eq_true] at lz;rw[fE,Bool.or_eq_true];rcases lz with lz|lz
        ·exact .inl (BT j hj lz m hm)
        ·rw[←cn lz] at hm;exact .inl (tl m hm)
   have main:=Bk (rd:=rd) (K:=wpAnyIn (FR rd) 0 C.P .any ops Q k (listed.setIfInBounds i true)) (Q:=Q) hg hC bh hΦ hY jU qY hj hcp hρ1 (fun a' w' dR mH=>by
        have hA:(fun u=>qh ops E u∨o.dst=some u)=qh ops (Nat.lor E (cR i)):=by
         funext u;apply propext;constructor
         ·rintro(⟨i',o',h1,h2,h3⟩|h1)
          ·exact⟨i',o',by rw[fE,h1,Bool.true_or],h2,h3⟩
          ·exact⟨i,o,by rw[fE,Nat.beq_refl,Bool.or_true],ho,h1⟩
         ·rintro⟨i',o',h1,h2,h3⟩;rw[fE,Bool.or_eq_true] at h1;rcases h1 with h1|h1
          ·exact .inl ⟨i',o',h1,h2,h3⟩
          ·rw[←cn h1,ho] at h2;cases h2;exact .inr h3
        rw[hA] at dR;have hSt:ka (S.withR (dK ops (q.map (·.1)) ((List.range m).filter (ak E)) S.r)) o ((q.map (·.1)).getD i .none)=S.withR (dK ops (q.map (·.1)) ((List.range m).filter (ak (Nat.lor E (cR i)))) S.r):=by
         have afQ:∀t,(ka (S.withR (dK ops (q.map (·.1)) ((List.range m).filter (ak E)) S.r)) o ((q.map (·.1)).getD i .none)).r t=dK ops (q.map (·.1)) ((List.range m).filter (ak (Nat.lor E (cR i)))) S.r t:=by
          intro t;by_cases BX:o.dst=some t
          ·have hb:(ops[i]?).bind (·.dst)=some t:=by rw[ho];exact BX
           rw[Fu H8 hb (List.mem_filter.2 ⟨List.mem_range.2 hH,by rw[fE,Nat.beq_refl,Bool.or_true]⟩)];unfold ka;rw[BX];simp[St.setR,aI]
          ·have e1:(ka (S.withR (dK ops (q.map (·.1)) ((List.range m).filter (ak E)) S.r)) o ((q.map (·.1)).getD i .none)).r t=dK ops (q.map (·.1)) ((List.range m).filter (ak E)) S.r t:=by
            unfold ka;split
            ·rename_i d hd;exact ba _ _ (fun e=>BX (by rw[hd,e]))
            ·rfl
           rw[e1];refine V3 H8 (fun j hj=>?_) (fun _ _ _=>rfl);have oW:¬i=j:=fun e=>by subst e;rw[ho] at hj;exact BX hj
           rw[List.mem_filter,List.mem_filter,fE,dO oW,Bool.or_false]
         have:∀(X Y:St),X.o=Y.o→X.ver=Y.ver→(∀t,X.r t=Y.r t)→X=Y:=by
          intro X Y h1 h2 h3;cases X;cases Y;simp only at h1 h2 h3;subst h1 h2
          congr 1
          exact funext h3
         refine this _ _ ?_ ?_ afQ
         ·unfold ka;split<;>rfl
         ·unfold ka;split<;>rfl
        rw[hSt] at dR;refine ih _ _ ρ1 a' w' (by have:=ao5 bq cG;omega) (fun j hj=>by rw[fE,Bool.or_eq_true] at hj;rcases hj with hj|hj;exact rf j hj;rw[←cn hj];exact hH) afv (by simpa using aD) (fun j=>?_) (hn.trans (mH.mono fun t e=>⟨o,by simpa using Array.mem_of_getElem? ho,e⟩)) dR hρ2;rw[fE];simp only[Array.getD_eq_getD_getElem?,Array.getElem?_setIfInBounds];by_cases cu:i=j
        ·subst cu;simp[aD,bq]
        ·rw[if_neg cu,dO cu,Bool.or_false,←hl j];simp only[Array.getD_eq_getD_getElem?])
   simp only[wpOpIn,ho];split
   ·rename_i hw;rw[if_pos hw] at main;exact main
   ·rename_i hw;rw[if_neg hw] at main;exact⟨fun _ _=>trivial,main⟩
theorem anc {rd:Option Nat}(hC:CtxOK C σ0)(bh:dg C)(hΦ:dh C Φ)(hY:ma C Φ w0 σ0){ops:Array Oper}(aw:m3 n ops=true)(eP:xp ops=true)(xy:(List.range ops.size).all (Bx ops)=true){m:Nat}
 (tI:∀i,m≤i→i<ops.size→∀j,j<i→ak ((cJ ops ops.size).getD i 0) j=true) {Q:Exit→Act→World→Prop} {ρ':Env}:
 ∀(k i:Nat) {S:St} {ρ:Env} {a:Act} {w:World} {r:St×List PI} (listed:Array Bool),i+k=ops.size→m≤i→listed.size=ops.size→(∀j,listed.getD j false=decide (j<i))→a.tmps.size=n→
  Good C w0 σ0 S ρ (iW ops (List.range i)) a w→kh C ops (List.range' i k) S=some r→PI.runs Φ r.2 ρ=some ρ'→
  (∀a' w',SameBut (mj ops) a a'→Good C w0 σ0 r.1 ρ' (iW ops (List.range ops.size)) a' w'→Q .normal a' w')→wpAnyIn (FR rd) 0 C.P .any ops Q k listed a w:=by
 have Ck:=aw;simp only[m3,Bool.and_eq_true] at aw;have bk:=j6 aw.1
 have FY:∀i,i<ops.size→∀o,ops[i]?=some o→(o.after.toList.all fun e=> !Region.binds .any e||Nat.blt e.on i)=true:=by
  intro i hi o ho;have:=List.all_eq_true.1 xy i (List.mem_range.2 hi);unfold Bx at this;rw[ho] at this;exact this
 have mem:∀(listed:Array Bool) (i j:Nat),listed.size=ops.size→(∀j,listed.getD j false=decide (j<i))→(j∈Region.ready .any ops listed↔(j<ops.size∧¬j<i∧∀o,ops[j]?=some o→(o.after.toList.all fun e=> !Region.binds .any e||decide (e.on<i))=true)):=by
  intro listed i j aD hl;unfold Region.ready;simp only[List.mem_filter,List.mem_range];refine and_congr_right fun hj=>?_;have h1:listed.getD j true=decide (j<i):=by
   rw[←hl j];simp only[Array.getD_eq_getD_getElem?];rw[Array.getElem?_eq_getElem (by omega)];rfl
  have h2:ops[j]?=some ops[j]:=Array.getElem?_eq_getElem hj;rw[h1,h2];simp only[Option.map_some,Option.getD_some,←Array.all_toList,hl,Bool.and_eq_true,Bool.not_eq_true',decide_eq_false_iff_not,Option.some.injEq,forall_eq']
 intro k
 induction k with
 |zero=>
  intro i S ρ a w r listed hik hmi aD hl hn hg hr af hQ;simp only[List.range'_zero,kh,Option.some.injEq] at hr;subst hr;rw[j8 af] at hQ;refine⟨?_,hQ a w (.refl _ _) ?_⟩
  ·rw[List.eq_nil_iff_forall_not_mem];intro j hj;rw[mem listed i j aD hl] at hj;exact hj.2.1 (by omega)
  ·have:i=ops.size:=by omega
   rw[←this];exact hg
 |succ k ih=>
  intro i S ρ a w r listed hik hmi aD hl hn hg hr af hQ;have bq:i<ops.size:=by omega
  have ho:ops[i]?=some ops[i]:=Array.getElem?_eq_getElem bq;generalize ops[i]=o at ho;refine⟨fun he=>?_,fun i' cK=>?_⟩
  ·have:i∈Region.ready .any ops listed:=by
        rw[mem listed i i aD hl];refine⟨bq,by omega,fun o' db=>?_⟩;rw[List.all_eq_true];intro e gg;have:=List.all_eq_true.1 (FY i bq o' db) e gg;cases hb:Region.binds .any e with
        |false=>rfl
        |true=>
         rw[hb] at this;simp only[Bool.not_true,Bool.false_or,Nat.blt_eq] at this;simpa using this
   rw[he] at this;cases this
  ·rw[mem listed i i' aD hl] at cK;obtain⟨h1,h2,h3⟩:=cK;obtain rfl:i'=i:=by
        refine Classical.byContradiction fun av=>?_;have db:ops[i']?=some ops[i']:=Array.getElem?_eq_getElem h1;have tl:=tI i' (by omega) h1 i (by omega);have ae:∀m j,j<ops.size→ak ((cJ ops ops.size).getD j 0) m=true→m<j:=by
         intro m j
         induction j using Nat.strongRecOn with
         |ind j jr=>
          intro hj hm;have yb:ops[j]?=some ops[j]:=Array.getElem?_eq_getElem hj;have p2:=FY j hj _ yb;obtain⟨e,e1,e2,e3⟩:=Bj hj yb p2 hm;have lH:e.on<j:=by
           have:=List.all_eq_true.1 p2 e e1;rw[e2] at this;simpa [Nat.blt_eq] using this
          rcases e3 with rfl|e3
          ·exact lH
          ·have:=jr e.on lH (by omega) e3;omega
        obtain⟨e,e1,e2,e3⟩:=Bj h1 db (FY i' h1 _ db) tl;have h4:=List.all_eq_true.1 (h3 _ db) e e1;rw[e2] at h4;simp only[Bool.not_true,Bool.false_or,decide_eq_true_eq] at h4;rcases e3 with e3|e3
        ·omega
        ·have:=ae i e.on (by omega) e3;omega
   rw[List.range'_succ] at hr;simp only[kh,ho] at hr;simp only[Option.bind_eq_some_iff,Option.map_eq_some_iff] at hr;obtain⟨r1,fq,q,hq,rfl⟩:=hr;simp only[kT,Option.bind_eq_some_iff] at af;obtain⟨ρ1,hρ1,hρ2⟩:=af;have qY:∀d,o.dst=some d→¬iW ops (List.range i') d∧d<a.tmps.size:=by
        intro d hd;refine⟨fun⟨i2,o2,B3,gz,cX⟩=>?_,?_⟩
        ·have av:i2≠i':=by have:=List.mem_range.1 B3;omega
         exact qI.dst_once bk gz ho cX hd av
        ·have:=List.all_eq_true.1 aw.2 o (by simpa using Array.mem_of_getElem? ho);simp only[hd,Bool.and_eq_true] at this;rw[hn];simpa [Nat.blt_eq] using this.2
   have jU:nX o.op=true:=by
        have:=List.all_eq_true.1 aw.2 o (by simpa using Array.mem_of_getElem? ho);simp only[Bool.and_eq_true] at this;exact this.1
   have hj:∀j want t,o.guard=some (j,want)→(ops[j]?).bind (·.dst)=some t→iW ops (List.range i') t:=by
        intro j want t fb ht;rw[Option.bind_eq_some_iff] at ht;obtain⟨oj,h1,h2⟩:=ht;have oV:=List.all_eq_true.1 eP o (by simpa using Array.mem_of_getElem? ho);simp only[fb] at oV;obtain⟨e,fo,gY⟩:=List.any_eq_true.1 oV;simp only[Bool.and_eq_true] at gY;have h4:=List.all_eq_true.1 (h3 o ho) e fo;rw[gY.1] at h4;simp only[Bool.not_true,Bool.false_or,decide_eq_true_eq] at h4;exact⟨j,oj,List.mem_range.2 (by rw[←cn gY.2];exact h4),h1,h2⟩
   have main:=Bk (rd:=rd) (K:=wpAnyIn (FR rd) 0 C.P .any ops Q k (listed.setIfInBounds i' true)) (Q:=Q) hg hC bh hΦ hY jU qY hj fq hρ1 (fun a' w' dR fO=>by
        have:(fun u=>iW ops (List.range i') u∨o.dst=some u)=iW ops (List.range (i'+1)):=by
         funext u;apply propext;constructor
         ·rintro(⟨i2,o2,h1,h2,h3⟩|h1)
          ·exact⟨i2,o2,List.mem_range.2 (by have:=List.mem_range.1 h1;omega),h2,h3⟩
          ·exact⟨i',o,List.mem_range.2 (by omega),ho,h1⟩
         ·rintro⟨i2,o2,g1,g2,g3⟩;by_cases e:i2=i'
          ·rw[e,ho] at g2;cases g2;exact .inr g3
          ·exact .inl ⟨i2,o2,List.mem_range.2 (by have:=List.mem_range.1 g1;omega),g2,g3⟩
        rw[this] at dR;refine ih (i'+1) _ (by omega) (by omega) (by simpa using aD) (fun j=>?_) (fO.size.trans hn) dR hq hρ2 (fun a2 w2 s2 g2=>hQ a2 w2 ((fO.mono fun t e=>⟨o,by simpa using Array.mem_of_getElem? ho,e⟩).trans s2) g2);simp only[Array.getD_eq_getD_getElem?,Array.getElem?_setIfInBounds];by_cases cu:i'=j
        ·subst cu;simp[aD,bq]
        ·rw[if_neg cu];have:=hl j;simp only[Array.getD_eq_getD_getElem?] at this;rw[this];by_cases ae:j<i'
         ·rw[decide_eq_true ae,decide_eq_true (by omega:j<i'+1)]
         ·rw[decide_eq_false ae,decide_eq_false (by omega:¬j<i'+1)])
   simp only[wpOpIn,ho];split
   ·rename_i hw;rw[if_pos hw] at main;exact main
   ·rename_i hw;rw[if_neg hw] at main;exact⟨fun _ _=>trivial,main⟩
end
def Ly (C:Ctx)(n:Nat)(ids:List Nat)(ops:Array Oper)(draw:Bool)(S:Snap):Option (Snap×List PI):=
 bif m3 n ops then
    bif draw then
     bif xp ops&&C.P.follows .mixedOrders then
        match Ph C ops (S.st ids) with
        |some r=>some (⟨qk (dI r.1) r.1 S.rs (ops.toList.filterMap (·.dst)),ids.map fun j=>fh r.1 (r.1.o j)⟩,r.2)
        |none=>
        (j9 C ops (List.range ops.size) (S.st ids)).bind fun X=>
         (zR ops (J7 C ops n ids X (lO X ops.size)) ops.size [(0,⟨S.rs.map fun s=>ir (S.st ids) (bU s),ids.map fun j=>fh (S.st ids) ((S.st ids).o j)⟩)]).map fun T=>(⟨T.rs.map (dI (T.stO ids)),ids.map fun j=>fh (T.stO ids) ((T.stO ids).o j)⟩,X.flatten)
     else none
    else bif Pt ops then(kh C ops (List.range ops.size) (S.st ids)).map fun r=>(⟨qk (dI r.1) r.1 S.rs (ops.toList.filterMap (·.dst)),ids.map fun j=>fh r.1 (r.1.o j)⟩,r.2) else none
 else none
def su (ops:Array Oper)(E:Nat):Nat→Prop:=fun t=>∃i o,ak E i=true∧ops[i]?=some o∧o.dst=some t
section
variable {C:Ctx} {S:St} {ρ:Env} {σ:Im} {own:Nat→Option Nat} {hv:Nat→Value} {w0:World} {σ0:Base} {A:Nat→Prop} {a:Act} {w:World} {n:Nat} {ids:List Nat} {Φ:aO}
theorem Lx {ops:Array Oper}{listed:Array Bool}{E:Nat}(aD:listed.size=ops.size)(hl:∀i,listed.getD i false=ak E i)(i:Nat):i∈Region.ready .any ops listed↔i∈kS ops E:=by
 unfold Region.ready kS;simp only[List.mem_filter,List.mem_range];refine and_congr_right fun hi=>?_;have h1:listed.getD i true=ak E i:=by
  rw[←hl i];simp only[Array.getD_eq_getD_getElem?];rw[Array.getElem?_eq_getElem (by omega)];rfl
 have h2:ops[i]?=some ops[i]:=Array.getElem?_eq_getElem hi;rw[h1,h2];simp only[Option.map_some,Option.getD_some,←Array.all_toList,hl]
theorem amT {rd:Option Nat}(hC:CtxOK C σ0)(bh:dg C)(hΦ:dh C Φ)(hY:ma C Φ w0 σ0){a0:Act}(HV:a0.tmps.size=n){ops:Array Oper}(aw:m3 n ops=true)(eP:xp ops=true){X:List (List PI)}{Q:Exit→Act→World→Prop}{ρ':Env}:
 ∀(k:Nat) {L:List (Nat×Snap)} {T:Snap},zR ops (J7 C ops n ids X (lO X ops.size)) k L=some T→
  (∀a' w',SameBut (mj ops) a0 a'→Good C w0 σ0 (T.stO ids) ρ' (fun t=>∃E,su ops E t) a' w'→Q .normal a' w')→
  ∀(E:Nat) (U:Snap),(E,U)∈L→∀(listed:Array Bool) (ρ:Env) (a:Act) (w:World),listed.size=ops.size→(∀i,listed.getD i false=ak E i)→SameBut (mj ops) a0 a→
   Good C w0 σ0 (U.stO ids) ρ (su ops E) a w→PI.runs Φ (dp X (List.range ops.size) E) ρ=some ρ'→wpAnyIn (FR rd) 0 C.P .any ops Q k listed a w:=by
 simp only[m3,Bool.and_eq_true] at aw;have bk:=j6 aw.1;intro k
 induction k with
 |zero=>
  intro L T hs hQ E U hm listed ρ a w aD hl hn hg af;simp only[zR] at hs;split at hs
  case h_2=>cases hs
  rename_i x;cases aJ:(List.range ops.size).all (ak x.1)<;>simp only[aJ,cond_true,cond_false] at hs
  ·cases hs
  cases hs;simp only[List.mem_singleton] at hm;subst hm;simp only at aJ hg hQ af hl;have gx:=List.all_eq_true.1 aJ;have Hz:dp X (List.range ops.size) E=[]:=by
   unfold dp;rw[List.flatMap_eq_nil_iff];intro i hi;rw[gx i hi];rfl
  rw[Hz] at af;simp only[PI.runs,Option.some.injEq] at af;subst af;refine⟨?_,hQ a w hn ?_⟩
  ·rw[List.eq_nil_iff_forall_not_mem];intro i hi;rw[Lx aD hl] at hi;unfold kS at hi;simp only[List.mem_filter,Bool.and_eq_true,Bool.not_eq_true'] at hi;rw[gx i hi.1] at hi;cases hi.2.1
  ·obtain⟨σ,own,hv,h⟩:=hg;exact⟨σ,own,hv,h.defers,h.ok,h.le,h.old,h.newc,h.newm,h.below,h.bw,h.owns,h.regs,h.objs,fun t gs s e=>⟨fun g hm=>⟨E,(h.opts t gs s e).1 g hm⟩,(h.opts t gs s e).2⟩,h.frame⟩
 |succ k ih=>
  intro L T hs hQ E U hm listed ρ a w aD hl hn hg af;simp only[zR,Option.bind_eq_some_iff] at hs;obtain⟨L',hL,hs⟩:=hs;obtain⟨_,cA⟩:=Rh hL;obtain⟨av,Is⟩:=cA _ hm;refine⟨fun he=>?_,fun i hi=>?_⟩
  ·exfalso;refine av ?_;rw[List.eq_nil_iff_forall_not_mem];intro i hi;rw[←Lx aD hl,he] at hi;cases hi
  ·rw[Lx aD hl] at hi;obtain⟨y,hy,hyL⟩:=Is i hi;unfold kS at hi;simp only[List.mem_filter,List.mem_range,Bool.and_eq_true,Bool.not_eq_true'] at hi;obtain⟨bq,cG,oT⟩:=hi;simp only[J7] at hy;split at hy
   case h_2=>cases hy
   rename_i o ho;simp only[Option.bind_eq_some_iff] at hy;obtain⟨r,hr,hy⟩:=hy;cases hc:(PI.beqs r.2 (X.getD i [])&&((lO X ops.size).getD i []).all (ak E))<;>simp only[hc,cond_true,cond_false] at hy
   ·cases hy
   cases hy;simp only[Bool.and_eq_true] at hc;have hX:=PI.beqs_eq _ _ hc.1;rw[VI bq cG hc.2,Option.bind_eq_some_iff] at af;obtain⟨ρ1,hρ1,hρ2⟩:=af;rw[←hX] at hρ1;rw[ho] at oT;simp only at oT;have qY:∀d,o.dst=some d→¬su ops E d∧d<a.tmps.size:=by
        intro d hd;refine⟨fun⟨i',o',cK,db,eO⟩=>?_,?_⟩
        ·have av:i'≠i:=fun e=>by subst e;rw[cG] at cK;cases cK
         exact qI.dst_once bk db ho eO hd av
        ·have:=List.all_eq_true.1 aw.2 o (by simpa using Array.mem_of_getElem? ho);simp only[hd,Bool.and_eq_true] at this;rw[hn.size,HV];simpa [Nat.blt_eq] using this.2
   have jU:nX o.op=true:=by
        have:=List.all_eq_true.1 aw.2 o (by simpa using Array.mem_of_getElem? ho);simp only[Bool.and_eq_true] at this;exact this.1
   have hj:∀j want t,o.guard=some (j,want)→(ops[j]?).bind (·.dst)=some t→su ops E t:=by
        intro j want t fb ht;rw[Option.bind_eq_some_iff] at ht;obtain⟨oj,h1,h2⟩:=ht;have oV:=List.all_eq_true.1 eP o (by simpa using Array.mem_of_getElem? ho);simp only[fb] at oV;obtain⟨e,fo,gY⟩:=List.any_eq_true.1 oV;simp only[Bool.and_eq_true] at gY;have h3:=List.all_eq_true.1 oT e fo;rw[gY.1] at h3;simp only[Bool.not_true,Bool.false_or] at h3;exact⟨j,oj,by rw[←cn gY.2];exact h3,h1,h2⟩
   have main:=Bk (rd:=rd) (K:=wpAnyIn (FR rd) 0 C.P .any ops Q k (listed.setIfInBounds i true)) (Q:=Q) hg hC bh hΦ hY jU qY hj hr hρ1 (fun a' w' dR mH=>by
        have hA:(fun u=>su ops E u∨o.dst=some u)=su ops (Nat.lor E (cR i)):=by
         funext u;apply propext;constructor
         ·rintro(⟨i',o',h1,h2,h3⟩|h1)
          ·exact⟨i',o',by rw[fE,h1,Bool.true_or],h2,h3⟩
          ·exact⟨i,o,by rw[fE,Nat.beq_refl,Bool.or_true],ho,h1⟩
         ·rintro⟨i',o',h1,h2,h3⟩;rw[fE,Bool.or_eq_true] at h1;rcases h1 with h1|h1
          ·exact .inl ⟨i',o',h1,h2,h3⟩
          ·rw[←cn h1,ho] at h2;cases h2;exact .inr h3
        rw[hA] at dR
        refine ih hs hQ _ _ hyL _ ρ1 a' w' (by simpa using aD) (fun j=>?_) (hn.trans (mH.mono fun t e=>⟨o,by simpa using Array.mem_of_getElem? ho,e⟩)) (by
         have:=dR.snapO U.rs.length ids
         rw[show r.1.snapO U.rs.length ids=⟨qk (ir r.1) r.1 U.rs o.dst.toList,ids.map fun j=>fh r.1 (r.1.o j)⟩ from by
          unfold St.snapO;rw[zU fun t ht=>?_];rw[OH hr t (fun e=>ht (by rw[e];simp))];rfl] at this
         exact this) hρ2
        rw[fE];simp only[Array.getD_eq_getD_getElem?,Array.getElem?_setIfInBounds];by_cases cu:i=j
        ·subst cu;simp[aD,bq]
        ·rw[if_neg cu,dO cu,Bool.or_false,←hl j];simp only[Array.getD_eq_getD_getElem?])
   simp only[wpOpIn,ho];split
   ·rename_i hw;rw[if_pos hw] at main;exact main
   ·rename_i hw;rw[if_neg hw] at main;exact⟨fun _ _=>trivial,main⟩
theorem VX {ops:Array Oper}:∀{l:List Nat} {S:St} {X:List (List PI)},j9 C ops l S=some X→X.length=l.length
 |[],S,X,h=>by simp only[j9,Option.some.injEq] at h;subst h;rfl
 |i::l,S,X,h=>by
  simp only[j9] at h;split at h
  case h_2=>cases h
  simp only[Option.bind_eq_some_iff,Option.map_eq_some_iff] at h;obtain⟨r,_,q,hq,rfl⟩:=h;simp[VX hq]
theorem VJ (X:List (List PI)):dp X (List.range X.length) 0=X.flatten:=by
 have h0:∀i,ak 0 i=false:=fun i=>by rw[nl];simp
 have key:∀(Y Z:List (List PI)),dp (Y++Z) (List.range' Y.length Z.length) 0=Z.flatten:=by
  intro Y Z
  induction Z generalizing Y with
  |nil=>rfl
  |cons z Z ih=>
   have:=ih (Y++[z]);simp only[List.append_assoc,List.singleton_append,List.length_append,List.length_cons,List.length_nil,Nat.zero_add] at this;rw[List.length_cons,List.range'_succ];have e:dp (Y++z::Z) (Y.length::List.range' (Y.length+1) Z.length) 0=(Y++z::Z).getD Y.length []++dp (Y++z::Z) (List.range' (Y.length+1) Z.length) 0:=by
        unfold dp;rw[List.flatMap_cons,h0];rfl
   rw[e,this,List.flatten_cons]
   congr 1
   simp[List.getD_eq_getElem?_getD]
 have:=key [] X;simp only[List.nil_append,List.length_nil] at this;rw[List.range_eq_range'];exact this
theorem amw (bh:dg C)(hΦ:dh C Φ):FT C n ids Φ (Ly C n ids):=by
 intro id ops draw S r hr rd w0 σ0 ρ ρ' a w Q hC hY hn hg af hQ;unfold Ly at hr;cases aw:m3 n ops<;>simp only[aw,cond_true,cond_false] at hr
 ·cases hr
 cases draw with
 |false=>
  simp only[cond_false] at hr;cases P6:Pt ops<;>simp only[P6,cond_true,cond_false] at hr
  ·cases hr
  simp only[Option.map_eq_some_iff] at hr;obtain⟨q,hq,rfl⟩:=hr;refine wpIn_region ?_
  have nM:iW ops []=fun _=>False:=by
   funext t;apply propext;constructor
   ·rintro⟨i,o,h,_⟩;cases h
   ·intro h;exact h.elim
  refine qI hC bh hΦ hY aw (List.range ops.size) [] (by simpa using List.nodup_range) (fun p i q o j want hl ho fb=>?_) hn (by rw[nM];exact hg) hq af (fun a' w' gh dR=>hQ a' w' gh (by
   have:=dR.snapF S.rs.length ids
   rw[show q.1.snap S.rs.length ids=⟨qk (dI q.1) q.1 S.rs (ops.toList.filterMap (·.dst)),ids.map fun j=>fh q.1 (q.1.o j)⟩ from by
        unfold St.snap;rw[zU fun t ht=>?_];rw[GH hq t (fun i o hi ho e=>ht (List.mem_filterMap.2 ⟨o,by simpa using Array.mem_of_getElem? ho,e⟩))];show _=dI q.1 (bU (S.rs.getD t .none));cases S.rs.getD t .none<;>rfl] at this
   exact this))
  have hi:i<ops.size:=by
   have:i∈List.range ops.size:=by rw[hl];simp
   exact List.mem_range.1 this
  have hb:=List.all_eq_true.1 P6 i (List.mem_range.2 hi);rw[ho] at hb;simp only[fb,Nat.blt_eq] at hb;have hp:=List.pairwise_lt_range (n:=ops.size);have oX:j∈List.range ops.size:=List.mem_range.2 (by omega);rw[hl,List.pairwise_append] at hp;obtain⟨_,dF,_⟩:=hp;rw[List.pairwise_cons] at dF;rw[hl,List.mem_append] at oX;simp only[List.nil_append];rcases oX with hm|hm
  ·exact hm
  ·rcases List.mem_cons.1 hm with e|hm
   ·omega
   ·have:=dF.1 j hm;omega
 |true=>
  simp only[cond_true] at hr;cases eP:(xp ops&&C.P.follows .mixedOrders)<;>simp only[eP,cond_true,cond_false] at hr
  ·cases hr
  simp only[Bool.and_eq_true] at eP;have h0:∀i,ak 0 i=false:=fun i=>by rw[nl];simp
  split at hr
  case h_1=>
   rename_i r hG;cases hr;generalize Iy:kW (cJ ops ops.size) ops.size=m at*;unfold Ph at hG;rw[Iy] at hG;have ags:m≤ops.size:=Iy▸Wa _ _;have tI:∀i,m≤i→i<ops.size→∀j,j<i→ak ((cJ ops ops.size).getD i 0) j=true:=Iy▸V9 _ _;rw[Option.bind_eq_some_iff] at hG;obtain⟨q,hq,hG⟩:=hG;cases oZ:xk ops (lO (q.map (·.2)) m) (cJ ops ops.size) m<;>simp only[oZ,cond_true,cond_false] at hG
   ·cases hG
   rw[Option.map_eq_some_iff] at hG;obtain⟨r1,fq,rfl⟩:=hG;refine wpIn_region_any eP.2 ?_
   have nM:qh ops 0=fun _=>False:=by
        funext t;apply propext;constructor
        ·rintro⟨i,o,h,_⟩;rw[h0] at h;cases h
        ·intro h;exact h.elim
   have hlen:(q.map (·.2)).length=m:=by rw[List.length_map];exact(G9 hq).1
   have ahr:m9 ops 0=ops.size:=by
        unfold m9;have:((List.range ops.size).filter fun i=> !ak 0 i)=List.range ops.size:=List.filter_eq_self.2 fun i _=>by rw[h0];rfl
        rw[this,List.length_range]
   have xH:(List.range m).filter (ak 0)=[]:=List.filter_eq_nil_iff.2 fun i _=>by rw[h0];simp
   simp only[kT,Option.bind_eq_some_iff] at af;obtain⟨ρ1,hρ1,hρ2⟩:=af;have Ia:=oZ;unfold xk at Ia;rw[Bool.and_eq_true] at Ia;refine acS (w0:=w0) (S:=S.st ids) hC bh hΦ hY hn aw eP.1 ags hq oZ tI (ρ':=ρ1) (fun listed a' w' aD hl gh dR=>?_) ops.size 0 _ ρ a _ ahr (fun j hj=>by rw[h0] at hj;cases hj) (fun j _ hj=>by rw[h0] at hj;cases hj) (by simp) (fun i=>?_) (.refl _ _) ?_ ?_
   ·refine anc hC bh hΦ hY aw eP.1 Ia.2 tI (ops.size-m) m listed (by omega) (Nat.le_refl _) aD hl (gh.size.trans hn) dR fq hρ2 (fun a2 w2 s2 g2=>hQ a2 w2 (gh.trans s2) (by
     have:=g2.snapF S.rs.length ids
     rw[show r1.1.snap S.rs.length ids=⟨qk (dI r1.1) r1.1 S.rs (ops.toList.filterMap (·.dst)),ids.map fun j=>fh r1.1 (r1.1.o j)⟩ from by
      unfold St.snap;rw[zU fun t ht=>?_];rw[GH fq t (fun i o hi ho e=>ht (List.mem_filterMap.2 ⟨o,by simpa using Array.mem_of_getElem? ho,e⟩))]
      have e1:dK ops (q.map (·.1)) (List.range m) (S.st ids).r t=(S.st ids).r t:=zT fun i hi e=>by
        rw[Option.bind_eq_some_iff] at e;obtain⟨o,ho,hd⟩:=e;exact ht (List.mem_filterMap.2 ⟨o,by simpa using Array.mem_of_getElem? ho,hd⟩)
      show dI _ (S.rs.getD t .none)=dI _ (dK ops (q.map (·.1)) (List.range m) (S.st ids).r t);rw[e1];show _=dI _ (bU (S.rs.getD t .none));cases S.rs.getD t .none<;>rfl] at this
     exact this))
   ·rw[h0];simp only[Array.getD_eq_getD_getElem?,Array.getElem?_replicate];split<;>rfl
   ·rw[nM,xH];exact hg.drew
   ·rw[←hlen,VJ];exact hρ1
  simp only[Option.bind_eq_some_iff,Option.map_eq_some_iff] at hr;obtain⟨X,hX,T,hT,rfl⟩:=hr;refine wpIn_region_any eP.2 ?_
  have nM:su ops 0=fun _=>False:=by
   funext t;apply propext;constructor
   ·rintro⟨i,o,h,_⟩;rw[h0] at h;cases h
   ·intro h;exact h.elim
  have hlen:=VX hX;rw[List.length_range] at hlen
  refine amT (w0:=w0) hC bh hΦ hY hn aw eP.1 (ρ':=ρ') ops.size hT (fun a' w' gh dR=>hQ a' w' gh (by
   have:=dR.snapF T.rs.length ids
   rw[show(T.stO ids).snap T.rs.length ids=⟨T.rs.map (dI (T.stO ids)),ids.map fun j=>fh (T.stO ids) ((T.stO ids).o j)⟩ from by
        unfold St.snap;have:=zU (g:=dI (T.stO ids)) (S:=T.stO ids) (rs:=T.rs) (ds:=[]) (fun t _=>rfl);rw[←this];rfl] at this
   exact this)) 0 _ (List.mem_singleton.2 rfl) _ ρ a _ (by simp) (fun i=>?_) (.refl _ _) ?_ ?_
  ·rw[h0];simp only[Array.getD_eq_getD_getElem?,Array.getElem?_replicate];split<;>rfl
  ·rw[nM];have:=(hg.drew).snapO S.rs.length ids
   rw[show(S.st ids).snapO S.rs.length ids=⟨S.rs.map fun s=>ir (S.st ids) (bU s),ids.map fun j=>fh (S.st ids) ((S.st ids).o j)⟩ from by
        unfold St.snapO
        have:=zU (g:=fun s=>ir (S.st ids) (bU s)) (S:=S.st ids) (rs:=S.rs) (ds:=[]) (fun t _=>by
         show ir _ (bU (S.rs.getD t .none))=ir _ (bU (bU (S.rs.getD t .none)));cases S.rs.getD t .none<;>rfl)
        have h2:(fun t=>ir (S.st ids) (bU ((S.st ids).r t)))=fun t=>ir (S.st ids) ((S.st ids).r t):=by
         funext t;show ir _ (bU (bU (S.rs.getD t .none)))=ir _ (bU (S.rs.getD t .none));cases S.rs.getD t .none<;>rfl
        rw[h2] at this;rw[←this];rfl] at this
   exact this
  ·rw[←hlen,VJ];exact af
end
end Cx
namespace Cx
open Go Go.RowKit
def OX (m:Nat)(s:Sig):Snap:=⟨s.args.map .dat++List.replicate (m-s.args.length) .none,[]⟩
def gR (ds:List D):Env:=⟨fun t=>ds.getD t .none,fun _=>.none⟩
def sP (C:Ctx)(fn:Func)(s:Sig)(ids:List Nat)(S0:Snap):Option PC:=
 match fn.body with
 |some c=>
  (comp C fn s fn.ntmps ids (Ly C fn.ntmps ids) false c S0).bind fun r=>
    match r.out with
    |none=>some r.pc
    |some S=>(sn C fn s (S.st ids)).map fun e=>.seq r.pc (.ret e)
 |none=>none
def GW (m:Nat)(shs:List Sh)(obs:List (Nat×Ob))(ids:List Nat):Snap:=⟨shs++List.replicate (m-shs.length) .none,ids.map (de obs)⟩
def Bq (shs:List Sh)(obs:List (Nat×Ob))(ds:List D):Env:=jx obs ds (ds.drop shs.length)
def yC (l:List Nat):Nat→List Sh→Bool
 |_,[]=>true
 |t,s::ss=>(jZ s|| !dH l t)&&yC l (t+1) ss
def uT:List (Nat×Ob)→Nat→List PI
 |[],_=>[]
 |x::l,k=>uT l (k+1)++[.setO x.1 (.r k)]
theorem VY {Φ:aO}:∀(l:List (Nat×Ob)) (k:Nat) (ρ:Env) (ds:List D),(∀i,ρ.r (k+i)=ds.getD i .none)→(∀j,ρ.o j=.none)→PI.runs Φ (uT l k) ρ=some ⟨ρ.r,fun j=>j4 l ds j⟩
 |[],k,ρ,ds,h,ho=>by
  simp only[uT,PI.runs]
  congr 1
  cases ρ with|mk r o=>congr 1;funext j;exact ho j
 |x::l,k,ρ,ds,h,ho=>by
  simp only[uT,kT]
  rw[VY l (k+1) ρ ds.tail (fun i=>by
   have:=h (i+1);rw[Nat.add_assoc,Nat.add_comm 1 i,this];cases ds<;>simp) ho]
  simp only[Option.bind_some,PI.runs,PI.run,PE.ev,Env.setO]
  congr 1
  congr 1
  funext j;rw[eC];have h0:=h 0;simp only[Nat.add_zero] at h0;cases ds with
  |nil=>
   have e:∀m j,j4 m [] j=D.none:=fun m j=>by cases m<;>rfl
   rw[h0];split<;>simp[e]
  |cons d ds=>
   simp only[j4,List.tail_cons];by_cases hj:j=x.1
   ·subst hj;rw[if_pos rfl,Nat.beq_refl,h0];rfl
   ·rw[if_neg hj,dO (fun e=>hj e.symm)];rfl
theorem amY {Φ:aO}(shs:List Sh)(obs:List (Nat×Ob))(ds:List D):PI.runs Φ (uT obs shs.length) (gR ds)=some (Bq shs obs ds):=by
 rw[VY obs shs.length (gR ds) (ds.drop shs.length) (fun i=>by simp[gR,List.getD_eq_getElem?_getD]) (fun j=>rfl)];rfl
def Ap (fn:Func):List Nat:=match fn.body with|some c=>bK c|none=>[]
def tY:List (Nat×Ob)→Bool
 |[]=>true
 |x::l=>(match x.2 with|.tr=>false|_=>true)&&tY l
def aB (C:Ctx)(fn:Func)(s:Sig)(ids:List Nat):Option PC:=
 match C.yl with
 |none=>
  match s.mode with
  |.ob shs obs=>bif Nat.ble shs.length fn.ntmps&&yC (Ap fn) 0 shs&&shs.all oc&&tY obs then(sP C fn s ids (GW fn.ntmps shs obs ids)).map fun pc=>.seq (.is (uT obs shs.length)) pc else none
  |_=>bif Nat.ble s.args.length fn.ntmps then sP C fn s ids (OX fn.ntmps s) else none
 |some _=>none
theorem Rn:∀(ids:List Nat) (j:Nat),cP ids [] j=.dead
 |[],_=>rfl
 |_::_,_=>rfl
theorem OG {C:Ctx}{Φ:aO}(bh:dg C)(hΦ:dh C Φ)(fJ:gr C Φ){fn:Func}{s:Sig}{ids:List Nat}{S0:Snap}{pc:PC}{c:Code}(hb:fn.body=some c)(hc:sP C fn s ids S0=some pc){w0:World}{σ0:Base}(jR:σ0.fin)(hC:CtxOK C σ0)(hY:ma C Φ w0 σ0)
 {N:Nat} {ρ:Env} {d:D} {a:Act} {w:World} (hn:a.tmps.size=fn.ntmps) (hg:Good C w0 σ0 (S0.st ids) ρ (fun _=>False) a w) (he:pc.ev Φ N ρ=some (.ret d)):
 c.wpIn (FR none) 0 C.P (fun e a' w'=>(e=.normal∨e=.ret)∧ng C w0 σ0 fn s d a'.tmps a'.defers w'∧SameBut (fun t=>t∈bK c) a a') a w:=by
 unfold sP at hc;rw[hb] at hc;simp only[Option.bind_eq_some_iff] at hc;obtain⟨r,hr,hc⟩:=hc;have Ir:=fun x hx=>abi (fn:=fn) (s:=s) (N:=N) fJ (amw (n:=fn.ntmps) (ids:=ids) bh hΦ) c false S0 r hr none w0 σ0 (fun t=>t∈bK c) ρ x a w (fun _=>⟨rfl,jR⟩) hC hY (fun _ h=>h) hn hg hx;split at hc
 ·rename_i gA;cases hc;refine wpIn_mono (Ir (.ret d) he) fun e a' w' ho=>?_;cases e with
  |normal=>obtain⟨_,_,h,_⟩:=ho;cases h
  |exit id=>obtain⟨_,_,h,_⟩:=ho;cases h
  |ret=>obtain⟨d',h,h2⟩:=ho;cases h;exact⟨.inr rfl,h2⟩
  |_=>exact ho.elim
 ·rename_i S gA;simp only[Option.map_eq_some_iff] at hc;obtain⟨pe,pf,rfl⟩:=hc;simp only[PC.ev] at he;split at he
  ·rename_i ρ1 h1;cases he;refine wpIn_mono (Ir (.next ρ1) h1) fun e a' w' ho=>?_;cases e with
   |normal=>
    obtain⟨ρ2,S2,e1,e2,lF,fp⟩:=ho;cases e1;rw[gA] at e2;cases e2;obtain⟨σ2,own,hv,hi⟩:=fp;exact⟨.inl rfl,Inv.retD hC (fun _=>rfl) jR pf _ hi rfl,lF⟩
   |exit id=>obtain⟨_,_,h,_⟩:=ho;cases h
   |ret=>obtain⟨d',h,h2⟩:=ho;cases h
   |_=>exact ho.elim
  ·rename_i av;refine wpIn_mono (Ir (.ret d) he) fun e a' w' ho=>?_;cases e with
   |normal=>obtain⟨_,_,h,_⟩:=ho;cases h
   |exit id=>obtain⟨_,_,h,_⟩:=ho;cases h
   |ret=>obtain⟨d',h,h2⟩:=ho;cases h;exact⟨.inr rfl,h2⟩
   |_=>exact ho.elim
theorem ng.leaves {C:Ctx}{w0:World}{σ0:Base}{fn:Func}{s:Sig}{d:D}{tmps:Array Value}{R:Ending→World→Prop}(hR:∀w',FV C w0 σ0 fn s d {tmps:=tmps,defers:=[]} w'→∃v,(results fn tmps).run C.P w'=.ok v w'∧R (.returned v) w'):
 ∀(ds:List Deferred) (w:World),ng C w0 σ0 fn s d tmps ds w→LeavesInM (FR none) 0 C.P fn tmps R ds .returning w
 |[],w,h=>hR w h
 |x::ds,w,⟨D,h1,h2,h3⟩=>⟨by simp,.inl ⟨D,_,h1,run_takeDeferred h2,ng.leaves hR ds _ h3⟩⟩
theorem acg {C:Ctx}{σ:Im}{w:World}{args:Array Value}{ds:List D}{s:Sig}{m:Nat}{ids:List Nat}(aw:σ.ok w)(ha:nf C σ s.args args.toList ds):
 Good C w (Base.mk0 σ w.heap.size) ((OX m s).st ids) (gR ds) (fun _=>False) {tmps:=args++Array.replicate (m-args.size) undef,defers:=[]} w:=by
 obtain⟨h1,h2,h3⟩:=ha;have aD:args.size=s.args.length:=by simpa using h1
 refine⟨σ,fun _=>none,fun _=>undef,trivial,aw,.refl σ,fun _ k e=>(aw.m k _ e).lt,fun _ _ _ h=>.inl h,fun _ _ h=>.inl h,.refl _ _,Nat.le_refl _,(fun k j h=>by cases h),fun t=>?_,fun j=>?_,fun t gs s' e=>absurd e (Snap.noOpt _ _ t gs s'),
  .none,fun _=>False,fun _=>False,⟨⟨fun _=>id,fun _=>id⟩,(fun k j h=>by cases h),fun _ _ _ _=>id,fun _ _ _=>id,fun _ _ _=>id⟩,fun j hj=>?_⟩
 ·show ay C _ _ σ _ (bU ((s.args.map Sh.dat++List.replicate (m-s.args.length) Sh.none).getD t .none)) _ _;rw[List.getD_eq_getElem?_getD];by_cases ht:t<s.args.length
  ·rw[List.getElem?_append_left (by simpa using ht),List.getElem?_map,List.getElem?_eq_getElem ht];simp only[Option.map_some,Option.getD_some,bU];have:=h3 t _ (List.getElem?_eq_getElem ht);have e1:(args++Array.replicate (m-args.size) undef).getD t undef=args.toList.getD t undef:=by
        simp only[Array.getD_eq_getD_getElem?,List.getD_eq_getElem?_getD];rw[Array.getElem?_append_left (by omega)];simp
   show ay C _ _ σ _ (.dat _) ((args++Array.replicate (m-args.size) undef).getD t undef) (ds.getD t .none);rw[e1];exact this
  ·rw[List.getElem?_append_right (by simpa using ht),List.getElem?_replicate];split<;>trivial
 ·show bJ C _ _ σ _ _ w _ j (cP ids [] j);rw[Rn];trivial
 ·change cP ids [] j=.tr at hj;rw[Rn] at hj;cases hj
theorem GG {C:Ctx}{Φ:aO}(bh:dg C)(hΦ:dh C Φ)(fJ:gr C Φ){f:Nat}{fn:Func}{s:Sig}{ids:List Nat}{pc:PC}(hf:C.P.funcs[f]?=some fn)(hc:aB C fn s ids=some pc){N:Nat}{ds:List D}{d:D}(bX:mK s.mode=false)
 (he:pc.ev Φ N (gR ds)=some (.ret d)):ja C f s ds d:=by
 intro σ w args aw hC ha;unfold aB at hc;split at hc
 case h_2=>cases hc
 rename_i jo;split at hc
 case h_1=>rename_i e;rw[e] at bX;cases bX
 cases hle:Nat.ble s.args.length fn.ntmps<;>simp only[hle,cond_true,cond_false] at hc
 ·cases hc
 have HK:=Nat.le_of_ble_eq_true hle;have aD:args.size=s.args.length:=by simpa using ha.1
 cases hb:fn.body with
 |none=>unfold sP at hc;rw[hb] at hc;cases hc
 |some c=>
 refine(callsIn_wide (n:=0)).1 (callsIn_of_wp_marks (F:=FR none) hf hb trivial ?_);have hg:=acg (C:=C) (m:=fn.ntmps) (ids:=ids) aw ha;have hn:(args++Array.replicate (fn.ntmps-args.size) undef).size=fn.ntmps:=by simp;omega
 refine wpIn_mono (OG bh hΦ fJ hb hc (σ0:=Base.mk0 σ w.heap.size) trivial hC (fun J ys e=>by rw[jo] at e;cases e) hn hg he) fun e a' w' ho=>?_
 have main:=ng.leaves (R:=fun e w'=>∃v σ',e=.returned v∧σ.le σ'∧σ'.ok w'∧Below w.heap.size w w'∧
  (∀k o x,σ'.c k o=some x→σ.c k o=some x∨w.heap.size≤k)∧(∀k x,σ'.m k=some x→σ.m k=some x∨w.heap.size≤k)∧l8 C s σ' w w' v d) (fun w2 Io=>by
  obtain⟨v,σ',_,h2,h3,h4,h5,h6,h7,h8⟩:=Io;exact⟨v,h2,v,σ',rfl,h3,h4,h5,h6,h7,h8⟩) _ _ ho.2.1
 rcases ho.1 with rfl|rfl<;>exact main
def Base.mkO (σ:Im)(own:Nat→Option Nat)(w:World)(cx:Nat→Prop):Base:=
 {σ with
  B:=0
  fin:=True
  F:=fun _ fx iK w'=>(∀k,fx k↔(k<w.heap.size∧own k=none))∧(∀k,iK k↔(fx k∧cx k))∧w.heap.size≤w'.heap.size∧∀k,fx k→w'.heap[k]?=w.heap[k]?
  lt:=fun t' fx cx w' h k hk=>Nat.lt_of_lt_of_le ((h.1 k).1 hk).1 h.2.2.1
  sub:=fun t' fx cx w' h k hk=>((h.2.1 k).1 hk).1
  keep:=fun t' fx cx w' jK h hb hs=>⟨h.1,h.2.1,Nat.le_trans h.2.2.1 hb.size,fun k hk=>(hs k hk).trans (h.2.2.2 k hk)⟩}
theorem Q8 {l:List Nat}:∀{shs:List Sh} {k:Nat},yC l k shs=true→∀(t:Nat) (s:Sh),shs[t]?=some s→jZ s=false→(k+t)∉l
 |[],k,_,t,s,h,_=>by simp at h
 |x::shs,k,hk,t,s,h,hd=>by
  simp only[yC,Bool.and_eq_true,Bool.or_eq_true,Bool.not_eq_true'] at hk;cases t with
  |zero=>
   simp at h;subst h;rcases hk.1 with h1|h1
   ·rw[hd] at h1;cases h1
   ·intro hm;rw[Nat.add_zero] at hm;rw[(lM _ _).2 hm] at h1;cases h1
  |succ t=>
   simp at h;have:=Q8 hk.2 t s h hd
   rwa [Nat.add_assoc,Nat.add_comm 1 t] at this
theorem Jn (obs:List (Nat×Ob))(j:Nat):∀ids:List Nat,cP ids (ids.map (de obs)) j=.dead∨cP ids (ids.map (de obs)) j=de obs j
 |[]=>.inl rfl
 |i::is=>by
  simp only[List.map_cons,cP];cases hb:Nat.beq i j
  ·exact Jn obs j is
  ·right;rw[Nat.eq_of_beq_eq_true hb];rfl
theorem Tr:∀{l:List (Nat×Ob)},tY l=true→∀j,de l j≠.tr
 |[],_,j,e=>by cases e
 |x::l,h,j,e=>by
  simp only[tY,Bool.and_eq_true] at h;simp only[de] at e;cases hb:Nat.beq x.1 j<;>simp only[hb,cond_true,cond_false] at e
  ·exact Tr h.2 j e
  ·have h1:=h.1;rw[e] at h1;cases h1
theorem acf {C:Ctx}{σ:Im}{own:Nat→Option Nat}{hv:Nat→Value}{w w0:World}{args:Array Value}{cx:Nat→Prop}{shs:List Sh}{obs:List (Nat×Ob)}{ds:List D}{m:Nat}{ids:List Nat}(hN:w0.heap.size≤w.heap.size)(xA:Below 0 w0 w)(aw:σ.ok w)(bk:∀k,σ.m k≠some cl)(aD:args.size=shs.length)
 (bz:∀k j,own k=some j→w0.heap.size≤k∧k<w.heap.size∧(∀o,σ.c k o=none)∧σ.m k=none) (gX:∀k,cx k→k<w.heap.size∧own k=none∧(∀o,σ.c k o=none)∧σ.m k=none) (rq:tY obs=true) (dS:shs.all oc=true)
 (h1:∀t,ay C (dY shs obs) (Bq shs obs ds) σ hv (shs.getD t .none) (args.getD t undef) (ds.getD t .none)) (h2:∀j,bJ C (dY shs obs) (Bq shs obs ds) σ own hv w w0.heap.size j (de obs j)):
 Good C w0 (Base.mkO σ own w cx) ((GW m shs obs ids).st ids) (Bq shs obs ds) (fun _=>False) {tmps:=args++Array.replicate (m-args.size) undef,defers:=[]} w:=by
 have oR:Compat (dY shs obs) hv ((GW m shs obs ids).st ids) hv:=⟨fun _=>Nat.le_refl _,fun _ _=>rfl⟩
 refine⟨σ,own,hv,trivial,aw,.refl σ,fun _ k e=>absurd e (bk k),fun _ _ _ h=>.inl h,fun _ _ h=>.inl h,xA,Nat.zero_le _,bz,fun t=>?_,fun j=>?_,fun t gs s' e=>absurd e (Snap.noOpt _ _ t gs s'),
  .none,(fun k=>k<w.heap.size∧own k=none),cx,⟨⟨fun _=>Iff.rfl,fun k=>⟨fun h=>⟨⟨(gX k h).1,(gX k h).2.1⟩,h⟩,fun h=>h.2⟩,Nat.le_refl _,fun _ _=>rfl⟩,(fun k j h hf=>by rw[hf.2] at h;cases h),(fun k o x e hc=>by rw[(gX k hc).2.2.1 o] at e;cases e),(fun k x e hc=>by rw[(gX k hc).2.2.2] at e;cases e),fun k e=>absurd e (bk k)⟩,fun j hj=>?_⟩
 ·show ay C _ _ σ _ (bU ((shs++List.replicate (m-shs.length) Sh.none).getD t .none)) _ _;refine FI ?_;rw[List.getD_eq_getElem?_getD];by_cases ht:t<shs.length
  ·rw[List.getElem?_append_left ht];have:=h1 t;rw[List.getD_eq_getElem?_getD (l:=shs)] at this;have e1:(args++Array.replicate (m-args.size) undef).getD t undef=args.getD t undef:=by
        simp only[Array.getD_eq_getD_getElem?];rw[Array.getElem?_append_left (by omega)]
   show ay C _ _ σ _ _ ((args++Array.replicate (m-args.size) undef).getD t undef) (ds.getD t .none);rw[e1];refine ay.mono' (.refl σ) oR (fun gs s' e=>?_) this;have hp:=List.all_eq_true.1 dS _ (List.getElem_mem ht);rw[List.getElem?_eq_getElem ht] at e;simp only[Option.getD_some] at e;rw[e] at hp;cases hp
  ·rw[List.getElem?_append_right (by omega),List.getElem?_replicate];split<;>trivial
 ·show bJ C _ _ σ _ _ w _ j (cP ids (ids.map (de obs)) j);rcases Jn obs j ids with e|e
  ·rw[e];trivial
  ·rw[e];exact(h2 j).mono (.refl σ) oR rfl rfl (fun k hk=>⟨hk,rfl⟩)
 ·change cP ids (ids.map (de obs)) j=.tr at hj;rcases Jn obs j ids with e|e
  ·rw[e] at hj;cases hj
  ·rw[e] at hj;exact absurd hj (Tr rq j)
def Bm (w:World)(N:Nat):World:={w with heap:=w.heap.extract 0 N}
theorem abd {C:Ctx}{Φ:aO}(bh:dg C)(hΦ:dh C Φ)(fJ:gr C Φ){f:Nat}{fn:Func}{s:Sig}{ids:List Nat}{pc:PC}(hf:C.P.funcs[f]?=some fn)(hc:aB C fn s ids=some pc){N:Nat}{ds:List D}{d:D}{shs:List Sh}{obs:List (Nat×Ob)}(bX:s.mode=.ob shs obs)
 (he:pc.ev Φ N (gR ds)=some (.ret d)):jb C f shs obs s.res ds d:=by
 intro B σ own hv w args cx _ aw hC bk hB aD bz gX h1 h2;unfold aB at hc;split at hc
 case h_2=>cases hc
 rename_i jo;rw[bX] at hc;simp only at hc;cases hle:(Nat.ble shs.length fn.ntmps&&yC (Ap fn) 0 shs&&shs.all oc&&tY obs)<;>simp only[hle,cond_true,cond_false] at hc
 ·cases hc
 simp only[Bool.and_eq_true] at hle;obtain⟨⟨⟨l1,l2⟩,l3⟩,l4⟩:=hle;simp only[Option.map_eq_some_iff] at hc;obtain⟨pc,hc,rfl⟩:=hc;simp only[PC.ev,amY,Option.map_some] at he;have HK:=Nat.le_of_ble_eq_true l1;cases hb:fn.body with
 |none=>unfold sP at hc;rw[hb] at hc;cases hc
 |some c=>
 have bL:Ap fn=bK c:=by unfold Ap;rw[hb]
 rw[bL] at l2;refine(callsIn_wide (n:=0)).1 (callsIn_of_wp_marks (F:=FR none) hf hb trivial ?_);have mI:(Bm w B).heap.size=B:=by simp[Bm];omega
 have xA:Below 0 (Bm w B) w:=⟨rfl,rfl,rfl,by rw[mI];exact hB,fun k hk=>by omega⟩
 have hg:=acf (C:=C) (m:=fn.ntmps) (ids:=ids) (w0:=Bm w B) (cx:=cx) (by rw[mI];exact hB) xA aw bk aD (by rw[mI];exact bz) gX l4 l3 h1 (by rw[mI];exact h2);have hn:(args++Array.replicate (fn.ntmps-args.size) undef).size=fn.ntmps:=by simp;omega
 refine wpIn_mono (OG bh hΦ fJ hb hc (σ0:=Base.mkO σ own w cx) trivial hC (fun J ys e=>by rw[jo] at e;cases e) hn hg he) fun e a' w' ho=>?_;obtain⟨fo,Io,fO⟩:=ho
 have main:=ng.leaves (R:=fun e w'=>∃v σ' own' hv' dr os,e=.returned v∧d=.tup (dr::os)∧os.length=obs.length∧σ.le σ'∧σ'.ok w'∧Below 0 w w'∧
  (∀k,k<w.heap.size→own k=none→w'.heap[k]?=w.heap[k]?)∧
  (∀k o x,σ'.c k o=some x→(σ.c k o=some x∨B≤k)∧¬cx k)∧(∀k x,σ'.m k=some x→(σ.m k=some x∨B≤k)∧¬cx k)∧(∀k,σ'.m k=some cl→B≤k→k<w.heap.size→own k≠none)∧
  (∀k j,own' k=some j→B≤k∧k<w'.heap.size∧(∀o,σ'.c k o=none)∧σ'.m k=none∧(k<w.heap.size→own k≠none))∧
  (∀(t:Nat) (sh:Sh),shs[t]?=some sh→jZ sh=false→ay C (dY shs obs) (jx obs ds os) σ' hv' sh (args.getD t undef) (ds.getD t .none))∧
  (∀j,bJ C (dY shs obs) (jx obs ds os) σ' own' hv' w' B j (de obs j))∧Rep C.cap σ' s.res v dr) (fun w2 hr=>by
  obtain⟨v,σ',⟨own',t,fx,iK,cC,_,hor⟩,af,jk,H6,Hq,cY,cM,_⟩:=hr;obtain⟨hv',dr,os,e1,e2,e3,e4,e5,e6⟩:=hor shs obs bX;obtain⟨f1,f2,f3,f4⟩:=cC.F;have PV:∀k,cx k→iK k:=fun k hk=>(f2 k).2 ⟨(f1 k).2 ⟨(gX k hk).1,(gX k hk).2.1⟩,hk⟩;rw[mI] at cY cM e3 e5
  refine⟨v,af,v,σ',own',hv',dr,os,rfl,e1,e2,jk,H6,⟨Hq.os,Hq.tape,Hq.output,f3,fun k hk=>by omega⟩,fun k hk hn=>f4 k ((f1 k).2 ⟨hk,hn⟩),fun k o x e=>⟨cY k o x e,fun hk=>cC.c k o x e (PV k hk)⟩,fun k x e=>⟨cM k x e,fun hk=>cC.m k x e (PV k hk)⟩,
   fun k e Hj hk hn=>cC.d k e (by rw[mI];exact Hj) ((f1 k).2 ⟨hk,hn⟩),fun k j hk=>?_,fun t sh hs hd=>?_,fun j=>?_,e6⟩
  ·obtain⟨g1,g2,g3,g4⟩:=e3 k j hk;exact⟨g1,g2,g3,g4,fun ae hn=>cC.own k j hk ((f1 k).2 ⟨ae,hn⟩)⟩
  ·have:=e4 t sh hs hd (ds.getD t .none);have ae:t<shs.length:=(List.getElem?_eq_some_iff.1 hs).1;have jV:t∉bK c:=by have:=Q8 l2 t sh hs hd;simpa using this
   have bR:a'.tmps.getD t undef=args.getD t undef:=by
        rw[fO.get t jV];simp only[Array.getD_eq_getD_getElem?];rw[Array.getElem?_append_left (by omega)]
   simp only at this;rw[bR] at this;have hp:=List.all_eq_true.1 l3 _ (List.mem_of_getElem? hs);exact ay.mono' (.refl σ') ⟨fun _=>Nat.le_refl _,fun _ _=>rfl⟩ (fun gs s' e=>by rw[e] at hp;cases hp) this
  ·exact bJ.mono (S:=dY shs obs) (S':=dY shs obs) (ρ:=jx obs [] os) (ρ':=jx obs ds os) (hv:=hv') (hv':=hv') (own:=own') (own':=own') (w:=w2) (w':=w2) (.refl σ') ⟨fun _=>Nat.le_refl _,fun _ _=>rfl⟩ rfl rfl (fun k hk=>⟨hk,rfl⟩) (e5 j)) _ _ Io
 rcases fo with rfl|rfl<;>exact main
open Classical in
noncomputable def cr (tab:Nat→Option PC)(ext:Nat→Option (aO→List D→Option D)):Nat→aO
 |0=>fun _ _=>none
 |n+1=>fun f ds=>
  match ext f with
  |some g=>g (cr tab ext n) ds
  |none=>
   match tab f with
   |some pc=>(match pc.ev (cr tab ext n) n (gR ds) with|some (.ret d)=>some d|_=>none)
   |none=>none
theorem ja.hint {C:Ctx}{fr nh:List Nat}{f:Nat}{s:Sig}{ds:List D}{d:D}(h:ja C f s ds d):ja {C with fr:=fr,nh:=nh} f s ds d:=
 fun σ w args aw hC ha=>h σ w args aw ⟨hC.glob⟩ ha
theorem ja.unhint {C:Ctx}{fr nh:List Nat}{f:Nat}{s:Sig}{ds:List D}{d:D}(h:ja {C with fr:=fr,nh:=nh} f s ds d):ja C f s ds d:=
 fun σ w args aw hC ha=>h σ w args aw ⟨hC.glob⟩ ha
theorem sF.hint {C:Ctx}{fr nh:List Nat}{f:Nat}{Bl ys:List Ty}{ds xs:List D}(h:sF C f Bl ys ds xs):sF {C with fr:=fr,nh:=nh} f Bl ys ds xs:=
 fun σ w yv vs F fx cx m aw hC=>h σ w yv vs F fx cx m aw ⟨hC.glob⟩
theorem jb.hint {C:Ctx}{fr nh:List Nat}{f:Nat}{shs:List Sh}{obs:List (Nat×Ob)}{res:Ty}{ds:List D}{d:D}(h:jb C f shs obs res ds d):jb {C with fr:=fr,nh:=nh} f shs obs res ds d:=h.ctx rfl rfl rfl
theorem jb.unhint {C:Ctx}{fr nh:List Nat}{f:Nat}{shs:List Sh}{obs:List (Nat×Ob)}{res:Ty}{ds:List D}{d:D}(h:jb {C with fr:=fr,nh:=nh} f shs obs res ds d):jb C f shs obs res ds d:=jb.ctx (C':=C) h rfl rfl rfl
theorem dh.hint {C:Ctx}{fr nh:List Nat}{Φ:aO}(h:dh C Φ):dh {C with fr:=fr,nh:=nh} Φ:=
 fun f ds d e s hs=>⟨fun hm=>((h f ds d e s hs).1 hm).hint,fun shs obs hm=>((h f ds d e s hs).2 shs obs hm).hint⟩
theorem gr.hint {C:Ctx}{fr nh:List Nat}{Φ:aO}(h:gr C Φ):gr {C with fr:=fr,nh:=nh} Φ:=
 fun f cs ys hc hi=>let⟨h1,h2⟩:=h f cs ys hc hi;⟨h1,fun ds d e=>let⟨xs,e1,e2,e3⟩:=h2 ds d e;⟨xs,e1,e2,e3.hint⟩⟩
theorem dg.hint {C:Ctx}{fr nh:List Nat}(h:dg C):dg {C with fr:=fr,nh:=nh}:=h
def FP (C:Ctx)(f:Nat)(s:Sig)(ds:List D)(d:D):Prop:=(mK s.mode=false→ja C f s ds d)∧∀shs obs,s.mode=.ob shs obs→jb C f shs obs s.res ds d
structure TabOK (C:Ctx) (tab:Nat→Option PC) (ext:Nat→Option (aO→List D→Option D)):Prop where
 clos:dg C
 its:∀f cs ys,C.cap f=some cs→jt cs.args cs.res=some ys→tab f=none∧∃fn,C.P.funcs[f]?=some fn∧fn.body.isSome=true∧(fn.name== "runtime.NumGoroutine")=false
 tab:∀f pc,ext f=none→tab f=some pc→∃fn s ids fr nh,C.P.funcs[f]?=some fn∧C.sig f=some s∧aB {C with fr:=fr,nh:=nh} fn s ids=some pc
 ext:∀f g,ext f=some g→∀Φ,dh C Φ→gr C Φ→∀ds d,g Φ ds=some d→(∀s,C.sig f=some s→FP C f s ds d)∧
  ∀cs ys,C.cap f=some cs→jt cs.args cs.res=some ys→∃xs,d=.list xs∧(∀x,x∈xs→∃ds',x=.tup ds'∧ds'.length=ys.length)∧sF C f cs.caps ys ds xs
theorem NK {C:Ctx}{tab:Nat→Option PC}{ext:Nat→Option (aO→List D→Option D)}(h:TabOK C tab ext):∀n,dh C (cr tab ext n)∧gr C (cr tab ext n)
 |0=>⟨fun f ds d e=>by simp[cr] at e,fun f cs ys hc hi=>⟨(h.its f cs ys hc hi).2,fun ds d e=>by simp[cr] at e⟩⟩
 |n+1=>by
  obtain⟨ih,jr⟩:=NK h n;refine⟨fun f ds d e=>?_,fun f cs ys hc hi=>⟨(h.its f cs ys hc hi).2,fun ds d e=>?_⟩⟩
  ·simp only[cr] at e;split at e
   ·rename_i g hg;exact(h.ext f g hg _ ih jr ds d e).1
   ·rename_i hx;split at e
    ·rename_i pc aA;split at e
     ·rename_i d' he;cases e;obtain⟨fn,s,ids,fr,nh,h1,h2,h3⟩:=h.tab f pc hx aA;intro s' lJ;rw[h2] at lJ;cases lJ
      exact⟨fun hm=>(GG (C:={C with fr:=fr,nh:=nh}) (dg.hint h.clos) (dh.hint ih) (gr.hint jr) h1 h3 hm he).unhint,
       fun shs obs hm=>(abd (C:={C with fr:=fr,nh:=nh}) (dg.hint h.clos) (dh.hint ih) (gr.hint jr) h1 h3 hm he).unhint⟩
     ·cases e
    ·cases e
  ·simp only[cr] at e;split at e
   ·rename_i g hg;exact(h.ext f g hg _ ih jr ds d e).2 cs ys hc hi
   ·rw[(h.its f cs ys hc hi).1] at e;cases e
open Classical in
def ab {α:Type}:List (Nat×α)→Nat→Option α
 |[],_=>none
 |x::l,f=>bif Nat.beq x.1 f then some x.2 else ab l f
def Ad {α:Type}(R:Nat→α→Prop):List (Nat×α)→Prop
 |[]=>True
 |x::l=>R x.1 x.2∧Ad R l
theorem yH {α:Type}{R:Nat→α→Prop}:∀{l:List (Nat×α)},Ad R l→∀f x,ab l f=some x→R f x
 |[],_,f,x,h=>by cases h
 |y::l,⟨h1,h2⟩,f,x,h=>by
  simp only[ab] at h;cases hb:Nat.beq y.1 f<;>simp only[hb,cond_true,cond_false] at h
  ·exact yH h2 f x h
  ·cases h;rw[←cn hb];exact h1
def LY (P:Program):List (Nat×Sig)→Bool
 |[]=>true
 |x::l=>(match P.funcs[x.1]? with|some fn=>fn.body.isSome&& !(fn.name== "runtime.NumGoroutine")|none=>false)&&LY P l
theorem Wf {P:Program}:∀{l:List (Nat×Sig)},LY P l=true→∀f s,ab l f=some s→∃fn,P.funcs[f]?=some fn∧fn.body.isSome=true∧(fn.name== "runtime.NumGoroutine")=false
 |[],_,f,s,h=>by cases h
 |y::l,hl,f,s,h=>by
  simp only[LY,Bool.and_eq_true] at hl;simp only[ab] at h;cases hb:Nat.beq y.1 f<;>simp only[hb,cond_true,cond_false] at h
  ·exact Wf hl.2 f s h
  ·rw[←cn hb];have h1:=hl.1;split at h1
   ·rename_i fn e;simp only[Bool.and_eq_true,Bool.not_eq_true'] at h1;exact⟨fn,e,h1.1,h1.2⟩
   ·cases h1
def LR (a b:Sig):Bool:=Ty.beqs a.args b.args&&Ty.beq a.res b.res&&(match a.mode,b.mode with|.dat,.dat=>true|_,_=>false)
theorem am2 {a b:Sig}(h:LR a b=true):a=b:=by
 obtain⟨a1,a2,a3⟩:=a;obtain⟨b1,b2,b3⟩:=b;simp only[LR,Bool.and_eq_true] at h;rw[Ty.beqs_eq _ _ h.1.1,Ty.beq_eq _ _ h.1.2];cases a3<;>cases b3<;>first|rfl|(have:=h.2;cases this)
def zY (P:Program)(f:Nat):Bool:=match P.funcs[f]? with|some fn=>fn.body.isSome&& !(fn.name== "runtime.NumGoroutine")|none=>false
theorem anm {P:Program}{f:Nat}(h:zY P f=true):∃fn,P.funcs[f]?=some fn∧fn.body.isSome=true∧(fn.name== "runtime.NumGoroutine")=false:=by
 unfold zY at h;split at h
 ·rename_i fn e;simp only[Bool.and_eq_true,Bool.not_eq_true'] at h;exact⟨fn,e,h.1,h.2⟩
 ·cases h
def Gz (P:Program)(sig:List (Nat×Sig))(pcs:List Nat):List (Nat×CSig)→Bool
 |[]=>true
 |x::l=>(match jt x.2.args x.2.res with
   |none=>(match ab sig x.1 with|some s=>LR s ⟨x.2.args++x.2.caps,x.2.res,.dat⟩|none=>false)
   |some _=> !dH pcs x.1&&zY P x.1)&&Gz P sig pcs l
theorem Oe {P:Program}{sig:List (Nat×Sig)}{pcs:List Nat}:∀{l:List (Nat×CSig)},Gz P sig pcs l=true→∀f cs,ab l f=some cs→
 (jt cs.args cs.res=none→ab sig f=some ⟨cs.args++cs.caps,cs.res,.dat⟩)∧∀ys,jt cs.args cs.res=some ys→dH pcs f=false∧zY P f=true
 |[],_,f,cs,h=>by cases h
 |x::l,hl,f,cs,h=>by
  simp only[Gz,Bool.and_eq_true] at hl;simp only[ab] at h;cases hb:Nat.beq x.1 f<;>simp only[hb,cond_true,cond_false] at h
  ·exact Oe hl.2 f cs h
  ·cases h;rw[←cn hb];have h1:=hl.1;refine⟨fun e=>?_,fun ys e=>?_⟩
   ·rw[e] at h1;simp only at h1;split at h1
    ·rename_i s hs;rw[hs,am2 h1]
    ·cases h1
   ·rw[e] at h1;simpa using h1
theorem Rl {α:Type}:∀{l:List (Nat×α)} {f:Nat},dH (l.map (·.1)) f=false→ab l f=none
 |[],f,_=>rfl
 |x::l,f,h=>by
  simp only[List.map_cons,dH,List.any_cons,Bool.or_eq_false_iff] at h;simp only[ab];have hb:Nat.beq x.1 f=false:=by
   cases e:Nat.beq x.1 f
   ·rfl
   ·rw[Nat.eq_of_beq_eq_true e,Nat.beq_refl] at h;cases h.1
  rw[hb];exact Rl (l:=l) h.2
def WK (Φ:aO)(pa pb:PC)(ds:List D)(d:D):Prop:=(∃N xs,pa.ev Φ N (gR ds)=some (.ret (.list xs))∧xs≠[]∧d=.list xs)∨∃N,pb.ev Φ N (gR ds)=some (.ret (.list []))∧d=.list []
open Classical in
noncomputable def nY (pa pb:PC)(spec:List D→D):aO→List D→Option D:=fun Φ ds=>if WK Φ pa pb ds (spec ds) then some (spec ds) else none
theorem akd {C:Ctx}{Φ:aO}(bh:dg C)(hΦ:dh C Φ)(fJ:gr C Φ){f:Nat}{fn:Func}{args:List Ty}{e:Ty}{ids ahH fr nh Pn Tq:List Nat}{pa pb:PC}(hf:C.P.funcs[f]?=some fn)(ha:aB {C with fr:=fr,nh:=nh} fn ⟨args,.slice e,.dat⟩ ids=some pa)
 (hb:aB {C with fr:=Pn,nh:=Tq} fn ⟨args,.nils .bool,.dat⟩ ahH=some pb) {spec:List D→D} {ds:List D} {d:D} (h:nY pa pb spec Φ ds=some d):ja C f ⟨args,.nsl e,.dat⟩ ds d:=by
 unfold nY at h;split at h
 case isFalse=>cases h
 rename_i hs;cases h;rcases hs with⟨N,xs,h1,h2,h3⟩|⟨N,h1,h2⟩
 ·rw[h3];have:=(GG (C:={C with fr:=fr,nh:=nh}) (dg.hint bh) (dh.hint hΦ) (gr.hint fJ) hf ha (N:=N) rfl h1).unhint;intro σ w as aw hC gf;refine(this σ w as aw hC gf).mono fun en w' hh=>?_;obtain⟨v,σ',g1,g2,g3,g4,g5,g6,g7⟩:=hh;refine⟨v,σ',g1,g2,g3,g4,g5,g6,?_⟩;change Rep C.cap σ' (.slice e) v (.list xs) at g7;show Rep C.cap σ' (.nsl e) v (.list xs);generalize hd:D.list xs=dd at g7;cases g7 with
  |nil=>injection hd with hd;exact absurd hd h2
  |emp=>injection hd with hd;exact absurd hd h2
  |slice _ k o n c Wu vs a1 a2 a3 a4 a5=>exact .nsl e k o n c Wu (.slice e k o n c Wu vs a1 a2 a3 a4 a5) (by injection hd with hd;rw[←hd];exact h2)
 ·rw[h2];have:=(GG (C:={C with fr:=Pn,nh:=Tq}) (dg.hint bh) (dh.hint hΦ) (gr.hint fJ) hf hb (N:=N) rfl h1).unhint;intro σ w as aw hC gf;refine(this σ w as aw hC gf).mono fun en w' hh=>?_;obtain⟨v,σ',g1,g2,g3,g4,g5,g6,g7⟩:=hh;refine⟨v,σ',g1,g2,g3,g4,g5,g6,?_⟩;change Rep C.cap σ' (.nils .bool) v (.list []) at g7;show Rep C.cap σ' (.nsl e) v (.list []);generalize D.list []=dd at g7;cases g7;exact .nsl0 e
end Cx
