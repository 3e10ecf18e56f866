/-
  Regions: in the order of the text, and in every order that their edges allow.
-/
import Derived.Test.YtkhkejmimnklfaaGreatDoorKAG
import Derived.Orders
set_option linter.unusedSimpArgs false
set_option linter.unusedVariables false
namespace Cx
open Go Go.RowKit
def jA (S:St):Sh→Sh
 |.opt gs s=>.opt gs (eF S s)
 |s=>eF S s
def St.snapO (n:Nat)(ids:List Nat)(S:St):Snap:=⟨(List.range n).map fun t=>jA S (S.r t),ids.map fun j=>fX S (S.o j)⟩
def Snap.stO (ids:List Nat)(s:Snap):St:=⟨fun t=>s.rs.getD t .none,fun j=>cS ids s.os j,fun _=>0⟩
theorem qz (S:St)(s:Sh):∀gs s',eF S s≠.opt gs s':=by
 intro gs s' e;cases s<;>simp only[eF] at e<;>first|cases e|(revert e;cases Nat.beq _ _<;>intro e<;>cases e)|(revert e;cases List.all _ _<;>intro e<;>cases e)
section
variable {C:Ctx} {S:St} {ρ:Env} {σ:Im} {own:Nat→Option Nat} {hv:Nat→Value} {w0:World} {σ0:Base} {A:Nat→Prop} {a:Act} {w:World} {n:Nat} {ids:List Nat} {Φ:aR}
theorem auO {s:Sh}{v:Value}{d:D}(h:aI C S ρ σ hv s v d){T:St}(hT:T.ver=fun _=>0):aI C T ρ σ hv (jA S s) v d:=by
 have hc:Compat S.norm hv T hv:=⟨fun j=>by rw[hT];exact Nat.zero_le _,fun _ _=>rfl⟩
 have key:∀s,aI C S ρ σ hv s v d→aI C T ρ σ hv (eF S s) v d:=fun s hs=>aI.mono' (.refl σ) hc (qz S s) (Hr hs).1;cases s with
 |opt gs s=>exact⟨fun hh=>key s (h.1 hh),h.2⟩
 |_=>exact key _ h
theorem Good.snapO (h:Good C w0 σ0 S ρ A a w)(n:Nat)(ids:List Nat):Good C w0 σ0 ((S.snapO n ids).stO ids) ρ A a w:=by
 obtain⟨σ,own,hv,h⟩:=h;have h1:=h.norm;have hc:Compat S.norm hv ((S.snapO n ids).stO ids) hv:=⟨fun _=>Nat.le_refl _,fun _ _=>rfl⟩
 refine⟨σ,own,hv,h.defers,h.ok,h.le,h.old,h.newc,h.newm,h.below,h.bw,h.owns,fun t=>?_,fun j=>?_,fun t gs s e=>?_,?_⟩
 rotate_right
 ·obtain⟨t,fx,cx,f1,f5⟩:=h.frame;refine⟨t,fx,cx,f1,fun j hj=>f5 j ?_⟩;exact u9 (fun j=>fX S (S.o j)) (fun ob=>ob=.tr→S.o j=.tr) (fun e=>by cases e) j abq ids hj
 ·show aI C _ ρ σ hv (((List.range n).map fun t=>jA S (S.r t)).getD t .none) _ _;rw[List.getD_eq_getElem?_getD,List.getElem?_map];by_cases ht:t<n
  ·rw[List.getElem?_range ht];exact auO (h.regs t) rfl
  ·rw[List.getElem?_eq_none (by simpa using ht)];trivial
 ·have ho:=(h1.objs j).mono (.refl σ) hc (w:=w) (w':=w) rfl rfl (fun k hk=>⟨hk,rfl⟩);exact u9 (fun j=>fX S (S.o j)) (fun ob=>bR C _ ρ σ own hv w w0.heap.size j ob) trivial j ho ids
 ·change ((List.range n).map fun t=>jA S (S.r t)).getD t .none=.opt gs s at e;rw[List.getD_eq_getElem?_getD,List.getElem?_map] at e;by_cases ht:t<n
  ·rw[List.getElem?_range ht] at e;simp only[Option.map_some,Option.getD_some] at e;cases hs:S.r t with
   |opt bu s'=>
    rw[hs] at e;simp only[jA,Sh.opt.injEq] at e;obtain⟨rfl,rfl⟩:=e;exact⟨(h.opts t bu s' hs).1,qz S s'⟩
   |none=>rw[hs] at e;exact absurd e (qz S .none gs s)
   |yv=>rw[hs] at e;exact absurd e (qz S .yv gs s)
   |fclo f c=>rw[hs] at e;exact absurd e (qz S (.fclo f c) gs s)
   |dat t=>rw[hs] at e;exact absurd e (qz S (.dat t) gs s)
   |obj t u=>rw[hs] at e;exact absurd e (qz S (.obj t u) gs s)
   |ptr t u v=>rw[hs] at e;exact absurd e (qz S (.ptr t u v) gs s)
   |eptr t u v x=>rw[hs] at e;exact absurd e (qz S (.eptr t u v x) gs s)
  ·rw[List.getElem?_eq_none (by simpa using ht)] at e;cases e
theorem Good.snapF (h:Good C w0 σ0 S ρ A a w)(n:Nat)(ids:List Nat):Good C w0 σ0 ((S.snap n ids).st ids) ρ (fun _=>False) a w:=by
 obtain⟨σ,own,hv,h⟩:=h;exact⟨σ,own,hv,h.snap n ids⟩
theorem Good.drew (h:Good C w0 σ0 S ρ A a w):Good C w0 σ0 S ρ A a {w with drawn:=w.drawn+1}:=by
 obtain⟨σ,own,hv,h⟩:=h;refine⟨σ,own,hv,h.defers,⟨fun k o v e=>h.ok.c k o v e,fun k es e=>h.ok.m k es e⟩,h.le,h.old,h.newc,h.newm,h.below.drew,h.bw,h.owns,h.regs,fun j=>?_,h.opts,?_⟩
 rotate_right
 ·obtain⟨t,fx,cx,f1,f2⟩:=h.frame;exact⟨t,fx,cx,⟨σ0.keep _ _ _ _ _ f1.F (Below.drew (.refl _ _)) (fun _ _=>rfl),f1.own,f1.c,f1.m,f1.d⟩,f2⟩
 exact(h.objs j).mono (.refl σ) (.refl S hv) rfl rfl (fun k hk=>⟨hk,rfl⟩)
end
def sX (g:Sh→Sh)(S:St)(rs:List Sh)(ds:List Nat):List Sh:=(ds.foldl (fun l d=>l.set d (S.r d)) rs).map g
theorem WH (S:St):∀(ds:List Nat) (rs:List Sh),(ds.foldl (fun l d=>l.set d (S.r d)) rs).length=rs.length∧∀t,t<rs.length→(ds.foldl (fun l d=>l.set d (S.r d)) rs).getD t .none=if t∈ds then S.r t else rs.getD t .none
 |[],rs=>⟨rfl,fun t _=>by simp⟩
 |d::ds,rs=>by
  obtain⟨h1,h2⟩:=WH S ds (rs.set d (S.r d));simp only[List.length_set] at h1 h2;refine⟨h1,fun t ht=>?_⟩;rw[List.foldl_cons,h2 t ht];simp only[List.mem_cons,List.getD_eq_getElem?_getD,List.getElem?_set];by_cases hm:t∈ds
  ·simp[hm]
  ·by_cases e:d=t
   ·subst e;simp[hm,ht]
   ·have e':¬t=d:=fun h=>e h.symm;simp[hm,e,e']
theorem Dw {g:Sh→Sh}{S:St}{rs:List Sh}{ds:List Nat}(h:∀t,t∉ds→g (rs.getD t .none)=g (S.r t)):sX g S rs ds=(List.range rs.length).map fun t=>g (S.r t):=by
 obtain⟨h1,h2⟩:=WH S ds rs;unfold sX;apply List.ext_getElem?;intro t;simp only[List.getElem?_map];by_cases ht:t<rs.length
 ·have:=h2 t ht;rw[List.getD_eq_getElem?_getD,List.getElem?_eq_getElem (by omega)] at this;rw[List.getElem?_eq_getElem (by omega),List.getElem?_range ht];simp only[Option.getD_some,Option.map_some] at this ⊢;rw[this];by_cases hm:t∈ds
  ·simp[hm]
  ·simp only[hm,if_false];rw[h t hm]
 ·rw[List.getElem?_eq_none (by omega),List.getElem?_eq_none (by simpa using ht)];rfl
def BW (E:Nat)(T:Snap):List (Nat×Snap)→Option (List (Nat×Snap))
 |[]=>some [(E,T)]
 |x::l=>bif Nat.beq x.1 E then(bif x.2.beq T then some (x::l) else none) else(BW E T l).map (x::·)
def mW (ops:Array Oper)(E:Nat):List Nat:=
 (List.range ops.size).filter fun i=> !ar E i&&(match ops[i]? with|some o=>o.after.toList.all fun e=> !Region.binds .any e||ar E e.on|none=>false)
def Qx (C:Ctx)(ops:Array Oper)(n:Nat)(ids:List Nat)(X:List (List PI))(nc:List (List Nat))(E:Nat)(T:Snap)(i:Nat):Option (Nat×Snap):=
 match ops[i]? with
 |some o=>(nl C (T.stO ids) ops o).bind fun r=>
  bif PI.beqs r.2 (X.getD i [])&&(nc.getD i []).all (ar E) then some (Nat.lor E (dt i),⟨sX (jA r.1) r.1 T.rs o.dst.toList,ids.map fun j=>fX r.1 (r.1.o j)⟩) else none
 |none=>none
def Dx (one:Nat→Option (Nat×Snap)):List Nat→List (Nat×Snap)→Option (List (Nat×Snap))
 |[],acc=>some acc
 |i::l,acc=>(one i).bind fun x=>(BW x.1 x.2 acc).bind fun acc=>Dx one l acc
def B2 (ops:Array Oper)(one:Nat→Snap→Nat→Option (Nat×Snap)):List (Nat×Snap)→List (Nat×Snap)→Option (List (Nat×Snap))
 |[],acc=>some acc
 |x::l,acc=>
  match mW ops x.1 with
  |[]=>none
  |rs=>(Dx (one x.1 x.2) rs acc).bind fun acc=>B2 ops one l acc
def Ds (ops:Array Oper)(one:Nat→Snap→Nat→Option (Nat×Snap)):Nat→List (Nat×Snap)→Option Snap
 |0,L=>
  match L with
  |[x]=>bif (List.range ops.size).all (ar x.1) then some x.2 else none
  |_=>none
 |k+1,L=>(B2 ops one L []).bind fun L=>Ds ops one k L
theorem Yn {E:Nat}{T:Snap}:∀{l l':List (Nat×Snap)},BW E T l=some l'→(E,T)∈l'∧∀x,x∈l→x∈l'
 |[],l',h=>by simp only[BW,Option.some.injEq] at h;subst h;simp
 |x::l,l',h=>by
  simp only[BW] at h;cases hb:Nat.beq x.1 E<;>simp only[hb,cond_true,cond_false] at h
  ·simp only[Option.map_eq_some_iff] at h;obtain⟨l2,h2,rfl⟩:=h;obtain⟨h3,h4⟩:=Yn h2;exact⟨List.mem_cons_of_mem _ h3,fun y hy=>(List.mem_cons.1 hy).elim (fun e=>e▸List.mem_cons_self ..) fun hm=>List.mem_cons_of_mem _ (h4 y hm)⟩
  ·cases hs:x.2.beq T<;>simp only[hs,cond_true,cond_false] at h
   ·cases h
   ·cases h;refine⟨?_,fun y hy=>hy⟩;have e1:=cB hb;have e2:=Snap.beq_eq _ _ hs;subst e1;subst e2;simp
theorem ae4 {one:Nat→Option (Nat×Snap)}:∀{rs:List Nat} {acc y6:List (Nat×Snap)},Dx one rs acc=some y6→(∀x,x∈acc→x∈y6)∧∀i,i∈rs→∃x,one i=some x∧x∈y6
 |[],acc,y6,h=>by simp only[Dx,Option.some.injEq] at h;subst h;simp
 |i::rs,acc,y6,h=>by
  simp only[Dx,Option.bind_eq_some_iff] at h;obtain⟨x,hx,afZ,h1,h2⟩:=h;obtain⟨h3,h4⟩:=Yn h1;obtain⟨h5,h6⟩:=ae4 h2;refine⟨fun y hy=>h5 y (h4 y hy),fun j hj=>?_⟩;rcases List.mem_cons.1 hj with e|hm
  ·subst e;exact⟨x,hx,h5 _ h3⟩
  ·exact h6 j hm
theorem YJ {ops:Array Oper}{one:Nat→Snap→Nat→Option (Nat×Snap)}:∀{L acc L':List (Nat×Snap)},B2 ops one L acc=some L'→
 (∀x,x∈acc→x∈L')∧∀x,x∈L→mW ops x.1≠[]∧∀i,i∈mW ops x.1→∃y,one x.1 x.2 i=some y∧y∈L'
 |[],acc,L',h=>by simp only[B2,Option.some.injEq] at h;subst h;simp
 |x::L,acc,L',h=>by
  simp only[B2] at h;split at h
  ·cases h
  ·rename_i aC;simp only[Option.bind_eq_some_iff] at h;obtain⟨afZ,h1,h2⟩:=h;obtain⟨h3,h4⟩:=ae4 h1;obtain⟨h5,h6⟩:=YJ h2;refine⟨fun y hy=>h5 y (h3 y hy),fun y hy=>?_⟩;rcases List.mem_cons.1 hy with e|hm
   ·subst e;refine⟨fun e=>aC e,fun i hi=>?_⟩;obtain⟨z,hz,hm⟩:=h4 i hi;exact⟨z,hz,h5 z hm⟩
   ·exact h6 y hm
def dN (X:List (List PI))(l:List Nat)(E:Nat):List PI:=l.flatMap fun i=>bif ar E i then[] else X.getD i []
theorem R4 {X:List (List PI)}{E E':Nat}:∀(l:List Nat),(∀i,i∈l→ar E i=ar E' i)→dN X l E=dN X l E'
 |[],_=>rfl
 |i::l,h=>by
  have ih:=R4 (X:=X) l fun j hj=>h j (List.mem_cons_of_mem _ hj);unfold dN at ih ⊢;simp only[List.flatMap_cons];rw[ih,h i (List.mem_cons_self ..)]
theorem Foot.comm_each {a b:List PI}(h:(fQ a).comm (fQ b)=true):∀p q,p∈a→q∈b→Comm p q:=by
 simp only[Foot.comm,Bool.and_eq_true] at h;obtain⟨h1,h2,h3,h4,h5,h6⟩:=h;intro p q hp hq;obtain⟨p1,p2,p3,p4⟩:=WI hp;obtain⟨q1,q2,q3,q4⟩:=WI hq;exact⟨fun t x y=>Pf h1 (p1 t x) (q1 t y),fun t x y=>Pf h2 (p1 t x) (q3 t y),fun t x y=>Pf h3 (q1 t x) (p3 t y),fun t x y=>Ma h4 (p2 t x) (q2 t y),fun t x y=>Ma h5 (p2 t x) (q4 t y),fun t x y=>Ma h6 (q2 t x) (p4 t y)⟩
def nO (X:List (List PI))(N:Nat):List (List Nat):=
 (List.range N).map fun i=>(List.range i).filter fun j=> !(fQ (X.getD j [])).comm (fQ (X.getD i []))
theorem gw (E i j:Nat):ar (Nat.lor E (dt i)) j=(ar E j||Nat.beq i j):=by
 rw[ei]
 congr 1
 rw[pZ];show(1<<<i).testBit j=_;rw[Nat.testBit_shiftLeft];by_cases h:i=j
 ·subst h;simp
 ·have h1:Nat.beq i j=false:=dU h;rw[h1];by_cases h2:i≤j
  ·have:j-i≠0:=by omega
   cases hk:j-i with
   |zero=>omega
   |succ k=>
    have:(1:Nat).testBit (k+1)=false:=by simp[Nat.testBit_succ]
    simp[this]
  ·simp[h2]
theorem aeC {X:List (List PI)}{N E i:Nat}(hi:i<N)(hb:ar E i=false)(cZ:((nO X N).getD i []).all (ar E)=true)(Φ:aR)(ρ:Env):
 PI.runs Φ (dN X (List.range N) E) ρ=(PI.runs Φ (X.getD i []) ρ).bind (PI.runs Φ (dN X (List.range N) (Nat.lor E (dt i)))):=by
 obtain⟨l1,l2,hl⟩:=List.append_of_mem (List.mem_range.2 hi);have hp:=List.pairwise_lt_range (n:=N);rw[hl,List.pairwise_append] at hp;obtain⟨_,eC,hp3⟩:=hp;rw[List.pairwise_cons] at eC;have YY:∀j,j∈l1→j<i:=fun j hj=>hp3 j hj i (List.mem_cons_self ..);have lt2:∀j,j∈l2→i<j:=fun j hj=>eC.1 j hj;have e0:∀E,dN X (l1++i::l2) E=dN X l1 E++((bif ar E i then[] else X.getD i [])++dN X l2 E):=fun E=>by simp[dN]
 have e1:dN X l1 (Nat.lor E (dt i))=dN X l1 E:=R4 l1 fun j hj=>by
  rw[gw,dU (by have:=YY j hj;omega),Bool.or_false]
 have e2:dN X l2 (Nat.lor E (dt i))=dN X l2 E:=R4 l2 fun j hj=>by
  rw[gw,dU (by have:=lt2 j hj;omega),Bool.or_false]
 have e3:ar (Nat.lor E (dt i)) i=true:=by rw[gw,Nat.beq_refl,Bool.or_true]
 rw[hl,e0,e0,e1,e2,e3,hb];simp only[cond_true,cond_false,List.nil_append]
 have aqt:PI.runs Φ (dN X l1 E++X.getD i [])=PI.runs Φ (X.getD i []++dN X l1 E):=funext fun ρ=>PI.comms _ _ (fun p q hp hq=>by
  unfold dN at hp;obtain⟨j,hj,hp⟩:=List.mem_flatMap.1 hp;cases nz:ar E j<;>simp only[nz,cond_true,cond_false] at hp
  case true=>cases hp
  have hc:(fQ (X.getD j [])).comm (fQ (X.getD i []))=true:=by
   cases gi:(fQ (X.getD j [])).comm (fQ (X.getD i [])) with
   |true=>rfl
   |false=>
    have rC:(nO X N).getD i []=(List.range i).filter fun j=> !(fQ (X.getD j [])).comm (fQ (X.getD i [])):=by
     unfold nO;rw[List.getD_eq_getElem?_getD,List.getElem?_map,List.getElem?_range hi];rfl
    rw[rC] at cZ;have:=List.all_eq_true.1 cZ j (List.mem_filter.2 ⟨List.mem_range.2 (YY j hj),by rw[gi];rfl⟩);rw[nz] at this;cases this
  exact Foot.comm_each hc p q hp hq) ρ
 rw[←List.append_assoc,mX,aqt];have:=mX (Φ:=Φ) (a:=X.getD i []) (b:=dN X l1 E) (ρ:=ρ);rw[this,Option.bind_assoc]
 congr 1
 funext ρ1;rw[mX]
def kH (C:Ctx)(ops:Array Oper):List Nat→St→Option (List (List PI))
 |[],_=>some []
 |i::l,S=>
  match ops[i]? with
  |some o=>(nl C S ops o).bind fun r=>(kH C ops l r.1).map fun q=>r.2::q
  |none=>none
def WQ (ops:Array Oper):Bool:=(List.range ops.size).all fun i=>match ops[i]? with
 |some o=>(match o.guard with|some (j,_)=>Nat.blt j i|none=>true)
 |none=>true
def AX (ops:Array Oper):Bool:=ops.toList.all fun o=>match o.guard with
 |some (j,_)=>o.after.toList.any fun e=>Region.binds .any e&&Nat.beq e.on j
 |none=>true
def bm:Operand→List Nat
 |.tmp t=>[t]
 |_=>[]
def yM:Option Operand→List Nat
 |some x=>bm x
 |none=>[]
def jU:Op→List Nat
 |.move x=>bm x
 |.assign x=>bm x
 |.unOp _ _ x=>bm x
 |.convert _ _ x=>bm x
 |.load _ x=>bm x
 |.fieldAddr _ x _=>bm x
 |.field _ x _=>bm x
 |.extract x _=>bm x
 |.nilCheck x=>bm x
 |.pick c x y=>bm c++bm x++bm y
 |.binOp _ _ x y _=>bm x++bm y
 |.indexAddr _ x i=>bm x++bm i
 |.index _ x i=>bm x++bm i
 |.lookup _ m k _=>bm m++bm k
 |.slice _ x lo hi _=>bm x++yM lo++yM hi
 |.build _ ps=>ps.toList.flatMap fun p=>bm p.2
 |.call c=>(match c.callee with|.value x=>bm x|_=>[])++c.args.toList.flatMap bm
 |.store _ x v=>bm x++bm v
 |.mapUpdate _ m k v=>bm m++bm k++bm v
 |_=>[]
def F3 (ops:Array Oper)(o:Oper):List Nat:=
 match o.guard with
 |some (j,_)=>(match(ops[j]?).bind (·.dst) with|some t=>[t]|none=>[])
 |none=>[]
def St.withR (S:St)(f:Nat→Sh):St:=⟨f,S.o,S.ver⟩
section
variable {C:Ctx} {S:St} {f:Nat→Sh} {gs:List (Nat×Bool)} {dst:Nat}
theorem yG {t:Nat}(h:f t=S.r t):jH (S.withR f) gs t=jH S gs t:=by
 have e:(S.withR f).r t=S.r t:=h;unfold jH;rw[e]
theorem sW {x:Operand}(h:∀t,t∈bm x→f t=S.r t):fA (S.withR f) gs x=fA S gs x:=by
 cases x<;>first|rfl|exact yG (h _ (List.mem_singleton.2 rfl))
theorem dz {x:Operand}(h:∀t,t∈bm x→f t=S.r t):use C (S.withR f) gs x=use C S gs x:=by
 cases x<;>first|rfl|(unfold use;simp only;rw[yG (h _ (List.mem_singleton.2 rfl))];rfl)
theorem afr {x:Operand}(h:∀t,t∈bm x→f t=S.r t):view C (S.withR f) gs x=view C S gs x:=by
 unfold view;rw[dz h];cases x<;>first|rfl|(simp only;rw[yG (h _ (List.mem_singleton.2 rfl))];rfl)
theorem US:∀{xs:List Operand},(∀t,t∈xs.flatMap bm→f t=S.r t)→j2 C (S.withR f) gs xs=j2 C S gs xs
 |[],_=>rfl
 |x::xs,h=>by
  simp only[j2]
  rw[dz fun t ht=>h t (List.mem_flatMap.2 ⟨x,List.mem_cons_self ..,ht⟩),US fun t ht=>by
   obtain⟨y,hy,lJ⟩:=List.mem_flatMap.1 ht;exact h t (List.mem_flatMap.2 ⟨y,List.mem_cons_of_mem _ hy,lJ⟩)]
theorem azV {x:Option Operand}(h:∀t,t∈yM x→f t=S.r t):DJ C (S.withR f) gs x=DJ C S gs x:=by
 cases x with
 |none=>rfl
 |some x=>exact dz h
theorem azT {e:PE}{x:Option Operand}(h:∀t,t∈yM x→f t=S.r t):DI C (S.withR f) gs e x=DI C S gs e x:=by
 cases x with
 |none=>rfl
 |some x=>exact dz h
theorem px:∀{xs:List Operand},(∀t,t∈xs.flatMap bm→f t=S.r t)→bT (S.withR f) gs xs=bT S gs xs
 |[],_=>rfl
 |x::xs,h=>by
  simp only[bT]
  rw[sW fun t ht=>h t (List.mem_flatMap.2 ⟨x,List.mem_cons_self ..,ht⟩),px fun t ht=>by
   obtain⟨y,hy,lJ⟩:=List.mem_flatMap.1 ht;exact h t (List.mem_flatMap.2 ⟨y,List.mem_cons_of_mem _ hy,lJ⟩)]
  rfl
theorem VL:∀(l:List Sh) (j i:Nat),p6 (S.withR f) j l i=p6 S j l i
 |[],_,_=>rfl
 |s::l,j,i=>by simp only[p6];rw[VL l j (i+1)];rfl
theorem gK {P:Nat→Prop}{a b:List Nat}(h:∀t,t∈a++b→P t):(∀t,t∈a→P t)∧∀t,t∈b→P t:=
 ⟨fun t ht=>h t (List.mem_append_left _ ht),fun t ht=>h t (List.mem_append_right _ ht)⟩
theorem ac7 {x:Operand}(h:∀t,t∈bm x→f t=S.r t):nQ C (S.withR f) gs dst x=nQ C S gs dst x:=by
 unfold nQ;rw[dz h];cases x<;>first|rfl|(simp only;rw[yG (h _ (List.mem_singleton.2 rfl))])
theorem avn {c x y:Operand}(h:∀t,t∈bm c++bm x++bm y→f t=S.r t):xW C (S.withR f) gs dst c x y=xW C S gs dst c x y:=by
 obtain⟨h1,h3⟩:=gK h;obtain⟨h1,h2⟩:=gK h1;unfold xW;cases c<;>first|rfl|skip
 simp only;rw[yG (h1 _ (List.mem_singleton.2 rfl)),dz h2,dz h3]
theorem auY {op:BinOp}{T:TypeId}{x y:Operand}(h:∀t,t∈bm x++bm y→f t=S.r t):xL C (S.withR f) gs dst op T x y=xL C S gs dst op T x y:=by
 obtain⟨h1,h2⟩:=gK h;unfold xL;rw[dz h1,dz h2]
theorem avs {op:UnOp}{x:Operand}(h:∀t,t∈bm x→f t=S.r t):xY C (S.withR f) gs dst op x=xY C S gs dst op x:=by unfold xY;rw[dz h]
theorem au2 {s d:TypeId}{x:Operand}(h:∀t,t∈bm x→f t=S.r t):xN C (S.withR f) gs dst s d x=xN C S gs dst s d x:=by unfold xN;rw[dz h]
theorem avf {T:TypeId}{x:Operand}(h:∀t,t∈bm x→f t=S.r t):xT C (S.withR f) gs dst T x=xT C S gs dst T x:=by unfold xT;rw[afr h]
theorem ac5 {b:Bool}{x y:Operand}(h:∀t,t∈bm x++bm y→f t=S.r t):vh C (S.withR f) gs dst b x y=vh C S gs dst b x y:=by
 obtain⟨h1,h2⟩:=gK h;unfold vh;rw[dz h1,dz h2]
theorem avh {T:TypeId}{x:Operand}(h:∀t,t∈bm x→f t=S.r t):sr C (S.withR f) gs dst T x=sr C S gs dst T x:=by
 unfold sr;rw[sW h,dz h];simp only[VL];rfl
theorem au6 {T:TypeId}{x:Operand}{i:Nat}(h:∀t,t∈bm x→f t=S.r t):xQ C (S.withR f) gs dst T x i=xQ C S gs dst T x i:=by
 unfold xQ;rw[sW h,dz h];rfl
theorem au8 {T:TypeId}{x:Operand}{i:Nat}(h:∀t,t∈bm x→f t=S.r t):xP C (S.withR f) gs dst T x i=xP C S gs dst T x i:=by unfold xP;rw[dz h]
theorem avb {T:TypeId}{x i:Operand}(h:∀t,t∈bm x++bm i→f t=S.r t):xS C (S.withR f) gs dst T x i=xS C S gs dst T x i:=by
 obtain⟨h1,h2⟩:=gK h;unfold xS;rw[dz h1,dz h2,sW h1];rfl
theorem avd {T:TypeId}{x i:Operand}(h:∀t,t∈bm x++bm i→f t=S.r t):xR C (S.withR f) gs dst T x i=xR C S gs dst T x i:=by
 obtain⟨h1,h2⟩:=gK h;unfold xR;rw[dz h1,dz h2]
theorem au4 {x:Operand}{i:Nat}(h:∀t,t∈bm x→f t=S.r t):xO C (S.withR f) gs dst x i=xO C S gs dst x i:=by unfold xO;rw[dz h]
theorem avj {T:TypeId}{m k:Operand}{ok:Bool}(h:∀t,t∈bm m++bm k→f t=S.r t):xU C (S.withR f) gs dst T m k ok=xU C S gs dst T m k ok:=by
 obtain⟨h1,h2⟩:=gK h;unfold xU;rw[afr h1,dz h2]
theorem avq {T:TypeId}{x:Operand}{lo hi mx:Option Operand}(h:∀t,t∈bm x++yM lo++yM hi→f t=S.r t):xX C (S.withR f) gs dst T x lo hi mx=xX C S gs dst T x lo hi mx:=by
 obtain⟨h1,h3⟩:=gK h;obtain⟨h1,h2⟩:=gK h1;unfold xX;rw[dz h1];simp only[azV h2,azT h3]
theorem VB {zs:List Value}{parts:List (Nat×Operand)}(h:∀t,t∈(parts.flatMap fun p=>bm p.2)→f t=S.r t):∀(fs:List Field) (i off:Nat),jc C (S.withR f) gs zs parts fs i off=jc C S gs zs parts fs i off
 |[],_,_=>rfl
 |g::fs,i,off=>by
  simp only[jc,VB h fs];cases hp:parts.find? (fun p=>Nat.beq p.1 i) with
  |none=>rfl
  |some p=>
   have hu:use C (S.withR f) gs p.2=use C S gs p.2:=dz fun t ht=>h t (List.mem_flatMap.2 ⟨p,List.mem_of_find?_eq_some hp,ht⟩);simp only[hu]
theorem au0 {T:TypeId}{ps:List (Nat×Operand)}(h:∀t,t∈(ps.flatMap fun p=>bm p.2)→f t=S.r t):xM C (S.withR f) gs dst T ps=xM C S gs dst T ps:=by
 unfold xM;simp only[VB h];split
 ·rfl
 ·split
  ·split
   ·rename_i x y;rw[dz (x:=x) fun t ht=>h t (by simp[ht]),dz (x:=y) fun t ht=>h t (by simp[ht])]
   ·rfl
  ·rfl
 ·rfl
theorem avl {x:Operand}(h:∀t,t∈bm x→f t=S.r t):xV C (S.withR f) gs dst x=xV C S gs dst x:=by
 unfold xV;rw[dz h];cases x<;>first|rfl|(simp only;rw[yG (h _ (List.mem_singleton.2 rfl))];rfl)
def lu:Op→Bool
 |.move _|.pick ..|.binOp ..|.unOp ..|.convert ..|.load ..|.fieldAddr ..|.field ..|.indexAddr ..|.index ..|.extract ..|.lookup ..|.slice ..|.build ..|.nilCheck _|.makeInterface ..|.call _=>true
 |_=>false
theorem ac9 {op:Op}(hq:lu op=true)(h:∀t,t∈jU op→f t=S.r t):mJ C (S.withR f) gs dst op=mJ C S gs dst op:=by
 cases op<;>simp only[lu] at hq<;>simp only[jU] at h<;>simp only[mJ]
 case move=>exact ac7 h
 case pick=>exact avn h
 case binOp=>exact auY h
 case unOp=>exact avs h
 case convert=>exact au2 h
 case load=>exact avh h
 case fieldAddr=>exact au6 h
 case field=>exact au8 h
 case indexAddr=>exact avb h
 case index=>exact avd h
 case extract=>exact au4 h
 case lookup=>exact avj h
 case slice=>exact avq h
 case build=>exact au0 h
 case nilCheck=>exact avl h
 case call c=>
  obtain⟨_,h2⟩:=gK h;split
  ·rename_i x T _ ha _;exact avf fun t ht=>h2 t (by rw[ha];simp[ht])
  ·rename_i x y _ ha;exact ac5 fun t ht=>h2 t (by rw[ha];simpa using ht)
  ·rename_i x y _ ha;exact ac5 fun t ht=>h2 t (by rw[ha];simpa using ht)
  ·rfl
 all_goals (cases hq;done)
theorem av1 {op:Op}(h:∀t,t∈jU op→f t=S.r t)(hq:lu op=true):sA (S.withR f) gs op=sA S gs op:=by
 cases op<;>simp only[lu] at hq<;>simp only[jU] at h<;>simp only[sA]
 case build T ps=>exact px fun t ht=>h t (by
  obtain⟨x,hx,mD⟩:=List.mem_flatMap.1 ht;obtain⟨p,hp,rfl⟩:=List.mem_map.1 hx;exact List.mem_flatMap.2 ⟨p,hp,mD⟩)
 case pick c x y=>
  obtain⟨h1,h3⟩:=gK h;obtain⟨h1,h2⟩:=gK h1;refine px fun t ht=>?_;simp only[List.flatMap_cons,List.flatMap_nil,List.append_nil,List.mem_append] at ht;exact ht.elim (h2 t) (h3 t)
 case slice T x lo hi mx=>
  obtain⟨h1,h3⟩:=gK h;obtain⟨h1,h2⟩:=gK h1;exact px fun t ht=>h1 t (by simpa using ht)
 all_goals first|rfl|(cases hq;done)
theorem av2 {op:Op}(h:∀t,t∈jU op→f t=S.r t)(hq:lu op=true):pre C (S.withR f) gs op=pre C S gs op:=by
 have nH:=hq;cases op<;>simp only[lu] at hq<;>simp only[pre,av1 h nH]
 case load T x=>simp only[jU] at h;rw[sW h];rfl
 all_goals first|(cases hq;done)|skip
theorem apN {ops:Array Oper}{o:Oper}(h:∀t,t∈F3 ops o→f t=S.r t):ny (S.withR f) ops o=ny S ops o:=by
 unfold ny;cases hg:o.guard with
 |none=>rfl
 |some jw=>
  obtain⟨j,want⟩:=jw;simp only;cases ht:(ops[j]?).bind (·.dst) with
  |none=>rfl
  |some t=>
   simp only;have:(S.withR f).r t=S.r t:=h t (by unfold F3;rw[hg];simp[ht]);rw[this]
end
def AQ (C:Ctx)(S:St)(gs:List (Nat×Bool))(dst:Nat)(op:Op):Option (Sh×List PI):=
 match op with
 |.assign x=>
  match gs with
  |[]=>bif C.fr.any (Nat.beq dst)&&(bT S [] [x]).isEmpty then(match nQ C S [] dst x with|some r=>bif lL r.1 then some r else none|none=>none) else none
  |_=>none
 |.call c=>
  match mJ C S gs dst (.call c) with
  |some r=>bif pw r.1&&gy gs (some dst) r.2 then some (gx gs r.1,r.2) else none
  |none=>
   bif (bT S gs c.args.toList).isEmpty then
    match c.callee with
    |.value (.func f)=>(match nr C S gs dst f c.args.toList with|some r=>bif gy gs (some dst) r.2.2 then some (gx gs r.2.1,r.2.2) else none|none=>none)
    |.value x=>(match mh C S gs dst x c.args.toList with|some r=>bif gy gs (some dst) r.2.2 then some (gx gs r.2.1,r.2.2) else none|none=>none)
    |_=>none
   else none
 |op=>bif lu op&&(pre C S gs op).isEmpty then(match mJ C S gs dst op with|some r=>bif pw r.1&&gy gs (some dst) r.2 then some (gx gs r.1,r.2) else none|none=>none) else none
def AR (C:Ctx)(S:St)(gs:List (Nat×Bool))(op:Op):Option (List PI):=
 match op,gs with
 |.store T x v,[]=>
  match fA S [] x with
  |.eptr ..=>bif (bT S [] [v]).isEmpty then(ri C S T x v).map (·.2) else none
  |_=>none
 |.mapUpdate T m k v,[]=>bif (bT S [] [k,v]).isEmpty then(p7 C S T m k v).map (·.2) else none
 |.panic _,[]=>some [.chk (.nt (.con (.bool true)))]
 |_,_=>none
def ru (C:Ctx)(S:St)(ops:Array Oper)(o:Oper):Option (Sh×List PI):=
 match C.yl with
 |some _=>none
 |none=>(ny S ops o).bind fun gs=>
  match o.dst with
  |some dst=>AQ C S gs dst o.op
  |none=>(AR C S gs o.op).map fun l=>(.none,l)
def lZ (S:St)(o:Oper)(s:Sh):St:=match o.dst with|some d=>S.setR d s|none=>S
section
variable {C:Ctx} {S:St} {f:Nat→Sh} {gs:List (Nat×Bool)} {dst:Nat}
theorem al6 {g:Nat}{xs:List Operand}(h:∀t,t∈xs.flatMap bm→f t=S.r t)(he:(bT S gs xs).isEmpty=true):
 (match nr C (S.withR f) gs dst g xs with|some r=>bif gy gs (some dst) r.2.2 then some (gx gs r.2.1,r.2.2) else none|none=>none)=(match nr C S gs dst g xs with|some r=>bif gy gs (some dst) r.2.2 then some (gx gs r.2.1,r.2.2) else none|none=>none):=by
 have ho:=px (gs:=gs) h;have jP:=List.isEmpty_iff.1 he;unfold nr;cases C.sig g with
 |none=>rfl
 |some s=>
  simp only[Option.bind_some];cases s.mode<;>first|rfl|skip
  simp only[ho,jP,St.fzs,List.foldl_nil,US h];cases j2 C S gs xs with
  |none=>rfl
  |some u=>
   simp only[Option.bind_some];cases Ty.subs u.1 s.args<;>rfl
theorem alZ {x:Operand}{xs:List Operand}(hx:∀t,t∈bm x→f t=S.r t)(h:∀t,t∈xs.flatMap bm→f t=S.r t)(he:(bT S gs xs).isEmpty=true):
 (match mh C (S.withR f) gs dst x xs with|some r=>bif gy gs (some dst) r.2.2 then some (gx gs r.2.1,r.2.2) else none|none=>none)=(match mh C S gs dst x xs with|some r=>bif gy gs (some dst) r.2.2 then some (gx gs r.2.1,r.2.2) else none|none=>none):=by
 have ho:=px (gs:=gs) h;have jP:=List.isEmpty_iff.1 he;unfold mh;rw[dz hx];cases use C S gs x with
 |none=>rfl
 |some y=>
  obtain⟨ty,e⟩:=y;cases ty with
  |fn aa r=>
   simp only;cases ku aa r with
   |some _=>rfl
   |none=>
    simp only[ho,jP,St.fzs,List.foldl_nil,US h];cases j2 C S gs xs with
    |none=>rfl
    |some u=>
     simp only[Option.bind_some];cases Ty.subs u.1 aa<;>rfl
  |_=>rfl
theorem am7 {op:Op}(h:∀t,t∈jU op→f t=S.r t):AQ C (S.withR f) gs dst op=AQ C S gs dst op:=by
 have other:∀op,(∀t,t∈jU op→f t=S.r t)→(bif lu op&&(pre C (S.withR f) gs op).isEmpty then(match mJ C (S.withR f) gs dst op with|some r=>bif pw r.1&&gy gs (some dst) r.2 then some (gx gs r.1,r.2) else none|none=>none) else none)=
  (bif lu op&&(pre C S gs op).isEmpty then(match mJ C S gs dst op with|some r=>bif pw r.1&&gy gs (some dst) r.2 then some (gx gs r.1,r.2) else none|none=>none) else none):=by
  intro op h;cases hq:lu op with
  |false=>rfl
  |true=>rw[av2 h hq,ac9 hq h]
 unfold AQ;split
 ·rename_i x;simp only[jU] at h;rw[ac7 h,px (xs:=[x]) fun t ht=>h t (by simpa using ht)]
 ·rename_i c;have h':=h;simp only[jU] at h';obtain⟨h1,h2⟩:=gK h';rw[ac9 (op:=.call c) rfl h,px h2];split
  ·rfl
  ·cases he:(bT S gs c.args.toList).isEmpty with
   |false=>rfl
   |true=>
    simp only[cond_true];split
    ·exact al6 h2 he
    ·rename_i x _ hc;exact alZ (fun t ht=>h1 t (by rw[hc];exact ht)) h2 he
    ·rfl
 ·exact other _ h
theorem am8 {op:Op}(h:∀t,t∈jU op→f t=S.r t):AR C (S.withR f) gs op=AR C S gs op:=by
 unfold AR;split
 ·rename_i T x v;simp only[jU] at h;obtain⟨h1,h2⟩:=gK h;rw[sW h1,px (xs:=[v]) fun t ht=>h2 t (by simpa using ht)];split
  ·rename_i j ver size off jv;cases(bT S [] [v]).isEmpty with
   |false=>rfl
   |true=>
    simp only[cond_true];unfold ri;rw[sW h1,dz h2,jv];simp only;have eo:(S.withR f).o=S.o:=rfl;have ev:(S.withR f).ver=S.ver:=rfl;rw[eo,ev];cases C.P.info? T with
    |none=>rfl
    |some inf=>
     simp only;cases Nat.beq ver (S.ver j) with
     |false=>rfl
     |true=>
      simp only[cond_true];cases S.o j with
      |row T' e0=>
       cases use C S [] v with
       |none=>cases e0<;>rfl
       |some y=>
        obtain⟨t,e⟩:=y;cases e0<;>simp only<;>(generalize (_&&_:Bool)=b;cases b<;>rfl)
      |_=>rfl
  ·rfl
 ·rename_i T m k v;simp only[jU] at h;obtain⟨h1,h3⟩:=gK h;obtain⟨h1,h2⟩:=gK h1
  rw[px (xs:=[k,v]) fun t ht=>by
   simp only[List.flatMap_cons,List.flatMap_nil,List.append_nil,List.mem_append] at ht;exact ht.elim (h2 t) (h3 t)]
  cases(bT S [] [k,v]).isEmpty with
  |false=>rfl
  |true=>
   simp only[cond_true];unfold p7;rw[sW h1,dz h2,dz h3];have eo:(S.withR f).o=S.o:=rfl;have ev:(S.withR f).ver=S.ver:=rfl;rw[eo,ev];cases C.P.underlying T with
   |none=>rfl
   |some desc=>
    cases desc with
    |map K E=>
     cases fA S [] m with
     |obj j ver=>
      simp only;cases Nat.beq ver (S.ver j) with
      |false=>rfl
      |true=>
       simp only[cond_true];cases S.o j with
       |mp kt et=>
        cases use C S [] k with
        |none=>rfl
        |some y=>
         cases use C S [] v with
         |none=>rfl
         |some z=>
          obtain⟨tk,ek⟩:=y;obtain⟨tv,ev⟩:=z;simp only;generalize (_&&_:Bool)=b;cases b<;>rfl
       |_=>rfl
     |_=>rfl
    |_=>rfl
 ·rfl
 ·rfl
theorem ana {ops:Array Oper}{o:Oper}(h:∀t,t∈jU o.op++F3 ops o→f t=S.r t):ru C (S.withR f) ops o=ru C S ops o:=by
 obtain⟨h1,h2⟩:=gK h;unfold ru;rw[apN h2];split
 ·rfl
 ·cases ny S ops o with
  |none=>rfl
  |some gs=>
   simp only[Option.bind_some];split
   ·exact am7 h1
   ·rw[am8 h1]
theorem awJ {S:St}{t:Nat}{s:Sh}(h:S.r t=s)(hs:lL s=true):vD S t t=some (S,[]):=by
 unfold vD;rw[h];cases s<;>first|rfl|cases hs
theorem am9 {ops:Array Oper}{o:Oper}{q:Sh×List PI}(h:ru C S ops o=some q):nl C S ops o=some (lZ S o q.1,q.2):=by
 unfold ru at h;split at h
 case h_1=>cases h
 rename_i iO;simp only[Option.bind_eq_some_iff] at h;obtain⟨gs,dv,h⟩:=h;have hY:wj C S ops o=none:=by
  unfold wj;rw[iO];split<;>first|rfl|(rename_i hx;cases hx;done)|(rename_i hx _;cases hx;done)
 have fin:∀{S':St},pre C S gs o.op++nT C S gs o=[]→core C S gs o=some (S',q.2)→gV C (post C S' o) S'=some (S',[])→gy gs o.dst q.2=true→nl C S ops o=some (S',q.2):=by
  intro S' h1 h2 h3 h4;unfold nl wh Ao;rw[hY,dv];simp only[Option.bind_some,h1,gV,h2,h3,h4,cond_true,List.nil_append,List.append_nil]
 cases hd:o.dst with
 |some dst=>
  simp only[hd] at h;have cu:lZ S o q.1=S.setR dst q.1:=by unfold lZ;rw[hd]
  rw[cu];unfold AQ at h;split at h
  ·rename_i x bB;split at h
   case h_2=>cases h
   cases hb:(C.fr.any (Nat.beq dst)&&(bT S [] [x]).isEmpty)<;>simp only[hb,cond_true,cond_false] at h
   ·cases h
   simp only[Bool.and_eq_true] at hb;split at h
   case h_2=>cases h
   rename_i r hr;cases Xd:lL r.1<;>simp only[Xd,cond_true,cond_false] at h
   ·cases h
   cases h;have he:=List.isEmpty_iff.1 hb.2;refine fin ?_ ?_ ?_ rfl
   ·rw[bB];unfold nT;rw[bB,hd];simp only[hb.1,he,cond_true,pre,sA,List.map_nil,List.append_nil]
   ·unfold core;rw[hd];simp only[bB,mJ,hb.1,cond_true,hr]
   ·unfold post;rw[bB,hd];simp only[gV,Gh.run];rw[awJ (s:=q.1) (by simp[St.setR,aP]) Xd];rfl
  ·rename_i c bB;have OA:pre C S gs o.op++nT C S gs o=[]:=by
        rw[bB];unfold nT;rw[bB];simp[pre,sA]
   have iM:∀S':St,gV C (post C S' o) S'=some (S',[]):=fun S'=>by
        unfold post;rw[bB];rfl
   split at h
   ·rename_i r hr;cases hb:(pw r.1&&gy gs (some dst) r.2)<;>simp only[hb,cond_true,cond_false] at h
    ·cases h
    cases h;simp only[Bool.and_eq_true] at hb;refine fin OA ?_ (iM _) (by rw[hd];exact hb.2);unfold core;rw[hd];simp only[bB,hr,hb.1,cond_true]
   ·rename_i hr;cases he:(bT S gs c.args.toList).isEmpty<;>simp only[he,cond_true,cond_false] at h
    ·cases h
    have jP:=List.isEmpty_iff.1 he;have sfz:∀b:Bool,(bif b then S else S.fzs (bT S gs c.args.toList))=S:=fun b=>by rw[jP];cases b<;>rfl
    split at h
    ·rename_i f hc;split at h
     case h_2=>cases h
     rename_i r eQ;cases hb:gy gs (some dst) r.2.2<;>simp only[hb,cond_true,cond_false] at h
     ·cases h
     cases h;refine fin OA ?_ (iM _) (by rw[hd];exact hb);have hS:r.1=S:=by
      simp only[nr,Option.bind_eq_some_iff] at eQ;obtain⟨s,hs,eQ⟩:=eQ;split at eQ
      case h_2=>cases eQ
      simp only[Option.bind_eq_some_iff] at eQ;obtain⟨u,hu,eQ⟩:=eQ;cases bZ:Ty.subs u.1 s.args<;>simp only[bZ,cond_true,cond_false] at eQ
      ·cases eQ
      cases eQ;exact sfz _
     unfold core;rw[hd];simp only[bB,hr,hc,eQ,hS]
    ·rename_i x Oh hc;split at h
     case h_2=>cases h
     rename_i r eQ;cases hb:gy gs (some dst) r.2.2<;>simp only[hb,cond_true,cond_false] at h
     ·cases h
     cases h;refine fin OA ?_ (iM _) (by rw[hd];exact hb);have hS:r.1=S:=by
      unfold mh at eQ;split at eQ
      case h_2=>cases eQ
      rename_i aa r0 e OV;split at eQ
      case h_1=>cases eQ
      simp only[Option.bind_eq_some_iff] at eQ;obtain⟨u,hu,eQ⟩:=eQ;cases bZ:Ty.subs u.1 aa<;>simp only[bZ,cond_true,cond_false] at eQ
      ·cases eQ
      cases eQ;exact sfz _
     unfold core;rw[hd];simp only[bB,hr,hc];cases x with
     |func f=>exact absurd rfl (Oh f)
     |_=>simp only[eQ,hS]
    ·cases h
  ·rename_i XL cZ;cases hb:(lu o.op&&(pre C S gs o.op).isEmpty)<;>simp only[hb,cond_true,cond_false] at h
   ·cases h
   simp only[Bool.and_eq_true] at hb;split at h
   case h_2=>cases h
   rename_i r hr;cases dK:(pw r.1&&gy gs (some dst) r.2)<;>simp only[dK,cond_true,cond_false] at h
   ·cases h
   cases h;simp only[Bool.and_eq_true] at dK;have cM:nT C S gs o=[]:=by
        unfold nT;split
        ·rename_i x t e _;exact absurd e (XL x)
        ·rfl
   have iM:∀S':St,gV C (post C S' o) S'=some (S',[]):=fun S'=>by
        have:post C S' o=[]:=by
         unfold post;split
         ·rename_i x t e _;exact absurd e (XL x)
         ·rename_i T t e _;rw[e] at hb;simp[lu] at hb
         ·rename_i T x v e;rw[e] at hb;simp[lu] at hb
         ·rfl
        rw[this];rfl
   refine fin (by rw[cM,List.isEmpty_iff.1 hb.2];rfl) ?_ (iM _) (by rw[hd];exact dK.2);unfold core;rw[hd];simp only[hr,dK.1,cond_true]
 |none=>
  simp only[hd,Option.map_eq_some_iff] at h;obtain⟨l,h,rfl⟩:=h;have cu:lZ S o (.none:Sh)=S:=by unfold lZ;rw[hd]
  show nl C S ops o=some (lZ S o .none,l);rw[cu];have cM:nT C S gs o=[]:=by unfold nT;rw[hd];split<;>first|rfl|(rename_i hx;cases hx)
  unfold AR at h;split at h
  ·rename_i T x v bB;split at h
   case h_2=>cases h
   rename_i j ver size off jv;cases he:(bT S [] [v]).isEmpty<;>simp only[he,cond_true,cond_false] at h
   ·cases h
   simp only[Option.map_eq_some_iff] at h;obtain⟨r,hr,rfl⟩:=h;have hS:r.1=S:=by
        unfold ri at hr;split at hr
        case h_2=>cases hr
        rw[jv] at hr;simp only at hr;cases hv:Nat.beq ver (S.ver j)<;>simp only[hv,cond_true,cond_false] at hr
        ·cases hr
        split at hr
        ·revert hr;generalize (_&&_:Bool)=b;intro hr;cases b<;>simp only[cond_true,cond_false] at hr<;>cases hr;rfl
        ·revert hr;generalize (_&&_:Bool)=b;intro hr;cases b<;>simp only[cond_true,cond_false] at hr<;>cases hr;rfl
        ·cases hr
   refine fin ?_ ?_ ?_ rfl
   ·rw[cM,bB];simp only[pre,sA,jv,List.isEmpty_iff.1 he,List.map_nil,List.append_nil]
   ·unfold core;rw[hd];simp only[bB,hr];rw[←hS]
   ·unfold post;rw[bB];simp only[jv];rfl
  ·rename_i T m k v bB;cases he:(bT S [] [k,v]).isEmpty<;>simp only[he,cond_true,cond_false] at h
   ·cases h
   simp only[Option.map_eq_some_iff] at h;obtain⟨r,hr,rfl⟩:=h;have hS:r.1=S:=by
        unfold p7 at hr;split at hr
        ·rename_i K _ j ver _ _;cases hv:Nat.beq ver (S.ver j)<;>simp only[hv,cond_true,cond_false] at hr
         ·cases hr
         split at hr
         ·revert hr;generalize (_&&_:Bool)=b;intro hr;cases b<;>simp only[cond_true,cond_false] at hr<;>cases hr;rfl
         ·cases hr
        ·cases hr
   refine fin ?_ ?_ ?_ rfl
   ·rw[cM,bB];simp only[pre,sA,List.isEmpty_iff.1 he,List.map_nil,List.append_nil]
   ·unfold core;rw[hd];simp only[bB,hr];rw[←hS]
   ·unfold post;rw[bB];rfl
  ·rename_i x bB;cases h;refine fin ?_ ?_ ?_ rfl
   ·rw[cM,bB];rfl
   ·unfold core;rw[hd];simp only[bB]
   ·unfold post;rw[bB];rfl
  ·cases h
end
def eG (ops:Array Oper)(shs:List Sh)(l:List Nat)(f:Nat→Sh):Nat→Sh:=
 l.foldl (fun f i=>match(ops[i]?).bind (·.dst) with|some d=>bO f d (shs.getD i .none)|none=>f) f
def wH (C:Ctx)(S:St)(ops:Array Oper):Nat→Option (List (Sh×List PI))
 |0=>some []
 |k+1=>(wH C S ops k).bind fun q=>match ops[k]? with
  |some o=>(ru C (S.withR (eG ops (q.map (·.1)) (List.range k) S.r)) ops o).map fun r=>q++[r]
  |none=>none
def dc (ops:Array Oper):Nat→List Nat
 |0=>[]
 |k+1=>dc ops k++[match ops[k]? with
  |some o=>o.after.toList.foldr (fun e m=>bif Region.binds .any e then Nat.lor (Nat.lor (dt e.on) ((dc ops k).getD e.on 0)) m else m) 0
  |none=>0]
def aev (ops:Array Oper)(o:Oper):List Nat:=jU o.op++F3 ops o
def WC (ops:Array Oper)(nc:List (List Nat))(clo:List Nat)(i:Nat):Bool:=
 match ops[i]? with
 |some o=>(nc.getD i []).all (ar (clo.getD i 0))&&(o.after.toList.all fun e=> !Region.binds .any e||Nat.blt e.on i)&&
   (aev ops o).all fun t=>(List.range ops.size).all fun j=>match(ops[j]?).bind (·.dst) with
     |some d=> !Nat.beq d t||((Nat.blt j i&&ar (clo.getD i 0) j)||ar (clo.getD j 0) i)
     |none=>true
 |none=>false
def FX (ops:Array Oper)(i:Nat):Bool:=match ops[i]? with|some o=>o.after.toList.all fun e=> !Region.binds .any e||Nat.blt e.on i|none=>false
def AS (ops:Array Oper)(nc:List (List Nat))(clo:List Nat)(m:Nat):Bool:=(List.range m).all (WC ops nc clo)&&(List.range ops.size).all (FX ops)
def mZ (clo:List Nat):Nat→Nat
 |0=>0
 |k+1=>bif (List.range k).all (ar (clo.getD k 0)) then mZ clo k else k+1
theorem ae8 (clo:List Nat):∀k,mZ clo k≤k
 |0=>Nat.le_refl _
 |k+1=>by
  unfold mZ;cases(List.range k).all (ar (clo.getD k 0)) with
  |true=>exact Nat.le_succ_of_le (ae8 clo k)
  |false=>exact Nat.le_refl _
theorem ae7 (clo:List Nat):∀k i,mZ clo k≤i→i<k→∀j,j<i→ar (clo.getD i 0) j=true
 |0,i,_,h=>by omega
 |k+1,i,h1,h2=>by
  unfold mZ at h1;cases hb:(List.range k).all (ar (clo.getD k 0)) with
  |true=>
   rw[hb] at h1;by_cases e:i=k
   ·subst e;exact fun j hj=>List.all_eq_true.1 hb j (List.mem_range.2 hj)
   ·exact ae7 clo k i h1 (by omega)
  |false=>rw[hb] at h1;simp only[cond_false] at h1;omega
def WD (C:Ctx)(ops:Array Oper)(S:St):Option (St×List PI):=
 (wH C S ops (mZ (dc ops ops.size) ops.size)).bind fun q=>
    bif AS ops (nO (q.map (·.2)) (mZ (dc ops ops.size) ops.size)) (dc ops ops.size) (mZ (dc ops ops.size) ops.size) then
     (me C ops (List.range' (mZ (dc ops ops.size) ops.size) (ops.size-mZ (dc ops ops.size) ops.size)) (S.withR (eG ops (q.map (·.1)) (List.range (mZ (dc ops ops.size) ops.size)) S.r))).map fun r=>(r.1,(q.map (·.2)).flatten++r.2)
    else none
theorem Lf (ops:Array Oper)(shs:List Sh)(i:Nat)(l:List Nat)(f:Nat→Sh):eG ops shs (i::l) f=eG ops shs l (match(ops[i]?).bind (·.dst) with|some d=>bO f d (shs.getD i .none)|none=>f):=rfl
theorem Du {ops:Array Oper}{shs:List Sh}{t:Nat}:∀{l:List Nat} {f:Nat→Sh},(∀i,i∈l→(ops[i]?).bind (·.dst)≠some t)→eG ops shs l f t=f t
 |[],_,_=>rfl
 |i::l,f,h=>by
  rw[Lf,Du fun j hj=>h j (List.mem_cons_of_mem _ hj)];have:=h i (List.mem_cons_self ..);cases hd:(ops[i]?).bind (·.dst) with
  |none=>rfl
  |some d=>exact bf _ _ (fun e=>this (by rw[hd,e]))
def LU (ops:Array Oper):Prop:=∀(i j t:Nat),(ops[i]?).bind (·.dst)=some t→(ops[j]?).bind (·.dst)=some t→i=j
theorem Ld {ops:Array Oper}(ho:LU ops){shs:List Sh}{t i:Nat}(ht:(ops[i]?).bind (·.dst)=some t):∀{l:List Nat} {f:Nat→Sh},i∈l→eG ops shs l f t=shs.getD i .none
 |[],_,h=>nomatch h
 |j::l,f,h=>by
  rw[Lf];by_cases hl:i∈l
  ·exact Ld ho ht hl
  ·have e:i=j:=(List.mem_cons.1 h).resolve_right hl;subst e;rw[Du fun k hk e=>hl (by rw[ho i k t ht e];exact hk),ht];exact aP _ _ _
theorem aeY {ops:Array Oper}(ho:LU ops){shs Sj:List Sh}{l m:List Nat}{f:Nat→Sh}{t:Nat}(h1:∀i,(ops[i]?).bind (·.dst)=some t→(i∈l↔i∈m))(h2:∀i,i∈l→(ops[i]?).bind (·.dst)=some t→shs.getD i .none=Sj.getD i .none):eG ops shs l f t=eG ops Sj m f t:=by
 by_cases hh:∃i,i∈l∧(ops[i]?).bind (·.dst)=some t
 ·obtain⟨i,hi,ht⟩:=hh;rw[Ld ho ht hi,Ld ho ht ((h1 i ht).1 hi),h2 i hi ht]
 ·rw[Du fun i hi e=>hh ⟨i,hi,e⟩,Du fun i hi e=>hh ⟨i,(h1 i e).2 hi,e⟩]
theorem auV {ops:Array Oper}(h:(ops.toList.filterMap (·.dst)).Nodup):LU ops:=by
 intro i j t hi hj;rw[Option.bind_eq_some_iff] at hi hj;obtain⟨oi,h1,h2⟩:=hi;obtain⟨oj,h3,h4⟩:=hj;by_cases e:i=j
 ·exact e
 ·exact(tP.dst_once h h1 h3 h2 h4 e).elim
theorem Ns {C:Ctx}{S:St}{ops:Array Oper}:∀{k:Nat} {q:List (Sh×List PI)},wH C S ops k=some q→q.length=k∧∀i,i<k→∃o,ops[i]?=some o∧
 ru C (S.withR (eG ops (q.map (·.1)) (List.range i) S.r)) ops o=some ((q.map (·.1)).getD i .none,(q.map (·.2)).getD i [])
 |0,q,h=>by simp only[wH,Option.some.injEq] at h;subst h;exact⟨rfl,fun i hi=>by omega⟩
 |k+1,q,h=>by
  simp only[wH,Option.bind_eq_some_iff] at h;obtain⟨p,hp,h⟩:=h;split at h
  case h_2=>cases h
  rename_i o ho;simp only[Option.map_eq_some_iff] at h;obtain⟨r,hr,rfl⟩:=h;obtain⟨l1,aQ⟩:=Ns hp;have same:∀i,i≤k→eG ops ((p++[r]).map (·.1)) (List.range i) S.r=eG ops (p.map (·.1)) (List.range i) S.r:=by
   intro i hi;have key:∀(l:List Nat) (f:Nat→Sh),(∀j,j∈l→j<p.length)→eG ops ((p++[r]).map (·.1)) l f=eG ops (p.map (·.1)) l f:=by
    intro l
    induction l with
    |nil=>intro f _;rfl
    |cons j l ih=>
     intro f hl;have hj:=hl j (List.mem_cons_self ..);have e:((p++[r]).map (·.1)).getD j .none=(p.map (·.1)).getD j .none:=by
       rw[List.map_append,List.getD_eq_getElem?_getD,List.getElem?_append_left (by simpa using hj),←List.getD_eq_getElem?_getD]
     rw[Lf,Lf,e,ih _ fun m hm=>hl m (List.mem_cons_of_mem _ hm)]
   exact key _ _ fun j hj=>by have:=List.mem_range.1 hj;omega
  refine⟨by simp[l1],fun i hi=>?_⟩;by_cases e:i=k
  ·subst e;refine⟨o,ho,?_⟩;rw[same i (Nat.le_refl _),hr];have e1:((p++[r]).map (·.1)).getD i .none=r.1:=by
    rw[List.map_append,List.getD_eq_getElem?_getD,List.getElem?_append_right (by simp[l1])];simp[l1]
   have e2:((p++[r]).map (·.2)).getD i []=r.2:=by
    rw[List.map_append,List.getD_eq_getElem?_getD,List.getElem?_append_right (by simp[l1])];simp[l1]
   rw[e1,e2]
  ·obtain⟨o',h1,h2⟩:=aQ i (by omega);refine⟨o',h1,?_⟩;rw[same i (by omega),h2];have:i<p.length:=by omega
   simp only[List.map_append,List.getD_eq_getElem?_getD];rw[List.getElem?_append_left (by simpa using this),List.getElem?_append_left (by simpa using this)]
theorem FH (ops:Array Oper):∀k,(dc ops k).length=k
 |0=>rfl
 |k+1=>by simp[dc,FH ops k]
theorem VT (ops:Array Oper){k m i:Nat}(h:i<k)(hm:k≤m):(dc ops m).getD i 0=(dc ops k).getD i 0:=by
 induction m with
 |zero=>omega
 |succ m ih=>
  by_cases e:k=m+1
  ·rw[e]
  ·rw[←ih (by omega)];simp only[dc,List.getD_eq_getElem?_getD];rw[List.getElem?_append_left (by rw[FH];omega)]
theorem FI {ops:Array Oper}{N i m:Nat}{o:Oper}(hi:i<N)(ho:ops[i]?=some o)(ah:(o.after.toList.all fun e=> !Region.binds .any e||Nat.blt e.on i)=true)(h:ar ((dc ops N).getD i 0) m=true):
 ∃e,e∈o.after.toList∧Region.binds .any e=true∧(m=e.on∨ar ((dc ops N).getD e.on 0) m=true):=by
 rw[VT ops (k:=i+1) (by omega) (by omega)] at h
 have e1:(dc ops (i+1)).getD i 0=o.after.toList.foldr (fun e m=>bif Region.binds .any e then Nat.lor (Nat.lor (dt e.on) ((dc ops i).getD e.on 0)) m else m) 0:=by
  simp only[dc,List.getD_eq_getElem?_getD];rw[List.getElem?_append_right (by rw[FH];exact Nat.le_refl _),FH];simp[ho]
 rw[e1] at h;have aQ:=List.all_eq_true.1 ah;generalize o.after.toList=l at h aQ
 induction l with
 |nil=>rw[pZ] at h;simp at h
 |cons e l ih=>
  simp only[List.foldr_cons] at h;cases hb:Region.binds .any e<;>rw[hb] at h<;>simp only[cond_true,cond_false] at h
  ·obtain⟨e',h1,h2⟩:=ih h (fun x hx=>aQ x (List.mem_cons_of_mem _ hx));exact⟨e',List.mem_cons_of_mem _ h1,h2⟩
  ·rw[ei,ei,Bool.or_eq_true,Bool.or_eq_true] at h;have nF:e.on<i:=by
        have:=aQ e (List.mem_cons_self ..);rw[hb] at this;simpa [Nat.blt_eq] using this
   rcases h with(h|h)|h
   ·refine⟨e,List.mem_cons_self ..,hb,.inl ?_⟩;have:=gw 0 e.on m;have z:ar 0 m=false:=by rw[pZ];simp
    rw[ei,z,Bool.false_or,Bool.false_or,h] at this;exact(cB this.symm).symm
   ·refine⟨e,List.mem_cons_self ..,hb,.inr ?_⟩;rw[VT ops nF (by omega)];exact h
   ·obtain⟨e',h1,h2⟩:=ih h (fun x hx=>aQ x (List.mem_cons_of_mem _ hx));exact⟨e',List.mem_cons_of_mem _ h1,h2⟩
section
variable {C:Ctx} {S:St} {ρ:Env} {σ:Im} {own:Nat→Option Nat} {hv:Nat→Value} {w0:World} {σ0:Base} {A:Nat→Prop} {a:Act} {w:World} {n:Nat} {ids:List Nat} {Φ:aR}
theorem aew {ops:Array Oper}{listed:Array Bool}{E:Nat}(aK:listed.size=ops.size)(hl:∀i,listed.getD i false=ar E i)(i:Nat):i∈Region.ready .any ops listed↔i∈mW ops E:=by
 unfold Region.ready mW;simp only[List.mem_filter,List.mem_range];refine and_congr_right fun hi=>?_;have h1:listed.getD i true=ar E i:=by
  rw[←hl i];simp only[Array.getD_eq_getD_getElem?];rw[Array.getElem?_eq_getElem (by omega)];rfl
 have h2:ops[i]?=some ops[i]:=Array.getElem?_eq_getElem hi;rw[h1,h2];simp only[Option.map_some,Option.getD_some,←Array.all_toList,hl]
def sV (ops:Array Oper)(E:Nat):Nat→Prop:=fun t=>∃i o,ar E i=true∧ops[i]?=some o∧o.dst=some t
def pS (ops:Array Oper)(E:Nat):Nat:=((List.range ops.size).filter fun i=> !ar E i).length
theorem azN {ops:Array Oper}{E i:Nat}(hi:i<ops.size)(hb:ar E i=false):pS ops E=pS ops (Nat.lor E (dt i))+1:=by
 unfold pS;obtain⟨l1,l2,hl⟩:=List.append_of_mem (List.mem_range.2 hi);have bp:=List.nodup_range (n:=ops.size);rw[hl,List.nodup_append] at bp;obtain⟨_,h2,h3⟩:=bp;rw[List.nodup_cons] at h2;have g1:∀j,j∈l1→j≠i:=fun j hj=>h3 j hj i (List.mem_cons_self ..);have g2:∀j,j∈l2→j≠i:=fun j hj e=>h2.1 (e▸hj)
 have c:∀l:List Nat,(∀j,j∈l→j≠i)→(l.filter fun j=> !ar (Nat.lor E (dt i)) j)=l.filter fun j=> !ar E j:=by
  intro l hl;apply List.filter_congr;intro j hj;rw[gw,dU (fun e=>hl j hj e.symm),Bool.or_false]
 have dg:ar (Nat.lor E (dt i)) i=true:=by rw[gw,Nat.beq_refl,Bool.or_true]
 rw[hl];simp only[List.filter_append,List.filter_cons,c l1 g1,c l2 g2,hb,dg,Bool.not_true,Bool.not_false,if_true,Bool.false_eq_true,if_false,List.length_append,List.length_cons];omega
theorem anc {rd:Option Nat}(hC:CtxOK C σ0)(aY:dq C)(hΦ:cQ C Φ)(hY:m8 C Φ w0 σ0){a0:Act}(Bu:a0.tmps.size=n){ops:Array Oper}(au:pJ n ops=true)(fE:AX ops=true){m:Nat}(hm:m≤ops.size){q:List (Sh×List PI)}(hq:wH C S ops m=some q)
 (rI:AS ops (nO (q.map (·.2)) m) (dc ops ops.size) m=true) (xf:∀i,m≤i→i<ops.size→∀j,j<i→ar ((dc ops ops.size).getD i 0) j=true) {Q:Exit→Act→World→Prop} {ρ':Env}
 (hK:∀listed a' w',listed.size=ops.size→(∀i,listed.getD i false=decide (i<m))→SameBut (oF ops) a0 a'→Good C w0 σ0 (S.withR (eG ops (q.map (·.1)) (List.range m) S.r)) ρ' (j1 ops (List.range m)) a' w'→wpAnyIn (FR rd) 0 C.P .any ops Q (ops.size-m) listed a' w'):
 ∀(k E:Nat) (listed:Array Bool) (ρ:Env) (a:Act) (w:World),pS ops E=k→(∀j,ar E j=true→j<m)→(∀j,j<ops.size→ar E j=true→∀m,ar ((dc ops ops.size).getD j 0) m=true→ar E m=true)→listed.size=ops.size→(∀i,listed.getD i false=ar E i)→SameBut (oF ops) a0 a→
  Good C w0 σ0 (S.withR (eG ops (q.map (·.1)) ((List.range m).filter (ar E)) S.r)) ρ (sV ops E) a w→PI.runs Φ (dN (q.map (·.2)) (List.range m) E) ρ=some ρ'→wpAnyIn (FR rd) 0 C.P .any ops Q k listed a w:=by
 have GL:=au;simp only[pJ,Bool.and_eq_true] at au;have bp:=lS au.1;have Ou:=auV bp;obtain⟨hlen,aQ⟩:=Ns hq;unfold AS at rI;rw[Bool.and_eq_true] at rI
 have A4:∀i,i<ops.size→∀o,ops[i]?=some o→(o.after.toList.all fun e=> !Region.binds .any e||Nat.blt e.on i)=true:=by
  intro i hi o ho;have:=List.all_eq_true.1 rI.2 i (List.mem_range.2 hi);unfold FX at this;rw[ho] at this;exact this
 have arN:∀i,i<m→∀o,ops[i]?=some o→((nO (q.map (·.2)) m).getD i []).all (ar ((dc ops ops.size).getD i 0))=true∧
  ∀t,t∈aev ops o→∀j,j<ops.size→(ops[j]?).bind (·.dst)=some t→(j<i∧ar ((dc ops ops.size).getD i 0) j=true)∨ar ((dc ops ops.size).getD j 0) i=true:=by
  intro i hi o ho;have:=List.all_eq_true.1 rI.1 i (List.mem_range.2 hi);unfold WC at this;rw[ho] at this;simp only[Bool.and_eq_true] at this;refine⟨this.1.1,fun t ht j hj hd=>?_⟩;have:=List.all_eq_true.1 (List.all_eq_true.1 this.2 t ht) j (List.mem_range.2 hj);rw[hd] at this;simp only[Nat.beq_refl,Bool.not_true,Bool.false_or,Bool.or_eq_true,Bool.and_eq_true,Nat.blt_eq] at this;exact this
 have Ve:∀(k E:Nat) (listed:Array Bool) (ρ:Env) (a:Act) (w:World),(∀i,i<m→ar E i=true)→pS ops E=k→(∀j,ar E j=true→j<m)→listed.size=ops.size→(∀i,listed.getD i false=ar E i)→SameBut (oF ops) a0 a→
  Good C w0 σ0 (S.withR (eG ops (q.map (·.1)) ((List.range m).filter (ar E)) S.r)) ρ (sV ops E) a w→PI.runs Φ (dN (q.map (·.2)) (List.range m) E) ρ=some ρ'→wpAnyIn (FR rd) 0 C.P .any ops Q k listed a w:=by
  intro k E listed ρ a w iz hk uC aK hl hn hg aj;have hb:∀i,ar E i=decide (i<m):=by
   intro i;by_cases h:i<m
   ·rw[iz i h,decide_eq_true h]
   ·rw[decide_eq_false h];cases hb:ar E i with
    |false=>rfl
    |true=>exact absurd (uC i hb) h
  have NW:dN (q.map (·.2)) (List.range m) E=[]:=by
   unfold dN;rw[List.flatMap_eq_nil_iff];intro i hi;rw[iz i (List.mem_range.1 hi)];rfl
  rw[NW] at aj;simp only[PI.runs,Option.some.injEq] at aj;subst aj;have aqs:pS ops E=ops.size-m:=by
   unfold pS
   have key:∀N,m≤N→((List.range N).filter fun i=> !ar E i).length=N-m:=by
        intro N
        induction N with
        |zero=>intro _;simp
        |succ N ih=>
         intro hN;rw[List.range_succ,List.filter_append,List.length_append];by_cases h:m≤N
         ·rw[ih h];simp[hb N,Nat.not_lt.2 h];omega
         ·have:m=N+1:=by omega
          have e:(List.range N).filter (fun i=> !ar E i)=[]:=by
           rw[List.filter_eq_nil_iff];intro i hi;rw[iz i (by have:=List.mem_range.1 hi;omega)];simp
          have hN':ar E N=true:=iz N (by omega);rw[e];simp[hN'];omega
   exact key _ hm
  have ef:(List.range m).filter (ar E)=List.range m:=List.filter_eq_self.2 fun i hi=>iz i (List.mem_range.1 hi);rw[ef] at hg;have nI:sV ops E=j1 ops (List.range m):=by
   funext t;apply propext;constructor
   ·rintro⟨i,o,h1,h2,h3⟩;exact⟨i,o,List.mem_range.2 (uC i h1),h2,h3⟩
   ·rintro⟨i,o,h1,h2,h3⟩;exact⟨i,o,iz i (List.mem_range.1 h1),h2,h3⟩
  rw[nI] at hg;rw[←hk,aqs];exact hK listed a w aK (fun i=>by rw[hl i,hb i]) hn hg
 intro k
 induction k with
 |zero=>
  intro E listed ρ a w hk uC Gk aK hl hn hg aj;refine Ve 0 E listed ρ a w (fun i hi=>?_) hk uC aK hl hn hg aj;cases hb:ar E i with
  |true=>rfl
  |false=>
   have:i∈(List.range ops.size).filter fun i=> !ar E i:=List.mem_filter.2 ⟨List.mem_range.2 (by omega),by rw[hb];rfl⟩;unfold pS at hk;rw[List.length_eq_zero_iff.1 hk] at this;cases this
 |succ k ih=>
  intro E listed ρ a w hk uC Gk aK hl hn hg aj;by_cases iz:∀i,i<m→ar E i=true
  ·exact Ve (k+1) E listed ρ a w iz hk uC aK hl hn hg aj
  refine⟨fun he=>?_,fun i hi=>?_⟩
  ·
   obtain⟨i,hi,qo⟩:∃i,(i<m∧ar E i=false)∧∀j,j<i→ar E j=true:=by
        have hex:∃i,i<m∧ar E i=false:=by
         refine Classical.byContradiction fun fo=>iz fun i hi=>?_;cases hb:ar E i with
         |true=>rfl
         |false=>exact absurd ⟨i,hi,hb⟩ fo
        obtain⟨i,hi⟩:=hex
        induction i using Nat.strongRecOn with
        |ind i kr=>
         by_cases hh:∃j,j<i∧ar E j=false
         ·obtain⟨j,hj,hb⟩:=hh;exact kr j hj ⟨by omega,hb⟩
         ·refine⟨i,hi,fun j hj=>?_⟩;cases hb:ar E j with
          |true=>rfl
          |false=>exact absurd ⟨j,hj,hb⟩ hh
   have mw:i<ops.size:=by omega
   have ho:ops[i]?=some ops[i]:=Array.getElem?_eq_getElem mw;have cI:i∈mW ops E:=by
        unfold mW;simp only[List.mem_filter,List.mem_range,Bool.and_eq_true,Bool.not_eq_true',ho];refine⟨mw,hi.2,?_⟩;rw[List.all_eq_true];intro e gY;have:=List.all_eq_true.1 (A4 i mw _ ho) e gY;cases hb:Region.binds .any e with
        |false=>rfl
        |true=>
         rw[hb] at this;simp only[Bool.not_true,Bool.false_or,Nat.blt_eq] at this;rw[qo _ this];rfl
   rw[←aew aK hl,he] at cI;cases cI
  ·rw[aew aK hl] at hi;unfold mW at hi;simp only[List.mem_filter,List.mem_range,Bool.and_eq_true,Bool.not_eq_true'] at hi;obtain⟨bx,cY,rB⟩:=hi;have XP:ops[i]?=some ops[i]:=Array.getElem?_eq_getElem bx;generalize ops[i]=o at XP;have ho:=XP;rw[ho] at rB;simp only at rB;have o2:=A4 i bx o ho;have wQ:∀m,ar ((dc ops ops.size).getD i 0) m=true→ar E m=true:=by
        intro m hm;obtain⟨e,gj,jm,NV⟩:=FI bx ho o2 hm;have hE:ar E e.on=true:=by
         have:=List.all_eq_true.1 rB e gj
         rwa [jm,Bool.not_true,Bool.false_or] at this
        rcases NV with rfl|NV
        ·exact hE
        ·have nF:e.on<i:=by
          have:=List.all_eq_true.1 o2 e gj;rw[jm] at this;simpa [Nat.blt_eq] using this
         exact Gk e.on (by omega) hE m NV
   have jt:i<m:=by
        refine Classical.byContradiction fun fo=>iz fun j hj=>?_;exact wQ j (xf i (by omega) bx j (by omega))
   obtain⟨o',dB,jq⟩:=aQ i jt;rw[ho] at dB;cases dB;obtain⟨o1,o3⟩:=arN i jt o ho;have cZ:((nO (q.map (·.2)) m).getD i []).all (ar E)=true:=by
        rw[List.all_eq_true] at o1 ⊢;exact fun m hm=>wQ m (o1 m hm)
   have aqv:ru C (S.withR (eG ops (q.map (·.1)) ((List.range m).filter (ar E)) S.r)) ops o=some ((q.map (·.1)).getD i .none,(q.map (·.2)).getD i []):=by
        rw[←jq];refine ana (S:=S.withR (eG ops (q.map (·.1)) (List.range i) S.r)) fun t ht=>?_;refine aeY Ou (fun j hj=>?_) (fun _ _ _=>rfl);have dW:j<ops.size:=by
         rw[Option.bind_eq_some_iff] at hj;obtain⟨oj,h1,_⟩:=hj;exact(Array.getElem?_eq_some_iff.1 h1).1
        rw[List.mem_filter,List.mem_range,List.mem_range];rcases o3 t ht j dW hj with⟨h1,h2⟩|h1
        ·exact⟨fun _=>h1,fun _=>⟨by omega,wQ j h2⟩⟩
        ·constructor
         ·rintro⟨_,nz⟩;have:=Gk j dW nz i h1;rw[cY] at this;cases this
         ·intro rE;exfalso;have key:∀m j,j<ops.size→ar ((dc ops ops.size).getD j 0) m=true→m<j:=by
           intro m j
           induction j using Nat.strongRecOn with
           |ind j kr=>
            intro hj hm;have By:ops[j]?=some ops[j]:=Array.getElem?_eq_getElem hj;have p2:=A4 j hj _ By;obtain⟨e,e1,e2,e3⟩:=FI hj By p2 hm;have nF:e.on<j:=by
                have:=List.all_eq_true.1 p2 e e1;rw[e2] at this;simpa [Nat.blt_eq] using this
            rcases e3 with rfl|e3
            ·exact nF
            ·have:=kr e.on nF (by omega) e3;omega
          have:=key i j dW h1;omega
   have hcp:=am9 aqv;rw[aeC jt cY cZ,Option.bind_eq_some_iff] at aj;obtain⟨ρ1,hρ1,hρ2⟩:=aj;have um:∀d,o.dst=some d→¬sV ops E d∧d<a.tmps.size:=by
        intro d hd;refine⟨fun⟨i',o',dg,dB,eA⟩=>?_,?_⟩
        ·have aC:i'≠i:=fun e=>by subst e;rw[cY] at dg;cases dg
         exact tP.dst_once bp dB ho eA hd aC
        ·have:=List.all_eq_true.1 au.2 o (by simpa using Array.mem_of_getElem? ho);simp only[hd,Bool.and_eq_true] at this;rw[hn.size,Bu];simpa [Nat.blt_eq] using this.2
   have lF:qA o.op=true:=by
        have:=List.all_eq_true.1 au.2 o (by simpa using Array.mem_of_getElem? ho);simp only[Bool.and_eq_true] at this;exact this.1
   have hj:∀j want t,o.guard=some (j,want)→(ops[j]?).bind (·.dst)=some t→sV ops E t:=by
        intro j want t iI ht;rw[Option.bind_eq_some_iff] at ht;obtain⟨oj,h1,h2⟩:=ht;have rD:=List.all_eq_true.1 fE o (by simpa using Array.mem_of_getElem? ho);simp only[iI] at rD;obtain⟨e,gj,jm⟩:=List.any_eq_true.1 rD;simp only[Bool.and_eq_true] at jm;have h3:=List.all_eq_true.1 rB e gj;rw[jm.1] at h3;simp only[Bool.not_true,Bool.false_or] at h3;exact⟨j,oj,by rw[←cB jm.2];exact h3,h1,h2⟩
   have aqr:∀j,j<ops.size→ar (Nat.lor E (dt i)) j=true→∀m,ar ((dc ops ops.size).getD j 0) m=true→ar (Nat.lor E (dt i)) m=true:=by
        intro j hj nz m hm;rw[gw,Bool.or_eq_true] at nz;rw[gw,Bool.or_eq_true];rcases nz with nz|nz
        ·exact .inl (Gk j hj nz m hm)
        ·rw[←cB nz] at hm;exact .inl (wQ m hm)
   have main:=FJ (rd:=rd) (K:=wpAnyIn (FR rd) 0 C.P .any ops Q k (listed.setIfInBounds i true)) (Q:=Q) hg hC aY hΦ hY lF um hj hcp hρ1 (fun a' w' eO pf=>by
        have hA:(fun u=>sV ops E u∨o.dst=some u)=sV ops (Nat.lor E (dt i)):=by
         funext u;apply propext;constructor
         ·rintro(⟨i',o',h1,h2,h3⟩|h1)
          ·exact⟨i',o',by rw[gw,h1,Bool.true_or],h2,h3⟩
          ·exact⟨i,o,by rw[gw,Nat.beq_refl,Bool.or_true],ho,h1⟩
         ·rintro⟨i',o',h1,h2,h3⟩;rw[gw,Bool.or_eq_true] at h1;rcases h1 with h1|h1
          ·exact .inl ⟨i',o',h1,h2,h3⟩
          ·rw[←cB h1,ho] at h2;cases h2;exact .inr h3
        rw[hA] at eO;have hSt:lZ (S.withR (eG ops (q.map (·.1)) ((List.range m).filter (ar E)) S.r)) o ((q.map (·.1)).getD i .none)=S.withR (eG ops (q.map (·.1)) ((List.range m).filter (ar (Nat.lor E (dt i)))) S.r):=by
         have aqO:∀t,(lZ (S.withR (eG ops (q.map (·.1)) ((List.range m).filter (ar E)) S.r)) o ((q.map (·.1)).getD i .none)).r t=eG ops (q.map (·.1)) ((List.range m).filter (ar (Nat.lor E (dt i)))) S.r t:=by
          intro t;by_cases Gp:o.dst=some t
          ·have hb:(ops[i]?).bind (·.dst)=some t:=by rw[ho];exact Gp
           rw[Ld Ou hb (List.mem_filter.2 ⟨List.mem_range.2 jt,by rw[gw,Nat.beq_refl,Bool.or_true]⟩)];unfold lZ;rw[Gp];simp[St.setR,aP]
          ·have e1:(lZ (S.withR (eG ops (q.map (·.1)) ((List.range m).filter (ar E)) S.r)) o ((q.map (·.1)).getD i .none)).r t=eG ops (q.map (·.1)) ((List.range m).filter (ar E)) S.r t:=by
            unfold lZ;split
            ·rename_i d hd;exact bf _ _ (fun e=>Gp (by rw[hd,e]))
            ·rfl
           rw[e1];refine aeY Ou (fun j hj=>?_) (fun _ _ _=>rfl);have rE:¬i=j:=fun e=>by subst e;rw[ho] at hj;exact Gp hj
           rw[List.mem_filter,List.mem_filter,gw,dU rE,Bool.or_false]
         have:∀(X Y:St),X.o=Y.o→X.ver=Y.ver→(∀t,X.r t=Y.r t)→X=Y:=by
          intro X Y h1 h2 h3;cases X;cases Y;simp only at h1 h2 h3;subst h1 h2
          congr 1
          exact funext h3
         refine this _ _ ?_ ?_ aqO
         ·unfold lZ;split<;>rfl
         ·unfold lZ;split<;>rfl
        rw[hSt] at eO;refine ih _ _ ρ1 a' w' (by have:=azN bx cY;omega) (fun j hj=>by rw[gw,Bool.or_eq_true] at hj;rcases hj with hj|hj;exact uC j hj;rw[←cB hj];exact jt) aqr (by simpa using aK) (fun j=>?_) (hn.trans (pf.mono fun t e=>⟨o,by simpa using Array.mem_of_getElem? ho,e⟩)) eO hρ2;rw[gw];simp only[Array.getD_eq_getD_getElem?,Array.getElem?_setIfInBounds];by_cases cN:i=j
        ·subst cN;simp[aK,bx]
        ·rw[if_neg cN,dU cN,Bool.or_false,←hl j];simp only[Array.getD_eq_getD_getElem?])
   simp only[wpOpIn,ho];split
   ·rename_i hw;rw[if_pos hw] at main;exact main
   ·rename_i hw;rw[if_neg hw] at main;exact⟨fun _ _=>trivial,main⟩
theorem axq {rd:Option Nat}(hC:CtxOK C σ0)(aY:dq C)(hΦ:cQ C Φ)(hY:m8 C Φ w0 σ0){ops:Array Oper}(au:pJ n ops=true)(fE:AX ops=true)(A4:(List.range ops.size).all (FX ops)=true){m:Nat}
 (xf:∀i,m≤i→i<ops.size→∀j,j<i→ar ((dc ops ops.size).getD i 0) j=true) {Q:Exit→Act→World→Prop} {ρ':Env}:
 ∀(k i:Nat) {S:St} {ρ:Env} {a:Act} {w:World} {r:St×List PI} (listed:Array Bool),i+k=ops.size→m≤i→listed.size=ops.size→(∀j,listed.getD j false=decide (j<i))→a.tmps.size=n→
  Good C w0 σ0 S ρ (j1 ops (List.range i)) a w→me C ops (List.range' i k) S=some r→PI.runs Φ r.2 ρ=some ρ'→
  (∀a' w',SameBut (oF ops) a a'→Good C w0 σ0 r.1 ρ' (j1 ops (List.range ops.size)) a' w'→Q .normal a' w')→wpAnyIn (FR rd) 0 C.P .any ops Q k listed a w:=by
 have GL:=au;simp only[pJ,Bool.and_eq_true] at au;have bp:=lS au.1
 have L8:∀i,i<ops.size→∀o,ops[i]?=some o→(o.after.toList.all fun e=> !Region.binds .any e||Nat.blt e.on i)=true:=by
  intro i hi o ho;have:=List.all_eq_true.1 A4 i (List.mem_range.2 hi);unfold FX at this;rw[ho] at this;exact this
 have mem:∀(listed:Array Bool) (i j:Nat),listed.size=ops.size→(∀j,listed.getD j false=decide (j<i))→(j∈Region.ready .any ops listed↔(j<ops.size∧¬j<i∧∀o,ops[j]?=some o→(o.after.toList.all fun e=> !Region.binds .any e||decide (e.on<i))=true)):=by
  intro listed i j aK hl;unfold Region.ready;simp only[List.mem_filter,List.mem_range];refine and_congr_right fun hj=>?_;have h1:listed.getD j true=decide (j<i):=by
   rw[←hl j];simp only[Array.getD_eq_getD_getElem?];rw[Array.getElem?_eq_getElem (by omega)];rfl
  have h2:ops[j]?=some ops[j]:=Array.getElem?_eq_getElem hj;rw[h1,h2];simp only[Option.map_some,Option.getD_some,←Array.all_toList,hl,Bool.and_eq_true,Bool.not_eq_true',decide_eq_false_iff_not,Option.some.injEq,forall_eq']
 intro k
 induction k with
 |zero=>
  intro i S ρ a w r listed hik hmi aK hl hn hg hr aj hQ;simp only[List.range'_zero,me,Option.some.injEq] at hr;subst hr;rw[lX aj] at hQ;refine⟨?_,hQ a w (.refl _ _) ?_⟩
  ·rw[List.eq_nil_iff_forall_not_mem];intro j hj;rw[mem listed i j aK hl] at hj;exact hj.2.1 (by omega)
  ·have:i=ops.size:=by omega
   rw[←this];exact hg
 |succ k ih=>
  intro i S ρ a w r listed hik hmi aK hl hn hg hr aj hQ;have bx:i<ops.size:=by omega
  have ho:ops[i]?=some ops[i]:=Array.getElem?_eq_getElem bx;generalize ops[i]=o at ho;refine⟨fun he=>?_,fun i' dg=>?_⟩
  ·have:i∈Region.ready .any ops listed:=by
        rw[mem listed i i aK hl];refine⟨bx,by omega,fun o' dB=>?_⟩;rw[List.all_eq_true];intro e gY;have:=List.all_eq_true.1 (L8 i bx o' dB) e gY;cases hb:Region.binds .any e with
        |false=>rfl
        |true=>
         rw[hb] at this;simp only[Bool.not_true,Bool.false_or,Nat.blt_eq] at this;simpa using this
   rw[he] at this;cases this
  ·rw[mem listed i i' aK hl] at dg;obtain⟨h1,h2,h3⟩:=dg;obtain rfl:i'=i:=by
        refine Classical.byContradiction fun aC=>?_;have dB:ops[i']?=some ops[i']:=Array.getElem?_eq_getElem h1;have wQ:=xf i' (by omega) h1 i (by omega);have ah:∀m j,j<ops.size→ar ((dc ops ops.size).getD j 0) m=true→m<j:=by
         intro m j
         induction j using Nat.strongRecOn with
         |ind j kr=>
          intro hj hm;have By:ops[j]?=some ops[j]:=Array.getElem?_eq_getElem hj;have p2:=L8 j hj _ By;obtain⟨e,e1,e2,e3⟩:=FI hj By p2 hm;have nF:e.on<j:=by
           have:=List.all_eq_true.1 p2 e e1;rw[e2] at this;simpa [Nat.blt_eq] using this
          rcases e3 with rfl|e3
          ·exact nF
          ·have:=kr e.on nF (by omega) e3;omega
        obtain⟨e,e1,e2,e3⟩:=FI h1 dB (L8 i' h1 _ dB) wQ;have h4:=List.all_eq_true.1 (h3 _ dB) e e1;rw[e2] at h4;simp only[Bool.not_true,Bool.false_or,decide_eq_true_eq] at h4;rcases e3 with e3|e3
        ·omega
        ·have:=ah i e.on (by omega) e3;omega
   rw[List.range'_succ] at hr;simp only[me,ho] at hr;simp only[Option.bind_eq_some_iff,Option.map_eq_some_iff] at hr;obtain⟨r1,gk,q,hq,rfl⟩:=hr;simp only[mX,Option.bind_eq_some_iff] at aj;obtain⟨ρ1,hρ1,hρ2⟩:=aj;have um:∀d,o.dst=some d→¬j1 ops (List.range i') d∧d<a.tmps.size:=by
        intro d hd;refine⟨fun⟨i2,o2,uv,iK,df⟩=>?_,?_⟩
        ·have aC:i2≠i':=by have:=List.mem_range.1 uv;omega
         exact tP.dst_once bp iK ho df hd aC
        ·have:=List.all_eq_true.1 au.2 o (by simpa using Array.mem_of_getElem? ho);simp only[hd,Bool.and_eq_true] at this;rw[hn];simpa [Nat.blt_eq] using this.2
   have lF:qA o.op=true:=by
        have:=List.all_eq_true.1 au.2 o (by simpa using Array.mem_of_getElem? ho);simp only[Bool.and_eq_true] at this;exact this.1
   have hj:∀j want t,o.guard=some (j,want)→(ops[j]?).bind (·.dst)=some t→j1 ops (List.range i') t:=by
        intro j want t iI ht;rw[Option.bind_eq_some_iff] at ht;obtain⟨oj,h1,h2⟩:=ht;have rD:=List.all_eq_true.1 fE o (by simpa using Array.mem_of_getElem? ho);simp only[iI] at rD;obtain⟨e,gj,jm⟩:=List.any_eq_true.1 rD;simp only[Bool.and_eq_true] at jm;have h4:=List.all_eq_true.1 (h3 o ho) e gj;rw[jm.1] at h4;simp only[Bool.not_true,Bool.false_or,decide_eq_true_eq] at h4;exact⟨j,oj,List.mem_range.2 (by rw[←cB jm.2];exact h4),h1,h2⟩
   have main:=FJ (rd:=rd) (K:=wpAnyIn (FR rd) 0 C.P .any ops Q k (listed.setIfInBounds i' true)) (Q:=Q) hg hC aY hΦ hY lF um hj gk hρ1 (fun a' w' eO gF=>by
        have:(fun u=>j1 ops (List.range i') u∨o.dst=some u)=j1 ops (List.range (i'+1)):=by
         funext u;apply propext;constructor
         ·rintro(⟨i2,o2,h1,h2,h3⟩|h1)
          ·exact⟨i2,o2,List.mem_range.2 (by have:=List.mem_range.1 h1;omega),h2,h3⟩
          ·exact⟨i',o,List.mem_range.2 (by omega),ho,h1⟩
         ·rintro⟨i2,o2,g1,g2,g3⟩;by_cases e:i2=i'
          ·rw[e,ho] at g2;cases g2;exact .inr g3
          ·exact .inl ⟨i2,o2,List.mem_range.2 (by have:=List.mem_range.1 g1;omega),g2,g3⟩
        rw[this] at eO;refine ih (i'+1) _ (by omega) (by omega) (by simpa using aK) (fun j=>?_) (gF.size.trans hn) eO hq hρ2 (fun a2 w2 s2 g2=>hQ a2 w2 ((gF.mono fun t e=>⟨o,by simpa using Array.mem_of_getElem? ho,e⟩).trans s2) g2);simp only[Array.getD_eq_getD_getElem?,Array.getElem?_setIfInBounds];by_cases cN:i'=j
        ·subst cN;simp[aK,bx]
        ·rw[if_neg cN];have:=hl j;simp only[Array.getD_eq_getD_getElem?] at this;rw[this];by_cases ah:j<i'
         ·rw[decide_eq_true ah,decide_eq_true (by omega:j<i'+1)]
         ·rw[decide_eq_false ah,decide_eq_false (by omega:¬j<i'+1)])
   simp only[wpOpIn,ho];split
   ·rename_i hw;rw[if_pos hw] at main;exact main
   ·rename_i hw;rw[if_neg hw] at main;exact⟨fun _ _=>trivial,main⟩
end
def R1 (C:Ctx)(n:Nat)(ids:List Nat)(ops:Array Oper)(draw:Bool)(S:Snap):Option (Snap×List PI):=
 bif pJ n ops then
    bif draw then
     bif AX ops&&C.P.follows .mixedOrders then
        match WD C ops (S.st ids) with
        |some r=>some (⟨sX (eF r.1) r.1 S.rs (ops.toList.filterMap (·.dst)),ids.map fun j=>fX r.1 (r.1.o j)⟩,r.2)
        |none=>
        (kH C ops (List.range ops.size) (S.st ids)).bind fun X=>
         (Ds ops (Qx C ops n ids X (nO X ops.size)) ops.size [(0,⟨S.rs.map fun s=>jA (S.st ids) (bX s),ids.map fun j=>fX (S.st ids) ((S.st ids).o j)⟩)]).map fun T=>(⟨T.rs.map (eF (T.stO ids)),ids.map fun j=>fX (T.stO ids) ((T.stO ids).o j)⟩,X.flatten)
     else none
    else bif WQ ops then(me C ops (List.range ops.size) (S.st ids)).map fun r=>(⟨sX (eF r.1) r.1 S.rs (ops.toList.filterMap (·.dst)),ids.map fun j=>fX r.1 (r.1.o j)⟩,r.2) else none
 else none
def vI (ops:Array Oper)(E:Nat):Nat→Prop:=fun t=>∃i o,ar E i=true∧ops[i]?=some o∧o.dst=some t
section
variable {C:Ctx} {S:St} {ρ:Env} {σ:Im} {own:Nat→Option Nat} {hv:Nat→Value} {w0:World} {σ0:Base} {A:Nat→Prop} {a:Act} {w:World} {n:Nat} {ids:List Nat} {Φ:aR}
theorem R0 {ops:Array Oper}{listed:Array Bool}{E:Nat}(aK:listed.size=ops.size)(hl:∀i,listed.getD i false=ar E i)(i:Nat):i∈Region.ready .any ops listed↔i∈mW ops E:=by
 unfold Region.ready mW;simp only[List.mem_filter,List.mem_range];refine and_congr_right fun hi=>?_;have h1:listed.getD i true=ar E i:=by
  rw[←hl i];simp only[Array.getD_eq_getD_getElem?];rw[Array.getElem?_eq_getElem (by omega)];rfl
 have h2:ops[i]?=some ops[i]:=Array.getElem?_eq_getElem hi;rw[h1,h2];simp only[Option.map_some,Option.getD_some,←Array.all_toList,hl]
theorem aw0 {rd:Option Nat}(hC:CtxOK C σ0)(aY:dq C)(hΦ:cQ C Φ)(hY:m8 C Φ w0 σ0){a0:Act}(Bu:a0.tmps.size=n){ops:Array Oper}(au:pJ n ops=true)(fE:AX ops=true){X:List (List PI)}{Q:Exit→Act→World→Prop}{ρ':Env}:
 ∀(k:Nat) {L:List (Nat×Snap)} {T:Snap},Ds ops (Qx C ops n ids X (nO X ops.size)) k L=some T→
  (∀a' w',SameBut (oF ops) a0 a'→Good C w0 σ0 (T.stO ids) ρ' (fun t=>∃E,vI ops E t) a' w'→Q .normal a' w')→
  ∀(E:Nat) (U:Snap),(E,U)∈L→∀(listed:Array Bool) (ρ:Env) (a:Act) (w:World),listed.size=ops.size→(∀i,listed.getD i false=ar E i)→SameBut (oF ops) a0 a→
   Good C w0 σ0 (U.stO ids) ρ (vI ops E) a w→PI.runs Φ (dN X (List.range ops.size) E) ρ=some ρ'→wpAnyIn (FR rd) 0 C.P .any ops Q k listed a w:=by
 simp only[pJ,Bool.and_eq_true] at au;have bp:=lS au.1;intro k
 induction k with
 |zero=>
  intro L T hs hQ E U hm listed ρ a w aK hl hn hg aj;simp only[Ds] at hs;split at hs
  case h_2=>cases hs
  rename_i x;cases aQ:(List.range ops.size).all (ar x.1)<;>simp only[aQ,cond_true,cond_false] at hs
  ·cases hs
  cases hs;simp only[List.mem_singleton] at hm;subst hm;simp only at aQ hg hQ aj hl;have iz:=List.all_eq_true.1 aQ;have NW:dN X (List.range ops.size) E=[]:=by
   unfold dN;rw[List.flatMap_eq_nil_iff];intro i hi;rw[iz i hi];rfl
  rw[NW] at aj;simp only[PI.runs,Option.some.injEq] at aj;subst aj;refine⟨?_,hQ a w hn ?_⟩
  ·rw[List.eq_nil_iff_forall_not_mem];intro i hi;rw[R0 aK hl] at hi;unfold mW at hi;simp only[List.mem_filter,Bool.and_eq_true,Bool.not_eq_true'] at hi;rw[iz i hi.1] at hi;cases hi.2.1
  ·obtain⟨σ,own,hv,h⟩:=hg;exact⟨σ,own,hv,h.defers,h.ok,h.le,h.old,h.newc,h.newm,h.below,h.bw,h.owns,h.regs,h.objs,fun t gs s e=>⟨fun g hm=>⟨E,(h.opts t gs s e).1 g hm⟩,(h.opts t gs s e).2⟩,h.frame⟩
 |succ k ih=>
  intro L T hs hQ E U hm listed ρ a w aK hl hn hg aj;simp only[Ds,Option.bind_eq_some_iff] at hs;obtain⟨L',hL,hs⟩:=hs;obtain⟨_,cI⟩:=YJ hL;obtain⟨aC,OM⟩:=cI _ hm;refine⟨fun he=>?_,fun i hi=>?_⟩
  ·exfalso;refine aC ?_;rw[List.eq_nil_iff_forall_not_mem];intro i hi;rw[←R0 aK hl,he] at hi;cases hi
  ·rw[R0 aK hl] at hi;obtain⟨y,hy,hyL⟩:=OM i hi;unfold mW at hi;simp only[List.mem_filter,List.mem_range,Bool.and_eq_true,Bool.not_eq_true'] at hi;obtain⟨bx,cY,rB⟩:=hi;simp only[Qx] at hy;split at hy
   case h_2=>cases hy
   rename_i o ho;simp only[Option.bind_eq_some_iff] at hy;obtain⟨r,hr,hy⟩:=hy;cases hc:(PI.beqs r.2 (X.getD i [])&&((nO X ops.size).getD i []).all (ar E))<;>simp only[hc,cond_true,cond_false] at hy
   ·cases hy
   cases hy;simp only[Bool.and_eq_true] at hc;have hX:=PI.beqs_eq _ _ hc.1;rw[aeC bx cY hc.2,Option.bind_eq_some_iff] at aj;obtain⟨ρ1,hρ1,hρ2⟩:=aj;rw[←hX] at hρ1;rw[ho] at rB;simp only at rB;have um:∀d,o.dst=some d→¬vI ops E d∧d<a.tmps.size:=by
        intro d hd;refine⟨fun⟨i',o',dg,dB,eA⟩=>?_,?_⟩
        ·have aC:i'≠i:=fun e=>by subst e;rw[cY] at dg;cases dg
         exact tP.dst_once bp dB ho eA hd aC
        ·have:=List.all_eq_true.1 au.2 o (by simpa using Array.mem_of_getElem? ho);simp only[hd,Bool.and_eq_true] at this;rw[hn.size,Bu];simpa [Nat.blt_eq] using this.2
   have lF:qA o.op=true:=by
        have:=List.all_eq_true.1 au.2 o (by simpa using Array.mem_of_getElem? ho);simp only[Bool.and_eq_true] at this;exact this.1
   have hj:∀j want t,o.guard=some (j,want)→(ops[j]?).bind (·.dst)=some t→vI ops E t:=by
        intro j want t iI ht;rw[Option.bind_eq_some_iff] at ht;obtain⟨oj,h1,h2⟩:=ht;have rD:=List.all_eq_true.1 fE o (by simpa using Array.mem_of_getElem? ho);simp only[iI] at rD;obtain⟨e,gj,jm⟩:=List.any_eq_true.1 rD;simp only[Bool.and_eq_true] at jm;have h3:=List.all_eq_true.1 rB e gj;rw[jm.1] at h3;simp only[Bool.not_true,Bool.false_or] at h3;exact⟨j,oj,by rw[←cB jm.2];exact h3,h1,h2⟩
   have main:=FJ (rd:=rd) (K:=wpAnyIn (FR rd) 0 C.P .any ops Q k (listed.setIfInBounds i true)) (Q:=Q) hg hC aY hΦ hY lF um hj hr hρ1 (fun a' w' eO pf=>by
        have hA:(fun u=>vI ops E u∨o.dst=some u)=vI ops (Nat.lor E (dt i)):=by
         funext u;apply propext;constructor
         ·rintro(⟨i',o',h1,h2,h3⟩|h1)
          ·exact⟨i',o',by rw[gw,h1,Bool.true_or],h2,h3⟩
          ·exact⟨i,o,by rw[gw,Nat.beq_refl,Bool.or_true],ho,h1⟩
         ·rintro⟨i',o',h1,h2,h3⟩;rw[gw,Bool.or_eq_true] at h1;rcases h1 with h1|h1
          ·exact .inl ⟨i',o',h1,h2,h3⟩
          ·rw[←cB h1,ho] at h2;cases h2;exact .inr h3
        rw[hA] at eO
        refine ih hs hQ _ _ hyL _ ρ1 a' w' (by simpa using aK) (fun j=>?_) (hn.trans (pf.mono fun t e=>⟨o,by simpa using Array.mem_of_getElem? ho,e⟩)) (by
         have:=eO.snapO U.rs.length ids
         rw[show r.1.snapO U.rs.length ids=⟨sX (jA r.1) r.1 U.rs o.dst.toList,ids.map fun j=>fX r.1 (r.1.o j)⟩ from by
          unfold St.snapO;rw[Dw fun t ht=>?_];rw[VU hr t (fun e=>ht (by rw[e];simp))];rfl] at this
         exact this) hρ2
        rw[gw];simp only[Array.getD_eq_getD_getElem?,Array.getElem?_setIfInBounds];by_cases cN:i=j
        ·subst cN;simp[aK,bx]
        ·rw[if_neg cN,dU cN,Bool.or_false,←hl j];simp only[Array.getD_eq_getD_getElem?])
   simp only[wpOpIn,ho];split
   ·rename_i hw;rw[if_pos hw] at main;exact main
   ·rename_i hw;rw[if_neg hw] at main;exact⟨fun _ _=>trivial,main⟩
theorem aeS {ops:Array Oper}:∀{l:List Nat} {S:St} {X:List (List PI)},kH C ops l S=some X→X.length=l.length
 |[],S,X,h=>by simp only[kH,Option.some.injEq] at h;subst h;rfl
 |i::l,S,X,h=>by
  simp only[kH] at h;split at h
  case h_2=>cases h
  simp only[Option.bind_eq_some_iff,Option.map_eq_some_iff] at h;obtain⟨r,_,q,hq,rfl⟩:=h;simp[aeS hq]
theorem aeD (X:List (List PI)):dN X (List.range X.length) 0=X.flatten:=by
 have h0:∀i,ar 0 i=false:=fun i=>by rw[pZ];simp
 have key:∀(Y Z:List (List PI)),dN (Y++Z) (List.range' Y.length Z.length) 0=Z.flatten:=by
  intro Y Z
  induction Z generalizing Y with
  |nil=>rfl
  |cons z Z ih=>
   have:=ih (Y++[z]);simp only[List.append_assoc,List.singleton_append,List.length_append,List.length_cons,List.length_nil,Nat.zero_add] at this;rw[List.length_cons,List.range'_succ];have e:dN (Y++z::Z) (Y.length::List.range' (Y.length+1) Z.length) 0=(Y++z::Z).getD Y.length []++dN (Y++z::Z) (List.range' (Y.length+1) Z.length) 0:=by
        unfold dN;rw[List.flatMap_cons,h0];rfl
   rw[e,this,List.flatten_cons]
   congr 1
   simp[List.getD_eq_getElem?_getD]
 have:=key [] X;simp only[List.nil_append,List.length_nil] at this;rw[List.range_eq_range'];exact this
theorem awE (aY:dq C)(hΦ:cQ C Φ):LW C n ids Φ (R1 C n ids):=by
 intro id ops draw S r hr rd w0 σ0 ρ ρ' a w Q hC hY hn hg aj hQ;unfold R1 at hr;cases au:pJ n ops<;>simp only[au,cond_true,cond_false] at hr
 ·cases hr
 cases draw with
 |false=>
  simp only[cond_false] at hr;cases Xn:WQ ops<;>simp only[Xn,cond_true,cond_false] at hr
  ·cases hr
  simp only[Option.map_eq_some_iff] at hr;obtain⟨q,hq,rfl⟩:=hr;refine wpIn_region ?_
  have nI:j1 ops []=fun _=>False:=by
   funext t;apply propext;constructor
   ·rintro⟨i,o,h,_⟩;cases h
   ·intro h;exact h.elim
  refine tP hC aY hΦ hY au (List.range ops.size) [] (by simpa using List.nodup_range) (fun p i q o j want hl ho iI=>?_) hn (by rw[nI];exact hg) hq aj (fun a' w' gD eO=>hQ a' w' gD (by
   have:=eO.snapF S.rs.length ids
   rw[show q.1.snap S.rs.length ids=⟨sX (eF q.1) q.1 S.rs (ops.toList.filterMap (·.dst)),ids.map fun j=>fX q.1 (q.1.o j)⟩ from by
        unfold St.snap;rw[Dw fun t ht=>?_];rw[M2 hq t (fun i o hi ho e=>ht (List.mem_filterMap.2 ⟨o,by simpa using Array.mem_of_getElem? ho,e⟩))];show _=eF q.1 (bX (S.rs.getD t .none));cases S.rs.getD t .none<;>rfl] at this
   exact this))
  have hi:i<ops.size:=by
   have:i∈List.range ops.size:=by rw[hl];simp
   exact List.mem_range.1 this
  have hb:=List.all_eq_true.1 Xn i (List.mem_range.2 hi);rw[ho] at hb;simp only[iI,Nat.blt_eq] at hb;have hp:=List.pairwise_lt_range (n:=ops.size);have rF:j∈List.range ops.size:=List.mem_range.2 (by omega);rw[hl,List.pairwise_append] at hp;obtain⟨_,eC,_⟩:=hp;rw[List.pairwise_cons] at eC;rw[hl,List.mem_append] at rF;simp only[List.nil_append];rcases rF with hm|hm
  ·exact hm
  ·rcases List.mem_cons.1 hm with e|hm
   ·omega
   ·have:=eC.1 j hm;omega
 |true=>
  simp only[cond_true] at hr;cases fE:(AX ops&&C.P.follows .mixedOrders)<;>simp only[fE,cond_true,cond_false] at hr
  ·cases hr
  simp only[Bool.and_eq_true] at fE;have h0:∀i,ar 0 i=false:=fun i=>by rw[pZ];simp
  split at hr
  case h_1=>
   rename_i r jq;cases hr;generalize OR:mZ (dc ops ops.size) ops.size=m at*;unfold WD at jq;rw[OR] at jq;have arv:m≤ops.size:=OR▸ae8 _ _;have xf:∀i,m≤i→i<ops.size→∀j,j<i→ar ((dc ops ops.size).getD i 0) j=true:=OR▸ae7 _ _;rw[Option.bind_eq_some_iff] at jq;obtain⟨q,hq,jq⟩:=jq;cases rI:AS ops (nO (q.map (·.2)) m) (dc ops ops.size) m<;>simp only[rI,cond_true,cond_false] at jq
   ·cases jq
   rw[Option.map_eq_some_iff] at jq;obtain⟨r1,gk,rfl⟩:=jq;refine wpIn_region_any fE.2 ?_
   have nI:sV ops 0=fun _=>False:=by
        funext t;apply propext;constructor
        ·rintro⟨i,o,h,_⟩;rw[h0] at h;cases h
        ·intro h;exact h.elim
   have hlen:(q.map (·.2)).length=m:=by rw[List.length_map];exact(Ns hq).1
   have asz:pS ops 0=ops.size:=by
        unfold pS;have:((List.range ops.size).filter fun i=> !ar 0 i)=List.range ops.size:=List.filter_eq_self.2 fun i _=>by rw[h0];rfl
        rw[this,List.length_range]
   have mu:(List.range m).filter (ar 0)=[]:=List.filter_eq_nil_iff.2 fun i _=>by rw[h0];simp
   simp only[mX,Option.bind_eq_some_iff] at aj;obtain⟨ρ1,hρ1,hρ2⟩:=aj;have Ow:=rI;unfold AS at Ow;rw[Bool.and_eq_true] at Ow;refine anc (w0:=w0) (S:=S.st ids) hC aY hΦ hY hn au fE.1 arv hq rI xf (ρ':=ρ1) (fun listed a' w' aK hl gD eO=>?_) ops.size 0 _ ρ a _ asz (fun j hj=>by rw[h0] at hj;cases hj) (fun j _ hj=>by rw[h0] at hj;cases hj) (by simp) (fun i=>?_) (.refl _ _) ?_ ?_
   ·refine axq hC aY hΦ hY au fE.1 Ow.2 xf (ops.size-m) m listed (by omega) (Nat.le_refl _) aK hl (gD.size.trans hn) eO gk hρ2 (fun a2 w2 s2 g2=>hQ a2 w2 (gD.trans s2) (by
     have:=g2.snapF S.rs.length ids
     rw[show r1.1.snap S.rs.length ids=⟨sX (eF r1.1) r1.1 S.rs (ops.toList.filterMap (·.dst)),ids.map fun j=>fX r1.1 (r1.1.o j)⟩ from by
      unfold St.snap;rw[Dw fun t ht=>?_];rw[M2 gk t (fun i o hi ho e=>ht (List.mem_filterMap.2 ⟨o,by simpa using Array.mem_of_getElem? ho,e⟩))]
      have e1:eG ops (q.map (·.1)) (List.range m) (S.st ids).r t=(S.st ids).r t:=Du fun i hi e=>by
        rw[Option.bind_eq_some_iff] at e;obtain⟨o,ho,hd⟩:=e;exact ht (List.mem_filterMap.2 ⟨o,by simpa using Array.mem_of_getElem? ho,hd⟩)
      show eF _ (S.rs.getD t .none)=eF _ (eG ops (q.map (·.1)) (List.range m) (S.st ids).r t);rw[e1];show _=eF _ (bX (S.rs.getD t .none));cases S.rs.getD t .none<;>rfl] at this
     exact this))
   ·rw[h0];simp only[Array.getD_eq_getD_getElem?,Array.getElem?_replicate];split<;>rfl
   ·rw[nI,mu];exact hg.drew
   ·rw[←hlen,aeD];exact hρ1
  simp only[Option.bind_eq_some_iff,Option.map_eq_some_iff] at hr;obtain⟨X,hX,T,hT,rfl⟩:=hr;refine wpIn_region_any fE.2 ?_
  have nI:vI ops 0=fun _=>False:=by
   funext t;apply propext;constructor
   ·rintro⟨i,o,h,_⟩;rw[h0] at h;cases h
   ·intro h;exact h.elim
  have hlen:=aeS hX;rw[List.length_range] at hlen
  refine aw0 (w0:=w0) hC aY hΦ hY hn au fE.1 (ρ':=ρ') ops.size hT (fun a' w' gD eO=>hQ a' w' gD (by
   have:=eO.snapF T.rs.length ids
   rw[show(T.stO ids).snap T.rs.length ids=⟨T.rs.map (eF (T.stO ids)),ids.map fun j=>fX (T.stO ids) ((T.stO ids).o j)⟩ from by
        unfold St.snap;have:=Dw (g:=eF (T.stO ids)) (S:=T.stO ids) (rs:=T.rs) (ds:=[]) (fun t _=>rfl);rw[←this];rfl] at this
   exact this)) 0 _ (List.mem_singleton.2 rfl) _ ρ a _ (by simp) (fun i=>?_) (.refl _ _) ?_ ?_
  ·rw[h0];simp only[Array.getD_eq_getD_getElem?,Array.getElem?_replicate];split<;>rfl
  ·rw[nI];have:=(hg.drew).snapO S.rs.length ids
   rw[show(S.st ids).snapO S.rs.length ids=⟨S.rs.map fun s=>jA (S.st ids) (bX s),ids.map fun j=>fX (S.st ids) ((S.st ids).o j)⟩ from by
        unfold St.snapO
        have:=Dw (g:=fun s=>jA (S.st ids) (bX s)) (S:=S.st ids) (rs:=S.rs) (ds:=[]) (fun t _=>by
         show jA _ (bX (S.rs.getD t .none))=jA _ (bX (bX (S.rs.getD t .none)));cases S.rs.getD t .none<;>rfl)
        have h2:(fun t=>jA (S.st ids) (bX ((S.st ids).r t)))=fun t=>jA (S.st ids) ((S.st ids).r t):=by
         funext t;show jA _ (bX (bX (S.rs.getD t .none)))=jA _ (bX (S.rs.getD t .none));cases S.rs.getD t .none<;>rfl
        rw[h2] at this;rw[←this];rfl] at this
   exact this
  ·rw[←hlen,aeD];exact aj
end
end Cx
