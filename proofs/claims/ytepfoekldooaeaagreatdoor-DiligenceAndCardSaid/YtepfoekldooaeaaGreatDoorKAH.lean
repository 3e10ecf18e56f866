/-
  aI9: in bG order of bG text, and in every order jT ahR aKV allow.
-/
import Derived.Test.YtepfoekldooaeaaGreatDoorKAG
import Derived.Orders
set_option linter.unusedSimpArgs false
set_option linter.unusedVariables false
namespace Cx
open Go Go.RowKit
def kf (S:St):Sh→Sh
 |.opt gs s=>.opt gs (eW S s)
 |s=>eW S s
def St.snapO (n:Nat)(ids:List Nat)(S:St):Snap:=⟨(List.range n).map fun t=>kf S (S.r t),ids.map fun j=>gH S (S.o j)⟩
def Snap.stO (ids:List Nat)(s:Snap):St:=⟨fun t=>s.rs.getD t .none,fun j=>cZ ids s.os j,fun _=>0⟩
theorem rn (S:St)(s:Sh):∀gs s',eW S s≠.opt gs s':=by
 intro gs s' e;cases s<;>simp only[eW] at e<;>first|cases e|(revert e;cases Nat.beq _ _<;>intro e<;>cases e)|(revert e;cases List.all _ _<;>intro e<;>cases e)
section
variable {C:Ctx} {S:St} {ρ:Env} {σ:Im} {own:Nat→Option Nat} {hv:Nat→Value} {w0:World} {σ0:Base} {A:Nat→Prop} {a:Act} {w:World} {n:Nat} {ids:List Nat} {Φ:aU}
theorem azJ {s:Sh}{v:Value}{d:D}(h:aJ C S ρ σ hv s v d){T:St}(hT:T.ver=fun _=>0):aJ C T ρ σ hv (kf S s) v d:=by
 have hc:Compat S.norm hv T hv:=⟨fun j=>by rw[hT];exact Nat.zero_le _,fun _ _=>rfl⟩
 have key:∀s,aJ C S ρ σ hv s v d→aJ C T ρ σ hv (eW S s) v d:=fun s hs=>aJ.mono' (.refl σ) hc (rn S s) (Iv hs).1;cases s with
 |opt gs s=>exact⟨fun hh=>key s (h.1 hh),h.2⟩
 |_=>exact key _ h
theorem Good.snapO (h:Good C w0 σ0 S ρ A a w)(n:Nat)(ids:List Nat):Good C w0 σ0 ((S.snapO n ids).stO ids) ρ A a w:=by
 obtain⟨σ,own,hv,h⟩:=h;have h1:=h.norm;have hc:Compat S.norm hv ((S.snapO n ids).stO ids) hv:=⟨fun _=>Nat.le_refl _,fun _ _=>rfl⟩
 refine⟨σ,own,hv,h.defers,h.ok,h.le,h.old,h.newc,h.newm,h.below,h.bw,h.owns,fun t=>?_,fun j=>?_,fun t gs s e=>?_,?_⟩
 rotate_right
 ·obtain⟨t,fx,cx,f1,f5⟩:=h.frame;refine⟨t,fx,cx,f1,fun j hj=>f5 j ?_⟩;exact vf (fun j=>gH S (S.o j)) (fun ob=>ob=.tr→S.o j=.tr) (fun e=>by cases e) j adF ids hj
 ·show aJ C _ ρ σ hv (((List.range n).map fun t=>kf S (S.r t)).getD t .none) _ _;rw[List.getD_eq_getElem?_getD,List.getElem?_map];by_cases ht:t<n
  ·rw[List.getElem?_range ht];exact azJ (h.regs t) rfl
  ·rw[List.getElem?_eq_none (by simpa using ht)];trivial
 ·have ho:=(h1.objs j).mono (.refl σ) hc (w:=w) (w':=w) rfl rfl (fun k hk=>⟨hk,rfl⟩);exact vf (fun j=>gH S (S.o j)) (fun ob=>bX C _ ρ σ own hv w w0.heap.size j ob) trivial j ho ids
 ·change ((List.range n).map fun t=>kf S (S.r t)).getD t .none=.opt gs s at e;rw[List.getD_eq_getElem?_getD,List.getElem?_map] at e;by_cases ht:t<n
  ·rw[List.getElem?_range ht] at e;simp only[Option.map_some,Option.getD_some] at e;cases hs:S.r t with
   |opt bH s'=>
    rw[hs] at e;simp only[kf,Sh.opt.injEq] at e;obtain⟨rfl,rfl⟩:=e;exact⟨(h.opts t bH s' hs).1,rn S s'⟩
   |none=>rw[hs] at e;exact absurd e (rn S .none gs s)
   |yv=>rw[hs] at e;exact absurd e (rn S .yv gs s)
   |fclo f c=>rw[hs] at e;exact absurd e (rn S (.fclo f c) gs s)
   |dat t=>rw[hs] at e;exact absurd e (rn S (.dat t) gs s)
   |obj t u=>rw[hs] at e;exact absurd e (rn S (.obj t u) gs s)
   |ptr t u v=>rw[hs] at e;exact absurd e (rn S (.ptr t u v) gs s)
   |eptr t u v x=>rw[hs] at e;exact absurd e (rn S (.eptr t u v x) gs s)
  ·rw[List.getElem?_eq_none (by simpa using ht)] at e;cases e
theorem Good.snapF (h:Good C w0 σ0 S ρ A a w)(n:Nat)(ids:List Nat):Good C w0 σ0 ((S.snap n ids).st ids) ρ (fun _=>False) a w:=by
 obtain⟨σ,own,hv,h⟩:=h;exact⟨σ,own,hv,h.snap n ids⟩
theorem Good.drew (h:Good C w0 σ0 S ρ A a w):Good C w0 σ0 S ρ A a {w with drawn:=w.drawn+1}:=by
 obtain⟨σ,own,hv,h⟩:=h;refine⟨σ,own,hv,h.defers,⟨fun k o v e=>h.ok.c k o v e,fun k es e=>h.ok.m k es e⟩,h.le,h.old,h.newc,h.newm,h.below.drew,h.bw,h.owns,h.regs,fun j=>?_,h.opts,?_⟩
 rotate_right
 ·obtain⟨t,fx,cx,f1,f2⟩:=h.frame;exact⟨t,fx,cx,⟨σ0.keep _ _ _ _ _ f1.F (Below.drew (.refl _ _)) (fun _ _=>rfl),f1.own,f1.c,f1.m,f1.d⟩,f2⟩
 exact(h.objs j).mono (.refl σ) (.refl S hv) rfl rfl (fun k hk=>⟨hk,rfl⟩)
end
def tG (g:Sh→Sh)(S:St)(rs:List Sh)(ds:List Nat):List Sh:=(ds.foldl (fun l d=>l.set d (S.r d)) rs).map g
theorem YM (S:St):∀(ds:List Nat) (rs:List Sh),(ds.foldl (fun l d=>l.set d (S.r d)) rs).length=rs.length∧∀t,t<rs.length→(ds.foldl (fun l d=>l.set d (S.r d)) rs).getD t .none=if t∈ds then S.r t else rs.getD t .none
 |[],rs=>⟨rfl,fun t _=>by simp⟩
 |d::ds,rs=>by
  obtain⟨h1,h2⟩:=YM S ds (rs.set d (S.r d));simp only[List.length_set] at h1 h2;refine⟨h1,fun t ht=>?_⟩;rw[List.foldl_cons,h2 t ht];simp only[List.mem_cons,List.getD_eq_getElem?_getD,List.getElem?_set];by_cases hm:t∈ds
  ·simp[hm]
  ·by_cases e:d=t
   ·subst e;simp[hm,ht]
   ·have e':¬t=d:=fun h=>e h.symm;simp[hm,e,e']
theorem D1 {g:Sh→Sh}{S:St}{rs:List Sh}{ds:List Nat}(h:∀t,t∉ds→g (rs.getD t .none)=g (S.r t)):tG g S rs ds=(List.range rs.length).map fun t=>g (S.r t):=by
 obtain⟨h1,h2⟩:=YM S ds rs;unfold tG;apply List.ext_getElem?;intro t;simp only[List.getElem?_map];by_cases ht:t<rs.length
 ·have:=h2 t ht;rw[List.getD_eq_getElem?_getD,List.getElem?_eq_getElem (by omega)] at this;rw[List.getElem?_eq_getElem (by omega),List.getElem?_range ht];simp only[Option.getD_some,Option.map_some] at this ⊢;rw[this];by_cases hm:t∈ds
  ·simp[hm]
  ·simp only[hm,if_false];rw[h t hm]
 ·rw[List.getElem?_eq_none (by omega),List.getElem?_eq_none (by simpa using ht)];rfl
def Ci (E:Nat)(T:Snap):List (Nat×Snap)→Option (List (Nat×Snap))
 |[]=>some [(E,T)]
 |x::l=>bif Nat.beq x.1 E then(bif x.2.beq T then some (x::l) else none) else(Ci E T l).map (x::·)
def nD (ops:Array Oper)(E:Nat):List Nat:=
 (List.range ops.size).filter fun i=> !az E i&&(match ops[i]? with|some o=>o.after.toList.all fun e=> !Region.binds .any e||az E e.on|none=>false)
def RX (C:Ctx)(ops:Array Oper)(n:Nat)(ids:List Nat)(X:List (List PI))(nc:List (List Nat))(E:Nat)(T:Snap)(i:Nat):Option (Nat×Snap):=
 match ops[i]? with
 |some o=>(nU C (T.stO ids) ops o).bind fun r=>
  bif PI.beqs r.2 (X.getD i [])&&(nc.getD i []).all (az E) then some (Nat.lor E (dw i),⟨tG (kf r.1) r.1 T.rs o.dst.toList,ids.map fun j=>gH r.1 (r.1.o j)⟩) else none
 |none=>none
def D2 (one:Nat→Option (Nat×Snap)):List Nat→List (Nat×Snap)→Option (List (Nat×Snap))
 |[],acc=>some acc
 |i::l,acc=>(one i).bind fun x=>(Ci x.1 x.2 acc).bind fun acc=>D2 one l acc
def Cq (ops:Array Oper)(one:Nat→Snap→Nat→Option (Nat×Snap)):List (Nat×Snap)→List (Nat×Snap)→Option (List (Nat×Snap))
 |[],acc=>some acc
 |x::l,acc=>
  match nD ops x.1 with
  |[]=>none
  |rs=>(D2 (one x.1 x.2) rs acc).bind fun acc=>Cq ops one l acc
def DY (ops:Array Oper)(one:Nat→Snap→Nat→Option (Nat×Snap)):Nat→List (Nat×Snap)→Option Snap
 |0,L=>
  match L with
  |[x]=>bif (List.range ops.size).all (az x.1) then some x.2 else none
  |_=>none
 |k+1,L=>(Cq ops one L []).bind fun L=>DY ops one k L
theorem aaD {E:Nat}{T:Snap}:∀{l l':List (Nat×Snap)},Ci E T l=some l'→(E,T)∈l'∧∀x,x∈l→x∈l'
 |[],l',h=>by simp only[Ci,Option.some.injEq] at h;subst h;simp
 |x::l,l',h=>by
  simp only[Ci] at h;cases hb:Nat.beq x.1 E<;>simp only[hb,cond_true,cond_false] at h
  ·simp only[Option.map_eq_some_iff] at h;obtain⟨l2,h2,rfl⟩:=h;obtain⟨h3,h4⟩:=aaD h2;exact⟨List.mem_cons_of_mem _ h3,fun y hy=>(List.mem_cons.1 hy).elim (fun e=>e▸List.mem_cons_self ..) fun hm=>List.mem_cons_of_mem _ (h4 y hm)⟩
  ·cases hs:x.2.beq T<;>simp only[hs,cond_true,cond_false] at h
   ·cases h
   ·cases h;refine⟨?_,fun y hy=>hy⟩;have e1:=cL hb;have e2:=Snap.beq_eq _ _ hs;subst e1;subst e2;simp
theorem ahI {one:Nat→Option (Nat×Snap)}:∀{rs:List Nat} {acc zf:List (Nat×Snap)},D2 one rs acc=some zf→(∀x,x∈acc→x∈zf)∧∀i,i∈rs→∃x,one i=some x∧x∈zf
 |[],acc,zf,h=>by simp only[D2,Option.some.injEq] at h;subst h;simp
 |i::rs,acc,zf,h=>by
  simp only[D2,Option.bind_eq_some_iff] at h;obtain⟨x,hx,aiL,h1,h2⟩:=h;obtain⟨h3,h4⟩:=aaD h1;obtain⟨h5,h6⟩:=ahI h2;refine⟨fun y hy=>h5 y (h4 y hy),fun j hj=>?_⟩;rcases List.mem_cons.1 hj with e|hm
  ·subst e;exact⟨x,hx,h5 _ h3⟩
  ·exact h6 j hm
theorem aaY {ops:Array Oper}{one:Nat→Snap→Nat→Option (Nat×Snap)}:∀{L acc L':List (Nat×Snap)},Cq ops one L acc=some L'→
 (∀x,x∈acc→x∈L')∧∀x,x∈L→nD ops x.1≠[]∧∀i,i∈nD ops x.1→∃y,one x.1 x.2 i=some y∧y∈L'
 |[],acc,L',h=>by simp only[Cq,Option.some.injEq] at h;subst h;simp
 |x::L,acc,L',h=>by
  simp only[Cq] at h;split at h
  ·cases h
  ·rename_i aG;simp only[Option.bind_eq_some_iff] at h;obtain⟨aiL,h1,h2⟩:=h;obtain⟨h3,h4⟩:=ahI h1;obtain⟨h5,h6⟩:=aaY h2;refine⟨fun y hy=>h5 y (h3 y hy),fun y hy=>?_⟩;rcases List.mem_cons.1 hy with e|hm
   ·subst e;refine⟨fun e=>aG e,fun i hi=>?_⟩;obtain⟨z,hz,hm⟩:=h4 i hi;exact⟨z,hz,h5 z hm⟩
   ·exact h6 y hm
def dT (X:List (List PI))(l:List Nat)(E:Nat):List PI:=l.flatMap fun i=>bif az E i then[] else X.getD i []
theorem TV {X:List (List PI)}{E E':Nat}:∀(l:List Nat),(∀i,i∈l→az E i=az E' i)→dT X l E=dT X l E'
 |[],_=>rfl
 |i::l,h=>by
  have ih:=TV (X:=X) l fun j hj=>h j (List.mem_cons_of_mem _ hj);unfold dT at ih ⊢;simp only[List.flatMap_cons];rw[ih,h i (List.mem_cons_self ..)]
theorem Foot.comm_each {a b:List PI}(h:(gA a).comm (gA b)=true):∀p q,p∈a→q∈b→Comm p q:=by
 simp only[Foot.comm,Bool.and_eq_true] at h;obtain⟨h1,h2,h3,h4,h5,h6⟩:=h;intro p q hp hq;obtain⟨p1,p2,p3,p4⟩:=YN hp;obtain⟨q1,q2,q3,q4⟩:=YN hq;exact⟨fun t x y=>QC h1 (p1 t x) (q1 t y),fun t x y=>QC h2 (p1 t x) (q3 t y),fun t x y=>QC h3 (q1 t x) (p3 t y),fun t x y=>Nn h4 (p2 t x) (q2 t y),fun t x y=>Nn h5 (p2 t x) (q4 t y),fun t x y=>Nn h6 (q2 t x) (p4 t y)⟩
def oJ (X:List (List PI))(N:Nat):List (List Nat):=
 (List.range N).map fun i=>(List.range i).filter fun j=> !(gA (X.getD j [])).comm (gA (X.getD i []))
theorem gZ (E i j:Nat):az (Nat.lor E (dw i)) j=(az E j||Nat.beq i j):=by
 rw[eK]
 congr 1
 rw[qI];show(1<<<i).testBit j=_;rw[Nat.testBit_shiftLeft];by_cases h:i=j
 ·subst h;simp
 ·have h1:Nat.beq i j=false:=ez h;rw[h1];by_cases h2:i≤j
  ·have:j-i≠0:=by omega
   cases hk:j-i with
   |zero=>omega
   |succ k=>
    have:(1:Nat).testBit (k+1)=false:=by simp[Nat.testBit_succ]
    simp[this]
  ·simp[h2]
theorem ag8 {X:List (List PI)}{N E i:Nat}(hi:i<N)(hb:az E i=false)(df:((oJ X N).getD i []).all (az E)=true)(Φ:aU)(ρ:Env):
 PI.runs Φ (dT X (List.range N) E) ρ=(PI.runs Φ (X.getD i []) ρ).bind (PI.runs Φ (dT X (List.range N) (Nat.lor E (dw i)))):=by
 obtain⟨l1,l2,hl⟩:=List.append_of_mem (List.mem_range.2 hi);have hp:=List.pairwise_lt_range (n:=N);rw[hl,List.pairwise_append] at hp;obtain⟨_,eR,hp3⟩:=hp;rw[List.pairwise_cons] at eR;have lt1:∀j,j∈l1→j<i:=fun j hj=>hp3 j hj i (List.mem_cons_self ..);have lt2:∀j,j∈l2→i<j:=fun j hj=>eR.1 j hj;have e0:∀E,dT X (l1++i::l2) E=dT X l1 E++((bif az E i then[] else X.getD i [])++dT X l2 E):=fun E=>by simp[dT]
 have e1:dT X l1 (Nat.lor E (dw i))=dT X l1 E:=TV l1 fun j hj=>by
  rw[gZ,ez (by have:=lt1 j hj;omega),Bool.or_false]
 have e2:dT X l2 (Nat.lor E (dw i))=dT X l2 E:=TV l2 fun j hj=>by
  rw[gZ,ez (by have:=lt2 j hj;omega),Bool.or_false]
 have e3:az (Nat.lor E (dw i)) i=true:=by rw[gZ,Nat.beq_refl,Bool.or_true]
 rw[hl,e0,e0,e1,e2,e3,hb];simp only[cond_true,cond_false,List.nil_append]
 have avm:PI.runs Φ (dT X l1 E++X.getD i [])=PI.runs Φ (X.getD i []++dT X l1 E):=funext fun ρ=>PI.comms _ _ (fun p q hp hq=>by
  unfold dT at hp;obtain⟨j,hj,hp⟩:=List.mem_flatMap.1 hp;cases om:az E j<;>simp only[om,cond_true,cond_false] at hp
  case true=>cases hp
  have hc:(gA (X.getD j [])).comm (gA (X.getD i []))=true:=by
   cases gO:(gA (X.getD j [])).comm (gA (X.getD i [])) with
   |true=>rfl
   |false=>
    have m4:(oJ X N).getD i []=(List.range i).filter fun j=> !(gA (X.getD j [])).comm (gA (X.getD i [])):=by
     unfold oJ;rw[List.getD_eq_getElem?_getD,List.getElem?_map,List.getElem?_range hi];rfl
    rw[m4] at df;have:=List.all_eq_true.1 df j (List.mem_filter.2 ⟨List.mem_range.2 (lt1 j hj),by rw[gO];rfl⟩);rw[om] at this;cases this
  exact Foot.comm_each hc p q hp hq) ρ
 rw[←List.append_assoc,nG,avm];have:=nG (Φ:=Φ) (a:=X.getD i []) (b:=dT X l1 E) (ρ:=ρ);rw[this,Option.bind_assoc]
 congr 1
 funext ρ1;rw[nG]
def eH (C:Ctx)(ops:Array Oper):List Nat→St→Option (List (List PI))
 |[],_=>some []
 |i::l,S=>
  match ops[i]? with
  |some o=>(nU C S ops o).bind fun r=>(eH C ops l r.1).map fun q=>r.2::q
  |none=>none
def YV (ops:Array Oper):Bool:=(List.range ops.size).all fun i=>match ops[i]? with
 |some o=>(match o.guard with|some (j,_)=>Nat.blt j i|none=>true)
 |none=>true
def Bo (ops:Array Oper):Bool:=ops.toList.all fun o=>match o.guard with
 |some (j,_)=>o.after.toList.any fun e=>Region.binds .any e&&Nat.beq e.on j
 |none=>true
def bz:Operand→List Nat
 |.tmp t=>[t]
 |_=>[]
def yU:Option Operand→List Nat
 |some x=>bz x
 |none=>[]
def kP:Op→List Nat
 |.move x=>bz x
 |.assign x=>bz x
 |.unOp _ _ x=>bz x
 |.convert _ _ x=>bz x
 |.load _ x=>bz x
 |.fieldAddr _ x _=>bz x
 |.field _ x _=>bz x
 |.extract x _=>bz x
 |.nilCheck x=>bz x
 |.pick c x y=>bz c++bz x++bz y
 |.binOp _ _ x y _=>bz x++bz y
 |.indexAddr _ x i=>bz x++bz i
 |.index _ x i=>bz x++bz i
 |.lookup _ m k _=>bz m++bz k
 |.slice _ x lo hi _=>bz x++yU lo++yU hi
 |.build _ ps=>ps.toList.flatMap fun p=>bz p.2
 |.call c=>(match c.callee with|.value x=>bz x|_=>[])++c.args.toList.flatMap bz
 |.store _ x v=>bz x++bz v
 |.mapUpdate _ m k v=>bz m++bz k++bz v
 |_=>[]
def G7 (ops:Array Oper)(o:Oper):List Nat:=
 match o.guard with
 |some (j,_)=>(match(ops[j]?).bind (·.dst) with|some t=>[t]|none=>[])
 |none=>[]
def St.withR (S:St)(f:Nat→Sh):St:=⟨f,S.o,S.ver⟩
section
variable {C:Ctx} {S:St} {f:Nat→Sh} {gs:List (Nat×Bool)} {dst:Nat}
theorem yO {t:Nat}(h:f t=S.r t):kA (S.withR f) gs t=kA S gs t:=by
 have e:(S.withR f).r t=S.r t:=h;unfold kA;rw[e]
theorem tE {x:Operand}(h:∀t,t∈bz x→f t=S.r t):gf (S.withR f) gs x=gf S gs x:=by
 cases x<;>first|rfl|exact yO (h _ (List.mem_singleton.2 rfl))
theorem dD {x:Operand}(h:∀t,t∈bz x→f t=S.r t):use C (S.withR f) gs x=use C S gs x:=by
 cases x<;>first|rfl|(unfold use;simp only;rw[yO (h _ (List.mem_singleton.2 rfl))];rfl)
theorem aib {x:Operand}(h:∀t,t∈bz x→f t=S.r t):view C (S.withR f) gs x=view C S gs x:=by
 unfold view;rw[dD h];cases x<;>first|rfl|(simp only;rw[yO (h _ (List.mem_singleton.2 rfl))];rfl)
theorem WO:∀{xs:List Operand},(∀t,t∈xs.flatMap bz→f t=S.r t)→kZ C (S.withR f) gs xs=kZ C S gs xs
 |[],_=>rfl
 |x::xs,h=>by
  simp only[kZ]
  rw[dD fun t ht=>h t (List.mem_flatMap.2 ⟨x,List.mem_cons_self ..,ht⟩),WO fun t ht=>by
   obtain⟨y,hy,rf⟩:=List.mem_flatMap.1 ht;exact h t (List.mem_flatMap.2 ⟨y,List.mem_cons_of_mem _ hy,rf⟩)]
theorem aGt {x:Option Operand}(h:∀t,t∈yU x→f t=S.r t):Eb C (S.withR f) gs x=Eb C S gs x:=by
 cases x with
 |none=>rfl
 |some x=>exact dD h
theorem aGr {e:PE}{x:Option Operand}(h:∀t,t∈yU x→f t=S.r t):Ea C (S.withR f) gs e x=Ea C S gs e x:=by
 cases x with
 |none=>rfl
 |some x=>exact dD h
theorem qa:∀{xs:List Operand},(∀t,t∈xs.flatMap bz→f t=S.r t)→bZ (S.withR f) gs xs=bZ S gs xs
 |[],_=>rfl
 |x::xs,h=>by
  simp only[bZ]
  rw[tE fun t ht=>h t (List.mem_flatMap.2 ⟨x,List.mem_cons_self ..,ht⟩),qa fun t ht=>by
   obtain⟨y,hy,rf⟩:=List.mem_flatMap.1 ht;exact h t (List.mem_flatMap.2 ⟨y,List.mem_cons_of_mem _ hy,rf⟩)]
  rfl
theorem XO:∀(l:List Sh) (j i:Nat),qJ (S.withR f) j l i=qJ S j l i
 |[],_,_=>rfl
 |s::l,j,i=>by simp only[qJ];rw[XO l j (i+1)];rfl
theorem iJ {P:Nat→Prop}{a b:List Nat}(h:∀t,t∈a++b→P t):(∀t,t∈a→P t)∧∀t,t∈b→P t:=
 ⟨fun t ht=>h t (List.mem_append_left _ ht),fun t ht=>h t (List.mem_append_right _ ht)⟩
theorem afi {x:Operand}(h:∀t,t∈bz x→f t=S.r t):oM C (S.withR f) gs dst x=oM C S gs dst x:=by
 unfold oM;rw[dD h];cases x<;>first|rfl|(simp only;rw[yO (h _ (List.mem_singleton.2 rfl))])
theorem aAQ {c x y:Operand}(h:∀t,t∈bz c++bz x++bz y→f t=S.r t):ya C (S.withR f) gs dst c x y=ya C S gs dst c x y:=by
 obtain⟨h1,h3⟩:=iJ h;obtain⟨h1,h2⟩:=iJ h1;unfold ya;cases c<;>first|rfl|skip
 simp only;rw[yO (h1 _ (List.mem_singleton.2 rfl)),dD h2,dD h3]
theorem aAr {op:BinOp}{T:TypeId}{x y:Operand}(h:∀t,t∈bz x++bz y→f t=S.r t):xQ C (S.withR f) gs dst op T x y=xQ C S gs dst op T x y:=by
 obtain⟨h1,h2⟩:=iJ h;unfold xQ;rw[dD h1,dD h2]
theorem aAV {op:UnOp}{x:Operand}(h:∀t,t∈bz x→f t=S.r t):yc C (S.withR f) gs dst op x=yc C S gs dst op x:=by unfold yc;rw[dD h]
theorem aAv {s d:TypeId}{x:Operand}(h:∀t,t∈bz x→f t=S.r t):xS C (S.withR f) gs dst s d x=xS C S gs dst s d x:=by unfold xS;rw[dD h]
theorem aAI {T:TypeId}{x:Operand}(h:∀t,t∈bz x→f t=S.r t):xY C (S.withR f) gs dst T x=xY C S gs dst T x:=by unfold xY;rw[aib h]
theorem afg {b:Bool}{x y:Operand}(h:∀t,t∈bz x++bz y→f t=S.r t):vq C (S.withR f) gs dst b x y=vq C S gs dst b x y:=by
 obtain⟨h1,h2⟩:=iJ h;unfold vq;rw[dD h1,dD h2]
theorem aAK {T:TypeId}{x:Operand}(h:∀t,t∈bz x→f t=S.r t):sW C (S.withR f) gs dst T x=sW C S gs dst T x:=by
 unfold sW;rw[tE h,dD h];simp only[XO];rfl
theorem aAz {T:TypeId}{x:Operand}{i:Nat}(h:∀t,t∈bz x→f t=S.r t):xV C (S.withR f) gs dst T x i=xV C S gs dst T x i:=by
 unfold xV;rw[tE h,dD h];rfl
theorem aAB {T:TypeId}{x:Operand}{i:Nat}(h:∀t,t∈bz x→f t=S.r t):xU C (S.withR f) gs dst T x i=xU C S gs dst T x i:=by unfold xU;rw[dD h]
theorem aAE {T:TypeId}{x i:Operand}(h:∀t,t∈bz x++bz i→f t=S.r t):xX C (S.withR f) gs dst T x i=xX C S gs dst T x i:=by
 obtain⟨h1,h2⟩:=iJ h;unfold xX;rw[dD h1,dD h2,tE h1];rfl
theorem aAG {T:TypeId}{x i:Operand}(h:∀t,t∈bz x++bz i→f t=S.r t):xW C (S.withR f) gs dst T x i=xW C S gs dst T x i:=by
 obtain⟨h1,h2⟩:=iJ h;unfold xW;rw[dD h1,dD h2]
theorem aAx {x:Operand}{i:Nat}(h:∀t,t∈bz x→f t=S.r t):xT C (S.withR f) gs dst x i=xT C S gs dst x i:=by unfold xT;rw[dD h]
theorem aAM {T:TypeId}{m k:Operand}{ok:Bool}(h:∀t,t∈bz m++bz k→f t=S.r t):xZ C (S.withR f) gs dst T m k ok=xZ C S gs dst T m k ok:=by
 obtain⟨h1,h2⟩:=iJ h;unfold xZ;rw[aib h1,dD h2]
theorem aAT {T:TypeId}{x:Operand}{lo hi mx:Option Operand}(h:∀t,t∈bz x++yU lo++yU hi→f t=S.r t):yb C (S.withR f) gs dst T x lo hi mx=yb C S gs dst T x lo hi mx:=by
 obtain⟨h1,h3⟩:=iJ h;obtain⟨h1,h2⟩:=iJ h1;unfold yb;rw[dD h1];simp only[aGt h2,aGr h3]
theorem XF {zs:List Value}{parts:List (Nat×Operand)}(h:∀t,t∈(parts.flatMap fun p=>bz p.2)→f t=S.r t):∀(fs:List Field) (i off:Nat),jZ C (S.withR f) gs zs parts fs i off=jZ C S gs zs parts fs i off
 |[],_,_=>rfl
 |g::fs,i,off=>by
  simp only[jZ,XF h fs];cases hp:parts.find? (fun p=>Nat.beq p.1 i) with
  |none=>rfl
  |some p=>
   have hu:use C (S.withR f) gs p.2=use C S gs p.2:=dD fun t ht=>h t (List.mem_flatMap.2 ⟨p,List.mem_of_find?_eq_some hp,ht⟩);simp only[hu]
theorem aAt {T:TypeId}{ps:List (Nat×Operand)}(h:∀t,t∈(ps.flatMap fun p=>bz p.2)→f t=S.r t):xR C (S.withR f) gs dst T ps=xR C S gs dst T ps:=by
 unfold xR;simp only[XF h];split
 ·rfl
 ·split
  ·split
   ·rename_i x y;rw[dD (x:=x) fun t ht=>h t (by simp[ht]),dD (x:=y) fun t ht=>h t (by simp[ht])]
   ·rfl
  ·rfl
 ·rfl
theorem aAO {x:Operand}(h:∀t,t∈bz x→f t=S.r t):x9 C (S.withR f) gs dst x=x9 C S gs dst x:=by
 unfold x9;rw[dD h];cases x<;>first|rfl|(simp only;rw[yO (h _ (List.mem_singleton.2 rfl))];rfl)
def l9:Op→Bool
 |.move _|.pick ..|.binOp ..|.unOp ..|.convert ..|.load ..|.fieldAddr ..|.field ..|.indexAddr ..|.index ..|.extract ..|.lookup ..|.slice ..|.build ..|.nilCheck _|.makeInterface ..|.call _=>true
 |_=>false
theorem afk {op:Op}(hq:l9 op=true)(h:∀t,t∈kP op→f t=S.r t):nl C (S.withR f) gs dst op=nl C S gs dst op:=by
 cases op<;>simp only[l9] at hq<;>simp only[kP] at h<;>simp only[nl]
 case move=>exact afi h
 case pick=>exact aAQ h
 case binOp=>exact aAr h
 case unOp=>exact aAV h
 case convert=>exact aAv h
 case load=>exact aAK h
 case fieldAddr=>exact aAz h
 case field=>exact aAB h
 case indexAddr=>exact aAE h
 case index=>exact aAG h
 case extract=>exact aAx h
 case lookup=>exact aAM h
 case slice=>exact aAT h
 case build=>exact aAt h
 case nilCheck=>exact aAO h
 case call c=>
  obtain⟨_,h2⟩:=iJ h;split
  ·rename_i x T _ ha _;exact aAI fun t ht=>h2 t (by rw[ha];simp[ht])
  ·rename_i x y _ ha;exact afg fun t ht=>h2 t (by rw[ha];simpa using ht)
  ·rename_i x y _ ha;exact afg fun t ht=>h2 t (by rw[ha];simpa using ht)
  ·rfl
 all_goals (cases hq;done)
theorem aBo {op:Op}(h:∀t,t∈kP op→f t=S.r t)(hq:l9 op=true):sY (S.withR f) gs op=sY S gs op:=by
 cases op<;>simp only[l9] at hq<;>simp only[kP] at h<;>simp only[sY]
 case build T ps=>exact qa fun t ht=>h t (by
  obtain⟨x,hx,Qr⟩:=List.mem_flatMap.1 ht;obtain⟨p,hp,rfl⟩:=List.mem_map.1 hx;exact List.mem_flatMap.2 ⟨p,hp,Qr⟩)
 case pick c x y=>
  obtain⟨h1,h3⟩:=iJ h;obtain⟨h1,h2⟩:=iJ h1;refine qa fun t ht=>?_;simp only[List.flatMap_cons,List.flatMap_nil,List.append_nil,List.mem_append] at ht;exact ht.elim (h2 t) (h3 t)
 case slice T x lo hi mx=>
  obtain⟨h1,h3⟩:=iJ h;obtain⟨h1,h2⟩:=iJ h1;exact qa fun t ht=>h1 t (by simpa using ht)
 all_goals first|rfl|(cases hq;done)
theorem aBp {op:Op}(h:∀t,t∈kP op→f t=S.r t)(hq:l9 op=true):pre C (S.withR f) gs op=pre C S gs op:=by
 have uM:=hq;cases op<;>simp only[l9] at hq<;>simp only[pre,aBo h uM]
 case load T x=>simp only[kP] at h;rw[tE h];rfl
 all_goals first|(cases hq;done)|skip
theorem auF {ops:Array Oper}{o:Oper}(h:∀t,t∈G7 ops o→f t=S.r t):og (S.withR f) ops o=og S ops o:=by
 unfold og;cases hg:o.guard with
 |none=>rfl
 |some jw=>
  obtain⟨j,want⟩:=jw;simp only;cases ht:(ops[j]?).bind (·.dst) with
  |none=>rfl
  |some t=>
   simp only;have:(S.withR f).r t=S.r t:=h t (by unfold G7;rw[hg];simp[ht]);rw[this]
end
def Bh (C:Ctx)(S:St)(gs:List (Nat×Bool))(dst:Nat)(op:Op):Option (Sh×List PI):=
 match op with
 |.assign x=>
  match gs with
  |[]=>bif C.fr.any (Nat.beq dst)&&(bZ S [] [x]).isEmpty then(match oM C S [] dst x with|some r=>bif mz r.1 then some r else none|none=>none) else none
  |_=>none
 |.call c=>
  match nl C S gs dst (.call c) with
  |some r=>bif p9 r.1&&hH gs (some dst) r.2 then some (hG gs r.1,r.2) else none
  |none=>
   bif (bZ S gs c.args.toList).isEmpty then
    match c.callee with
    |.value (.func f)=>(match nX C S gs dst f c.args.toList with|some r=>bif hH gs (some dst) r.2.2 then some (hG gs r.2.1,r.2.2) else none|none=>none)
    |.value x=>(match mV C S gs dst x c.args.toList with|some r=>bif hH gs (some dst) r.2.2 then some (hG gs r.2.1,r.2.2) else none|none=>none)
    |_=>none
   else none
 |op=>bif l9 op&&(pre C S gs op).isEmpty then(match nl C S gs dst op with|some r=>bif p9 r.1&&hH gs (some dst) r.2 then some (hG gs r.1,r.2) else none|none=>none) else none
def Bi (C:Ctx)(S:St)(gs:List (Nat×Bool))(op:Op):Option (List PI):=
 match op,gs with
 |.store T x v,[]=>
  match gf S [] x with
  |.eptr ..=>bif (bZ S [] [v]).isEmpty then(sc C S T x v).map (·.2) else none
  |_=>none
 |.mapUpdate T m k v,[]=>bif (bZ S [] [k,v]).isEmpty then(qL C S T m k v).map (·.2) else none
 |.panic _,[]=>some [.chk (.nt (.con (.bool true)))]
 |_,_=>none
def sl (C:Ctx)(S:St)(ops:Array Oper)(o:Oper):Option (Sh×List PI):=
 match C.yl with
 |some _=>none
 |none=>(og S ops o).bind fun gs=>
  match o.dst with
  |some dst=>Bh C S gs dst o.op
  |none=>(Bi C S gs o.op).map fun l=>(.none,l)
def mP (S:St)(o:Oper)(s:Sh):St:=match o.dst with|some d=>S.setR d s|none=>S
section
variable {C:Ctx} {S:St} {f:Nat→Sh} {gs:List (Nat×Bool)} {dst:Nat}
theorem aqb {g:Nat}{xs:List Operand}(h:∀t,t∈xs.flatMap bz→f t=S.r t)(he:(bZ S gs xs).isEmpty=true):
 (match nX C (S.withR f) gs dst g xs with|some r=>bif hH gs (some dst) r.2.2 then some (hG gs r.2.1,r.2.2) else none|none=>none)=(match nX C S gs dst g xs with|some r=>bif hH gs (some dst) r.2.2 then some (hG gs r.2.1,r.2.2) else none|none=>none):=by
 have ho:=qa (gs:=gs) h;have kK:=List.isEmpty_iff.1 he;unfold nX;cases C.sig g with
 |none=>rfl
 |some s=>
  simp only[Option.bind_some];cases s.mode<;>first|rfl|skip
  simp only[ho,kK,St.fzs,List.foldl_nil,WO h];cases kZ C S gs xs with
  |none=>rfl
  |some u=>
   simp only[Option.bind_some];cases Ty.subs u.1 s.args<;>rfl
theorem ap6 {x:Operand}{xs:List Operand}(hx:∀t,t∈bz x→f t=S.r t)(h:∀t,t∈xs.flatMap bz→f t=S.r t)(he:(bZ S gs xs).isEmpty=true):
 (match mV C (S.withR f) gs dst x xs with|some r=>bif hH gs (some dst) r.2.2 then some (hG gs r.2.1,r.2.2) else none|none=>none)=(match mV C S gs dst x xs with|some r=>bif hH gs (some dst) r.2.2 then some (hG gs r.2.1,r.2.2) else none|none=>none):=by
 have ho:=qa (gs:=gs) h;have kK:=List.isEmpty_iff.1 he;unfold mV;rw[dD hx];cases use C S gs x with
 |none=>rfl
 |some y=>
  obtain⟨ty,e⟩:=y;cases ty with
  |fn as r=>
   simp only;cases lF as r with
   |some _=>rfl
   |none=>
    simp only[ho,kK,St.fzs,List.foldl_nil,WO h];cases kZ C S gs xs with
    |none=>rfl
    |some u=>
     simp only[Option.bind_some];cases Ty.subs u.1 as<;>rfl
  |_=>rfl
theorem aq5 {op:Op}(h:∀t,t∈kP op→f t=S.r t):Bh C (S.withR f) gs dst op=Bh C S gs dst op:=by
 have other:∀op,(∀t,t∈kP op→f t=S.r t)→(bif l9 op&&(pre C (S.withR f) gs op).isEmpty then(match nl C (S.withR f) gs dst op with|some r=>bif p9 r.1&&hH gs (some dst) r.2 then some (hG gs r.1,r.2) else none|none=>none) else none)=
  (bif l9 op&&(pre C S gs op).isEmpty then(match nl C S gs dst op with|some r=>bif p9 r.1&&hH gs (some dst) r.2 then some (hG gs r.1,r.2) else none|none=>none) else none):=by
  intro op h;cases hq:l9 op with
  |false=>rfl
  |true=>rw[aBp h hq,afk hq h]
 unfold Bh;split
 ·rename_i x;simp only[kP] at h;rw[afi h,qa (xs:=[x]) fun t ht=>h t (by simpa using ht)]
 ·rename_i c;have h':=h;simp only[kP] at h';obtain⟨h1,h2⟩:=iJ h';rw[afk (op:=.call c) rfl h,qa h2];split
  ·rfl
  ·cases he:(bZ S gs c.args.toList).isEmpty with
   |false=>rfl
   |true=>
    simp only[cond_true];split
    ·exact aqb h2 he
    ·rename_i x _ hc;exact ap6 (fun t ht=>h1 t (by rw[hc];exact ht)) h2 he
    ·rfl
 ·exact other _ h
theorem aq6 {op:Op}(h:∀t,t∈kP op→f t=S.r t):Bi C (S.withR f) gs op=Bi C S gs op:=by
 unfold Bi;split
 ·rename_i T x v;simp only[kP] at h;obtain⟨h1,h2⟩:=iJ h;rw[tE h1,qa (xs:=[v]) fun t ht=>h2 t (by simpa using ht)];split
  ·rename_i j ver size off iu;cases(bZ S [] [v]).isEmpty with
   |false=>rfl
   |true=>
    simp only[cond_true];unfold sc;rw[tE h1,dD h2,iu];simp only;have eo:(S.withR f).o=S.o:=rfl;have ev:(S.withR f).ver=S.ver:=rfl;rw[eo,ev];cases C.P.info? T with
    |none=>rfl
    |some inf=>
     simp only;cases Nat.beq ver (S.ver j) with
     |false=>rfl
     |true=>
      simp only[cond_true];cases S.o j with
      |row T' e0=>
       cases use C S [] v with
       |none=>cases e0<;>rfl
       |some y=>
        obtain⟨t,e⟩:=y;cases e0<;>simp only<;>(generalize (_&&_:Bool)=b;cases b<;>rfl)
      |_=>rfl
  ·rfl
 ·rename_i T m k v;simp only[kP] at h;obtain⟨h1,h3⟩:=iJ h;obtain⟨h1,h2⟩:=iJ h1
  rw[qa (xs:=[k,v]) fun t ht=>by
   simp only[List.flatMap_cons,List.flatMap_nil,List.append_nil,List.mem_append] at ht;exact ht.elim (h2 t) (h3 t)]
  cases(bZ S [] [k,v]).isEmpty with
  |false=>rfl
  |true=>
   simp only[cond_true];unfold qL;rw[tE h1,dD h2,dD h3];have eo:(S.withR f).o=S.o:=rfl;have ev:(S.withR f).ver=S.ver:=rfl;rw[eo,ev];cases C.P.underlying T with
   |none=>rfl
   |some desc=>
    cases desc with
    |map K E=>
     cases gf S [] m with
     |obj j ver=>
      simp only;cases Nat.beq ver (S.ver j) with
      |false=>rfl
      |true=>
       simp only[cond_true];cases S.o j with
       |mp kt et=>
        cases use C S [] k with
        |none=>rfl
        |some y=>
         cases use C S [] v with
         |none=>rfl
         |some z=>
          obtain⟨tk,ek⟩:=y;obtain⟨tv,ev⟩:=z;simp only;generalize (_&&_:Bool)=b;cases b<;>rfl
       |_=>rfl
     |_=>rfl
    |_=>rfl
 ·rfl
 ·rfl
theorem aq8 {ops:Array Oper}{o:Oper}(h:∀t,t∈kP o.op++G7 ops o→f t=S.r t):sl C (S.withR f) ops o=sl C S ops o:=by
 obtain⟨h1,h2⟩:=iJ h;unfold sl;rw[auF h2];split
 ·rfl
 ·cases og S ops o with
  |none=>rfl
  |some gs=>
   simp only[Option.bind_some];split
   ·exact aq5 h1
   ·rw[aq6 h1]
theorem aCx {S:St}{t:Nat}{s:Sh}(h:S.r t=s)(hs:mz s=true):vW S t t=some (S,[]):=by
 unfold vW;rw[h];cases s<;>first|rfl|cases hs
theorem aq7 {ops:Array Oper}{o:Oper}{q:Sh×List PI}(h:sl C S ops o=some q):nU C S ops o=some (mP S o q.1,q.2):=by
 unfold sl at h;split at h
 case h_1=>cases h
 rename_i jJ;simp only[Option.bind_eq_some_iff] at h;obtain⟨gs,dy,h⟩:=h;have hY:wN C S ops o=none:=by
  unfold wN;rw[jJ];split<;>first|rfl|(rename_i hx;cases hx;done)|(rename_i hx _;cases hx;done)
 have fin:∀{S':St},pre C S gs o.op++oP C S gs o=[]→core C S gs o=some (S',q.2)→iZ C (post C S' o) S'=some (S',[])→hH gs o.dst q.2=true→nU C S ops o=some (S',q.2):=by
  intro S' h1 h2 h3 h4;unfold nU wM AP;rw[hY,dy];simp only[Option.bind_some,h1,iZ,h2,h3,h4,cond_true,List.nil_append,List.append_nil]
 cases hd:o.dst with
 |some dst=>
  simp only[hd] at h;have cH:mP S o q.1=S.setR dst q.1:=by unfold mP;rw[hd]
  rw[cH];unfold Bh at h;split at h
  ·rename_i x bK;split at h
   case h_2=>cases h
   cases hb:(C.fr.any (Nat.beq dst)&&(bZ S [] [x]).isEmpty)<;>simp only[hb,cond_true,cond_false] at h
   ·cases h
   simp only[Bool.and_eq_true] at hb;split at h
   case h_2=>cases h
   rename_i r hr;cases Zv:mz r.1<;>simp only[Zv,cond_true,cond_false] at h
   ·cases h
   cases h;have he:=List.isEmpty_iff.1 hb.2;refine fin ?_ ?_ ?_ rfl
   ·rw[bK];unfold oP;rw[bK,hd];simp only[hb.1,he,cond_true,pre,sY,List.map_nil,List.append_nil]
   ·unfold core;rw[hd];simp only[bK,nl,hb.1,cond_true,hr]
   ·unfold post;rw[bK,hd];simp only[iZ,Gh.run];rw[aCx (s:=q.1) (by simp[St.setR,aQ]) Zv];rfl
  ·rename_i c bK;have PY:pre C S gs o.op++oP C S gs o=[]:=by
        rw[bK];unfold oP;rw[bK];simp[pre,sY]
   have jG:∀S':St,iZ C (post C S' o) S'=some (S',[]):=fun S'=>by
        unfold post;rw[bK];rfl
   split at h
   ·rename_i r hr;cases hb:(p9 r.1&&hH gs (some dst) r.2)<;>simp only[hb,cond_true,cond_false] at h
    ·cases h
    cases h;simp only[Bool.and_eq_true] at hb;refine fin PY ?_ (jG _) (by rw[hd];exact hb.2);unfold core;rw[hd];simp only[bK,hr,hb.1,cond_true]
   ·rename_i hr;cases he:(bZ S gs c.args.toList).isEmpty<;>simp only[he,cond_true,cond_false] at h
    ·cases h
    have kK:=List.isEmpty_iff.1 he;have sfz:∀b:Bool,(bif b then S else S.fzs (bZ S gs c.args.toList))=S:=fun b=>by rw[kK];cases b<;>rfl
    split at h
    ·rename_i f hc;split at h
     case h_2=>cases h
     rename_i r fj;cases hb:hH gs (some dst) r.2.2<;>simp only[hb,cond_true,cond_false] at h
     ·cases h
     cases h;refine fin PY ?_ (jG _) (by rw[hd];exact hb);have hS:r.1=S:=by
      simp only[nX,Option.bind_eq_some_iff] at fj;obtain⟨s,hs,fj⟩:=fj;split at fj
      case h_2=>cases fj
      simp only[Option.bind_eq_some_iff] at fj;obtain⟨u,hu,fj⟩:=fj;cases cq:Ty.subs u.1 s.args<;>simp only[cq,cond_true,cond_false] at fj
      ·cases fj
      cases fj;exact sfz _
     unfold core;rw[hd];simp only[bK,hr,hc,fj,hS]
    ·rename_i x PF hc;split at h
     case h_2=>cases h
     rename_i r fj;cases hb:hH gs (some dst) r.2.2<;>simp only[hb,cond_true,cond_false] at h
     ·cases h
     cases h;refine fin PY ?_ (jG _) (by rw[hd];exact hb);have hS:r.1=S:=by
      unfold mV at fj;split at fj
      case h_2=>cases fj
      rename_i as r0 e Qg;split at fj
      case h_1=>cases fj
      simp only[Option.bind_eq_some_iff] at fj;obtain⟨u,hu,fj⟩:=fj;cases cq:Ty.subs u.1 as<;>simp only[cq,cond_true,cond_false] at fj
      ·cases fj
      cases fj;exact sfz _
     unfold core;rw[hd];simp only[bK,hr,hc];cases x with
     |func f=>exact absurd rfl (PF f)
     |_=>simp only[fj,hS]
    ·cases h
  ·rename_i Z2 df;cases hb:(l9 o.op&&(pre C S gs o.op).isEmpty)<;>simp only[hb,cond_true,cond_false] at h
   ·cases h
   simp only[Bool.and_eq_true] at hb;split at h
   case h_2=>cases h
   rename_i r hr;cases dh:(p9 r.1&&hH gs (some dst) r.2)<;>simp only[dh,cond_true,cond_false] at h
   ·cases h
   cases h;simp only[Bool.and_eq_true] at dh;have cS:oP C S gs o=[]:=by
        unfold oP;split
        ·rename_i x t e _;exact absurd e (Z2 x)
        ·rfl
   have jG:∀S':St,iZ C (post C S' o) S'=some (S',[]):=fun S'=>by
        have:post C S' o=[]:=by
         unfold post;split
         ·rename_i x t e _;exact absurd e (Z2 x)
         ·rename_i T t e _;rw[e] at hb;simp[l9] at hb
         ·rename_i T x v e;rw[e] at hb;simp[l9] at hb
         ·rfl
        rw[this];rfl
   refine fin (by rw[cS,List.isEmpty_iff.1 hb.2];rfl) ?_ (jG _) (by rw[hd];exact dh.2);unfold core;rw[hd];simp only[hr,dh.1,cond_true]
 |none=>
  simp only[hd,Option.map_eq_some_iff] at h;obtain⟨l,h,rfl⟩:=h;have cH:mP S o (.none:Sh)=S:=by unfold mP;rw[hd]
  show nU C S ops o=some (mP S o .none,l);rw[cH];have cS:oP C S gs o=[]:=by unfold oP;rw[hd];split<;>first|rfl|(rename_i hx;cases hx)
  unfold Bi at h;split at h
  ·rename_i T x v bK;split at h
   case h_2=>cases h
   rename_i j ver size off iu;cases he:(bZ S [] [v]).isEmpty<;>simp only[he,cond_true,cond_false] at h
   ·cases h
   simp only[Option.map_eq_some_iff] at h;obtain⟨r,hr,rfl⟩:=h;have hS:r.1=S:=by
        unfold sc at hr;split at hr
        case h_2=>cases hr
        rw[iu] at hr;simp only at hr;cases hv:Nat.beq ver (S.ver j)<;>simp only[hv,cond_true,cond_false] at hr
        ·cases hr
        split at hr
        ·revert hr;generalize (_&&_:Bool)=b;intro hr;cases b<;>simp only[cond_true,cond_false] at hr<;>cases hr;rfl
        ·revert hr;generalize (_&&_:Bool)=b;intro hr;cases b<;>simp only[cond_true,cond_false] at hr<;>cases hr;rfl
        ·cases hr
   refine fin ?_ ?_ ?_ rfl
   ·rw[cS,bK];simp only[pre,sY,iu,List.isEmpty_iff.1 he,List.map_nil,List.append_nil]
   ·unfold core;rw[hd];simp only[bK,hr];rw[←hS]
   ·unfold post;rw[bK];simp only[iu];rfl
  ·rename_i T m k v bK;cases he:(bZ S [] [k,v]).isEmpty<;>simp only[he,cond_true,cond_false] at h
   ·cases h
   simp only[Option.map_eq_some_iff] at h;obtain⟨r,hr,rfl⟩:=h;have hS:r.1=S:=by
        unfold qL at hr;split at hr
        ·rename_i K _ j ver _ _;cases hv:Nat.beq ver (S.ver j)<;>simp only[hv,cond_true,cond_false] at hr
         ·cases hr
         split at hr
         ·revert hr;generalize (_&&_:Bool)=b;intro hr;cases b<;>simp only[cond_true,cond_false] at hr<;>cases hr;rfl
         ·cases hr
        ·cases hr
   refine fin ?_ ?_ ?_ rfl
   ·rw[cS,bK];simp only[pre,sY,List.isEmpty_iff.1 he,List.map_nil,List.append_nil]
   ·unfold core;rw[hd];simp only[bK,hr];rw[←hS]
   ·unfold post;rw[bK];rfl
  ·rename_i x bK;cases h;refine fin ?_ ?_ ?_ rfl
   ·rw[cS,bK];rfl
   ·unfold core;rw[hd];simp only[bK]
   ·unfold post;rw[bK];rfl
  ·cases h
end
def eZ (ops:Array Oper)(shs:List Sh)(l:List Nat)(f:Nat→Sh):Nat→Sh:=
 l.foldl (fun f i=>match(ops[i]?).bind (·.dst) with|some d=>bV f d (shs.getD i .none)|none=>f) f
def wY (C:Ctx)(S:St)(ops:Array Oper):Nat→Option (List (Sh×List PI))
 |0=>some []
 |k+1=>(wY C S ops k).bind fun q=>match ops[k]? with
  |some o=>(sl C (S.withR (eZ ops (q.map (·.1)) (List.range k) S.r)) ops o).map fun r=>q++[r]
  |none=>none
def dg (ops:Array Oper):Nat→List Nat
 |0=>[]
 |k+1=>dg ops k++[match ops[k]? with
  |some o=>o.after.toList.foldr (fun e m=>bif Region.binds .any e then Nat.lor (Nat.lor (dw e.on) ((dg ops k).getD e.on 0)) m else m) 0
  |none=>0]
def agZ (ops:Array Oper)(o:Oper):List Nat:=kP o.op++G7 ops o
def YI (ops:Array Oper)(nc:List (List Nat))(clo:List Nat)(i:Nat):Bool:=
 match ops[i]? with
 |some o=>(nc.getD i []).all (az (clo.getD i 0))&&(o.after.toList.all fun e=> !Region.binds .any e||Nat.blt e.on i)&&
   (agZ ops o).all fun t=>(List.range ops.size).all fun j=>match(ops[j]?).bind (·.dst) with
     |some d=> !Nat.beq d t||((Nat.blt j i&&az (clo.getD i 0) j)||az (clo.getD j 0) i)
     |none=>true
 |none=>false
def G3 (ops:Array Oper)(i:Nat):Bool:=match ops[i]? with|some o=>o.after.toList.all fun e=> !Region.binds .any e||Nat.blt e.on i|none=>false
def Bj (ops:Array Oper)(nc:List (List Nat))(clo:List Nat)(m:Nat):Bool:=(List.range m).all (YI ops nc clo)&&(List.range ops.size).all (G3 ops)
def nJ (clo:List Nat):Nat→Nat
 |0=>0
 |k+1=>bif (List.range k).all (az (clo.getD k 0)) then nJ clo k else k+1
theorem ahM (clo:List Nat):∀k,nJ clo k≤k
 |0=>Nat.le_refl _
 |k+1=>by
  unfold nJ;cases(List.range k).all (az (clo.getD k 0)) with
  |true=>exact Nat.le_succ_of_le (ahM clo k)
  |false=>exact Nat.le_refl _
theorem ahL (clo:List Nat):∀k i,nJ clo k≤i→i<k→∀j,j<i→az (clo.getD i 0) j=true
 |0,i,_,h=>by omega
 |k+1,i,h1,h2=>by
  unfold nJ at h1;cases hb:(List.range k).all (az (clo.getD k 0)) with
  |true=>
   rw[hb] at h1;by_cases e:i=k
   ·subst e;exact fun j hj=>List.all_eq_true.1 hb j (List.mem_range.2 hj)
   ·exact ahL clo k i h1 (by omega)
  |false=>rw[hb] at h1;simp only[cond_false] at h1;omega
def YJ (C:Ctx)(ops:Array Oper)(S:St):Option (St×List PI):=
 (wY C S ops (nJ (dg ops ops.size) ops.size)).bind fun q=>
    bif Bj ops (oJ (q.map (·.2)) (nJ (dg ops ops.size) ops.size)) (dg ops ops.size) (nJ (dg ops ops.size) ops.size) then
     (mU C ops (List.range' (nJ (dg ops ops.size) ops.size) (ops.size-nJ (dg ops ops.size) ops.size)) (S.withR (eZ ops (q.map (·.1)) (List.range (nJ (dg ops ops.size) ops.size)) S.r))).map fun r=>(r.1,(q.map (·.2)).flatten++r.2)
    else none
theorem ME (ops:Array Oper)(shs:List Sh)(i:Nat)(l:List Nat)(f:Nat→Sh):eZ ops shs (i::l) f=eZ ops shs l (match(ops[i]?).bind (·.dst) with|some d=>bV f d (shs.getD i .none)|none=>f):=rfl
theorem D0 {ops:Array Oper}{shs:List Sh}{t:Nat}:∀{l:List Nat} {f:Nat→Sh},(∀i,i∈l→(ops[i]?).bind (·.dst)≠some t)→eZ ops shs l f t=f t
 |[],_,_=>rfl
 |i::l,f,h=>by
  rw[ME,D0 fun j hj=>h j (List.mem_cons_of_mem _ hj)];have:=h i (List.mem_cons_self ..);cases hd:(ops[i]?).bind (·.dst) with
  |none=>rfl
  |some d=>exact bq _ _ (fun e=>this (by rw[hd,e]))
def Nb (ops:Array Oper):Prop:=∀(i j t:Nat),(ops[i]?).bind (·.dst)=some t→(ops[j]?).bind (·.dst)=some t→i=j
theorem MD {ops:Array Oper}(ho:Nb ops){shs:List Sh}{t i:Nat}(ht:(ops[i]?).bind (·.dst)=some t):∀{l:List Nat} {f:Nat→Sh},i∈l→eZ ops shs l f t=shs.getD i .none
 |[],_,h=>nomatch h
 |j::l,f,h=>by
  rw[ME];by_cases hl:i∈l
  ·exact MD ho ht hl
  ·have e:i=j:=(List.mem_cons.1 h).resolve_right hl;subst e;rw[D0 fun k hk e=>hl (by rw[ho i k t ht e];exact hk),ht];exact aQ _ _ _
theorem ahx {ops:Array Oper}(ho:Nb ops){shs Ue:List Sh}{l m:List Nat}{f:Nat→Sh}{t:Nat}(h1:∀i,(ops[i]?).bind (·.dst)=some t→(i∈l↔i∈m))(h2:∀i,i∈l→(ops[i]?).bind (·.dst)=some t→shs.getD i .none=Ue.getD i .none):eZ ops shs l f t=eZ ops Ue m f t:=by
 by_cases hh:∃i,i∈l∧(ops[i]?).bind (·.dst)=some t
 ·obtain⟨i,hi,ht⟩:=hh;rw[MD ho ht hi,MD ho ht ((h1 i ht).1 hi),h2 i hi ht]
 ·rw[D0 fun i hi e=>hh ⟨i,hi,e⟩,D0 fun i hi e=>hh ⟨i,(h1 i e).2 hi,e⟩]
theorem aAo {ops:Array Oper}(h:(ops.toList.filterMap (·.dst)).Nodup):Nb ops:=by
 intro i j t hi hj;rw[Option.bind_eq_some_iff] at hi hj;obtain⟨oi,h1,h2⟩:=hi;obtain⟨oj,h3,h4⟩:=hj;by_cases e:i=j
 ·exact e
 ·exact(ud.dst_once h h1 h3 h2 h4 e).elim
theorem OO {C:Ctx}{S:St}{ops:Array Oper}:∀{k:Nat} {q:List (Sh×List PI)},wY C S ops k=some q→q.length=k∧∀i,i<k→∃o,ops[i]?=some o∧
 sl C (S.withR (eZ ops (q.map (·.1)) (List.range i) S.r)) ops o=some ((q.map (·.1)).getD i .none,(q.map (·.2)).getD i [])
 |0,q,h=>by simp only[wY,Option.some.injEq] at h;subst h;exact⟨rfl,fun i hi=>by omega⟩
 |k+1,q,h=>by
  simp only[wY,Option.bind_eq_some_iff] at h;obtain⟨p,hp,h⟩:=h;split at h
  case h_2=>cases h
  rename_i o ho;simp only[Option.map_eq_some_iff] at h;obtain⟨r,hr,rfl⟩:=h;obtain⟨l1,aR⟩:=OO hp;have same:∀i,i≤k→eZ ops ((p++[r]).map (·.1)) (List.range i) S.r=eZ ops (p.map (·.1)) (List.range i) S.r:=by
   intro i hi;have key:∀(l:List Nat) (f:Nat→Sh),(∀j,j∈l→j<p.length)→eZ ops ((p++[r]).map (·.1)) l f=eZ ops (p.map (·.1)) l f:=by
    intro l
    induction l with
    |nil=>intro f _;rfl
    |cons j l ih=>
     intro f hl;have hj:=hl j (List.mem_cons_self ..);have e:((p++[r]).map (·.1)).getD j .none=(p.map (·.1)).getD j .none:=by
       rw[List.map_append,List.getD_eq_getElem?_getD,List.getElem?_append_left (by simpa using hj),←List.getD_eq_getElem?_getD]
     rw[ME,ME,e,ih _ fun m hm=>hl m (List.mem_cons_of_mem _ hm)]
   exact key _ _ fun j hj=>by have:=List.mem_range.1 hj;omega
  refine⟨by simp[l1],fun i hi=>?_⟩;by_cases e:i=k
  ·subst e;refine⟨o,ho,?_⟩;rw[same i (Nat.le_refl _),hr];have e1:((p++[r]).map (·.1)).getD i .none=r.1:=by
    rw[List.map_append,List.getD_eq_getElem?_getD,List.getElem?_append_right (by simp[l1])];simp[l1]
   have e2:((p++[r]).map (·.2)).getD i []=r.2:=by
    rw[List.map_append,List.getD_eq_getElem?_getD,List.getElem?_append_right (by simp[l1])];simp[l1]
   rw[e1,e2]
  ·obtain⟨o',h1,h2⟩:=aR i (by omega);refine⟨o',h1,?_⟩;rw[same i (by omega),h2];have:i<p.length:=by omega
   simp only[List.map_append,List.getD_eq_getElem?_getD];rw[List.getElem?_append_left (by simpa using this),List.getElem?_append_left (by simpa using this)]
theorem GN (ops:Array Oper):∀k,(dg ops k).length=k
 |0=>rfl
 |k+1=>by simp[dg,GN ops k]
theorem XZ (ops:Array Oper){k m i:Nat}(h:i<k)(hm:k≤m):(dg ops m).getD i 0=(dg ops k).getD i 0:=by
 induction m with
 |zero=>omega
 |succ m ih=>
  by_cases e:k=m+1
  ·rw[e]
  ·rw[←ih (by omega)];simp only[dg,List.getD_eq_getElem?_getD];rw[List.getElem?_append_left (by rw[GN];omega)]
theorem GO {ops:Array Oper}{N i m:Nat}{o:Oper}(hi:i<N)(ho:ops[i]?=some o)(ak:(o.after.toList.all fun e=> !Region.binds .any e||Nat.blt e.on i)=true)(h:az ((dg ops N).getD i 0) m=true):
 ∃e,e∈o.after.toList∧Region.binds .any e=true∧(m=e.on∨az ((dg ops N).getD e.on 0) m=true):=by
 rw[XZ ops (k:=i+1) (by omega) (by omega)] at h
 have e1:(dg ops (i+1)).getD i 0=o.after.toList.foldr (fun e m=>bif Region.binds .any e then Nat.lor (Nat.lor (dw e.on) ((dg ops i).getD e.on 0)) m else m) 0:=by
  simp only[dg,List.getD_eq_getElem?_getD];rw[List.getElem?_append_right (by rw[GN];exact Nat.le_refl _),GN];simp[ho]
 rw[e1] at h;have aR:=List.all_eq_true.1 ak;generalize o.after.toList=l at h aR
 induction l with
 |nil=>rw[qI] at h;simp at h
 |cons e l ih=>
  simp only[List.foldr_cons] at h;cases hb:Region.binds .any e<;>rw[hb] at h<;>simp only[cond_true,cond_false] at h
  ·obtain⟨e',h1,h2⟩:=ih h (fun x hx=>aR x (List.mem_cons_of_mem _ hx));exact⟨e',List.mem_cons_of_mem _ h1,h2⟩
  ·rw[eK,eK,Bool.or_eq_true,Bool.or_eq_true] at h;have oA:e.on<i:=by
        have:=aR e (List.mem_cons_self ..);rw[hb] at this;simpa [Nat.blt_eq] using this
   rcases h with(h|h)|h
   ·refine⟨e,List.mem_cons_self ..,hb,.inl ?_⟩;have:=gZ 0 e.on m;have z:az 0 m=false:=by rw[qI];simp
    rw[eK,z,Bool.false_or,Bool.false_or,h] at this;exact(cL this.symm).symm
   ·refine⟨e,List.mem_cons_self ..,hb,.inr ?_⟩;rw[XZ ops oA (by omega)];exact h
   ·obtain⟨e',h1,h2⟩:=ih h (fun x hx=>aR x (List.mem_cons_of_mem _ hx));exact⟨e',List.mem_cons_of_mem _ h1,h2⟩
section
variable {C:Ctx} {S:St} {ρ:Env} {σ:Im} {own:Nat→Option Nat} {hv:Nat→Value} {w0:World} {σ0:Base} {A:Nat→Prop} {a:Act} {w:World} {n:Nat} {ids:List Nat} {Φ:aU}
theorem ag0 {ops:Array Oper}{listed:Array Bool}{E:Nat}(aN:listed.size=ops.size)(hl:∀i,listed.getD i false=az E i)(i:Nat):i∈Region.ready .any ops listed↔i∈nD ops E:=by
 unfold Region.ready nD;simp only[List.mem_filter,List.mem_range];refine and_congr_right fun hi=>?_;have h1:listed.getD i true=az E i:=by
  rw[←hl i];simp only[Array.getD_eq_getD_getElem?];rw[Array.getElem?_eq_getElem (by omega)];rfl
 have h2:ops[i]?=some ops[i]:=Array.getElem?_eq_getElem hi;rw[h1,h2];simp only[Option.map_some,Option.getD_some,←Array.all_toList,hl]
def tD (ops:Array Oper)(E:Nat):Nat→Prop:=fun t=>∃i o,az E i=true∧ops[i]?=some o∧o.dst=some t
def qx (ops:Array Oper)(E:Nat):Nat:=((List.range ops.size).filter fun i=> !az E i).length
theorem aGl {ops:Array Oper}{E i:Nat}(hi:i<ops.size)(hb:az E i=false):qx ops E=qx ops (Nat.lor E (dw i))+1:=by
 unfold qx;obtain⟨l1,l2,hl⟩:=List.append_of_mem (List.mem_range.2 hi);have bC:=List.nodup_range (n:=ops.size);rw[hl,List.nodup_append] at bC;obtain⟨_,h2,h3⟩:=bC;rw[List.nodup_cons] at h2;have g1:∀j,j∈l1→j≠i:=fun j hj=>h3 j hj i (List.mem_cons_self ..);have g2:∀j,j∈l2→j≠i:=fun j hj e=>h2.1 (e▸hj)
 have c:∀l:List Nat,(∀j,j∈l→j≠i)→(l.filter fun j=> !az (Nat.lor E (dw i)) j)=l.filter fun j=> !az E j:=by
  intro l hl;apply List.filter_congr;intro j hj;rw[gZ,ez (fun e=>hl j hj e.symm),Bool.or_false]
 have di:az (Nat.lor E (dw i)) i=true:=by rw[gZ,Nat.beq_refl,Bool.or_true]
 rw[hl];simp only[List.filter_append,List.filter_cons,c l1 g1,c l2 g2,hb,di,Bool.not_true,Bool.not_false,if_true,Bool.false_eq_true,if_false,List.length_append,List.length_cons];omega
theorem ara {rd:Option Nat}(hC:CtxOK C σ0)(ba:dt C)(hΦ:cW C Φ)(hY:nP C Φ w0 σ0){a0:Act}(PB:a0.tmps.size=n){ops:Array Oper}(aE:qs n ops=true)(gn:Bo ops=true){m:Nat}(hm:m≤ops.size){q:List (Sh×List PI)}(hq:wY C S ops m=some q)
 (sD:Bj ops (oJ (q.map (·.2)) m) (dg ops ops.size) m=true) (xu:∀i,m≤i→i<ops.size→∀j,j<i→az ((dg ops ops.size).getD i 0) j=true) {Q:Exit→Act→World→Prop} {ρ':Env}
 (hK:∀listed a' w',listed.size=ops.size→(∀i,listed.getD i false=decide (i<m))→SameBut (pz ops) a0 a'→Good C w0 σ0 (S.withR (eZ ops (q.map (·.1)) (List.range m) S.r)) ρ' (kX ops (List.range m)) a' w'→wpAnyIn (FR rd) 0 C.P .any ops Q (ops.size-m) listed a' w'):
 ∀(k E:Nat) (listed:Array Bool) (ρ:Env) (a:Act) (w:World),qx ops E=k→(∀j,az E j=true→j<m)→(∀j,j<ops.size→az E j=true→∀m,az ((dg ops ops.size).getD j 0) m=true→az E m=true)→listed.size=ops.size→(∀i,listed.getD i false=az E i)→SameBut (pz ops) a0 a→
  Good C w0 σ0 (S.withR (eZ ops (q.map (·.1)) ((List.range m).filter (az E)) S.r)) ρ (tD ops E) a w→PI.runs Φ (dT (q.map (·.2)) (List.range m) E) ρ=some ρ'→wpAnyIn (FR rd) 0 C.P .any ops Q k listed a w:=by
 have HM:=aE;simp only[qs,Bool.and_eq_true] at aE;have bC:=mG aE.1;have PR:=aAo bC;obtain⟨hlen,aR⟩:=OO hq;unfold Bj at sD;rw[Bool.and_eq_true] at sD
 have Bt:∀i,i<ops.size→∀o,ops[i]?=some o→(o.after.toList.all fun e=> !Region.binds .any e||Nat.blt e.on i)=true:=by
  intro i hi o ho;have:=List.all_eq_true.1 sD.2 i (List.mem_range.2 hi);unfold G3 at this;rw[ho] at this;exact this
 have aww:∀i,i<m→∀o,ops[i]?=some o→((oJ (q.map (·.2)) m).getD i []).all (az ((dg ops ops.size).getD i 0))=true∧
  ∀t,t∈agZ ops o→∀j,j<ops.size→(ops[j]?).bind (·.dst)=some t→(j<i∧az ((dg ops ops.size).getD i 0) j=true)∨az ((dg ops ops.size).getD j 0) i=true:=by
  intro i hi o ho;have:=List.all_eq_true.1 sD.1 i (List.mem_range.2 hi);unfold YI at this;rw[ho] at this;simp only[Bool.and_eq_true] at this;refine⟨this.1.1,fun t ht j hj hd=>?_⟩;have:=List.all_eq_true.1 (List.all_eq_true.1 this.2 t ht) j (List.mem_range.2 hj);rw[hd] at this;simp only[Nat.beq_refl,Bool.not_true,Bool.false_or,Bool.or_eq_true,Bool.and_eq_true,Nat.blt_eq] at this;exact this
 have Xk:∀(k E:Nat) (listed:Array Bool) (ρ:Env) (a:Act) (w:World),(∀i,i<m→az E i=true)→qx ops E=k→(∀j,az E j=true→j<m)→listed.size=ops.size→(∀i,listed.getD i false=az E i)→SameBut (pz ops) a0 a→
  Good C w0 σ0 (S.withR (eZ ops (q.map (·.1)) ((List.range m).filter (az E)) S.r)) ρ (tD ops E) a w→PI.runs Φ (dT (q.map (·.2)) (List.range m) E) ρ=some ρ'→wpAnyIn (FR rd) 0 C.P .any ops Q k listed a w:=by
  intro k E listed ρ a w jB hk uK aN hl hn hg aq;have hb:∀i,az E i=decide (i<m):=by
   intro i;by_cases h:i<m
   ·rw[jB i h,decide_eq_true h]
   ·rw[decide_eq_false h];cases hb:az E i with
    |false=>rfl
    |true=>exact absurd (uK i hb) h
  have Pf:dT (q.map (·.2)) (List.range m) E=[]:=by
   unfold dT;rw[List.flatMap_eq_nil_iff];intro i hi;rw[jB i (List.mem_range.1 hi)];rfl
  rw[Pf] at aq;simp only[PI.runs,Option.some.injEq] at aq;subst aq;have avl:qx ops E=ops.size-m:=by
   unfold qx
   have key:∀N,m≤N→((List.range N).filter fun i=> !az E i).length=N-m:=by
        intro N
        induction N with
        |zero=>intro _;simp
        |succ N ih=>
         intro hN;rw[List.range_succ,List.filter_append,List.length_append];by_cases h:m≤N
         ·rw[ih h];simp[hb N,Nat.not_lt.2 h];omega
         ·have:m=N+1:=by omega
          have e:(List.range N).filter (fun i=> !az E i)=[]:=by
           rw[List.filter_eq_nil_iff];intro i hi;rw[jB i (by have:=List.mem_range.1 hi;omega)];simp
          have hN':az E N=true:=jB N (by omega);rw[e];simp[hN'];omega
   exact key _ hm
  have ef:(List.range m).filter (az E)=List.range m:=List.filter_eq_self.2 fun i hi=>jB i (List.mem_range.1 hi);rw[ef] at hg;have oC:tD ops E=kX ops (List.range m):=by
   funext t;apply propext;constructor
   ·rintro⟨i,o,h1,h2,h3⟩;exact⟨i,o,List.mem_range.2 (uK i h1),h2,h3⟩
   ·rintro⟨i,o,h1,h2,h3⟩;exact⟨i,o,jB i (List.mem_range.1 h1),h2,h3⟩
  rw[oC] at hg;rw[←hk,avl];exact hK listed a w aN (fun i=>by rw[hl i,hb i]) hn hg
 intro k
 induction k with
 |zero=>
  intro E listed ρ a w hk uK Hm aN hl hn hg aq;refine Xk 0 E listed ρ a w (fun i hi=>?_) hk uK aN hl hn hg aq;cases hb:az E i with
  |true=>rfl
  |false=>
   have:i∈(List.range ops.size).filter fun i=> !az E i:=List.mem_filter.2 ⟨List.mem_range.2 (by omega),by rw[hb];rfl⟩;unfold qx at hk;rw[List.length_eq_zero_iff.1 hk] at this;cases this
 |succ k ih=>
  intro E listed ρ a w hk uK Hm aN hl hn hg aq;by_cases jB:∀i,i<m→az E i=true
  ·exact Xk (k+1) E listed ρ a w jB hk uK aN hl hn hg aq
  refine⟨fun he=>?_,fun i hi=>?_⟩
  ·
   obtain⟨i,hi,HF⟩:∃i,(i<m∧az E i=false)∧∀j,j<i→az E j=true:=by
        have hex:∃i,i<m∧az E i=false:=by
         refine Classical.byContradiction fun eE=>jB fun i hi=>?_;cases hb:az E i with
         |true=>rfl
         |false=>exact absurd ⟨i,hi,hb⟩ eE
        obtain⟨i,hi⟩:=hex
        induction i using Nat.strongRecOn with
        |ind i lD=>
         by_cases hh:∃j,j<i∧az E j=false
         ·obtain⟨j,hj,hb⟩:=hh;exact lD j hj ⟨by omega,hb⟩
         ·refine⟨i,hi,fun j hj=>?_⟩;cases hb:az E j with
          |true=>rfl
          |false=>exact absurd ⟨j,hj,hb⟩ hh
   have m5:i<ops.size:=by omega
   have ho:ops[i]?=some ops[i]:=Array.getElem?_eq_getElem m5;have cP:i∈nD ops E:=by
        unfold nD;simp only[List.mem_filter,List.mem_range,Bool.and_eq_true,Bool.not_eq_true',ho];refine⟨m5,hi.2,?_⟩;rw[List.all_eq_true];intro e jd;have:=List.all_eq_true.1 (Bt i m5 _ ho) e jd;cases hb:Region.binds .any e with
        |false=>rfl
        |true=>
         rw[hb] at this;simp only[Bool.not_true,Bool.false_or,Nat.blt_eq] at this;rw[HF _ this];rfl
   rw[←ag0 aN hl,he] at cP;cases cP
  ·rw[ag0 aN hl] at hi;unfold nD at hi;simp only[List.mem_filter,List.mem_range,Bool.and_eq_true,Bool.not_eq_true'] at hi;obtain⟨bE,de,sv⟩:=hi;have Z7:ops[i]?=some ops[i]:=Array.getElem?_eq_getElem bE;generalize ops[i]=o at Z7;have ho:=Z7;rw[ho] at sv;simp only at sv;have o2:=Bt i bE o ho;have xd:∀m,az ((dg ops ops.size).getD i 0) m=true→az E m=true:=by
        intro m hm;obtain⟨e,gP,j6,Pe⟩:=GO bE ho o2 hm;have hE:az E e.on=true:=by
         have:=List.all_eq_true.1 sv e gP
         rwa [j6,Bool.not_true,Bool.false_or] at this
        rcases Pe with rfl|Pe
        ·exact hE
        ·have oA:e.on<i:=by
          have:=List.all_eq_true.1 o2 e gP;rw[j6] at this;simpa [Nat.blt_eq] using this
         exact Hm e.on (by omega) hE m Pe
   have jE:i<m:=by
        refine Classical.byContradiction fun eE=>jB fun j hj=>?_;exact xd j (xu i (by omega) bE j (by omega))
   obtain⟨o',dJ,jC⟩:=aR i jE;rw[ho] at dJ;cases dJ;obtain⟨o1,o3⟩:=aww i jE o ho;have df:((oJ (q.map (·.2)) m).getD i []).all (az E)=true:=by
        rw[List.all_eq_true] at o1 ⊢;exact fun m hm=>xd m (o1 m hm)
   have avo:sl C (S.withR (eZ ops (q.map (·.1)) ((List.range m).filter (az E)) S.r)) ops o=some ((q.map (·.1)).getD i .none,(q.map (·.2)).getD i []):=by
        rw[←jC];refine aq8 (S:=S.withR (eZ ops (q.map (·.1)) (List.range i) S.r)) fun t ht=>?_;refine ahx PR (fun j hj=>?_) (fun _ _ _=>rfl);have fC:j<ops.size:=by
         rw[Option.bind_eq_some_iff] at hj;obtain⟨oj,h1,_⟩:=hj;exact(Array.getElem?_eq_some_iff.1 h1).1
        rw[List.mem_filter,List.mem_range,List.mem_range];rcases o3 t ht j fC hj with⟨h1,h2⟩|h1
        ·exact⟨fun _=>h1,fun _=>⟨by omega,xd j h2⟩⟩
        ·constructor
         ·rintro⟨_,om⟩;have:=Hm j fC om i h1;rw[de] at this;cases this
         ·intro sA;exfalso;have key:∀m j,j<ops.size→az ((dg ops ops.size).getD j 0) m=true→m<j:=by
           intro m j
           induction j using Nat.strongRecOn with
           |ind j lD=>
            intro hj hm;have BV:ops[j]?=some ops[j]:=Array.getElem?_eq_getElem hj;have p2:=Bt j hj _ BV;obtain⟨e,e1,e2,e3⟩:=GO hj BV p2 hm;have oA:e.on<j:=by
                have:=List.all_eq_true.1 p2 e e1;rw[e2] at this;simpa [Nat.blt_eq] using this
            rcases e3 with rfl|e3
            ·exact oA
            ·have:=lD e.on oA (by omega) e3;omega
          have:=key i j fC h1;omega
   have hcp:=aq7 avo;rw[ag8 jE de df,Option.bind_eq_some_iff] at aq;obtain⟨ρ1,hρ1,hρ2⟩:=aq;have uD:∀d,o.dst=some d→¬tD ops E d∧d<a.tmps.size:=by
        intro d hd;refine⟨fun⟨i',o',di,dJ,eD⟩=>?_,?_⟩
        ·have aG:i'≠i:=fun e=>by subst e;rw[de] at di;cases di
         exact ud.dst_once bC dJ ho eD hd aG
        ·have:=List.all_eq_true.1 aE.2 o (by simpa using Array.mem_of_getElem? ho);simp only[hd,Bool.and_eq_true] at this;rw[hn.size,PB];simpa [Nat.blt_eq] using this.2
   have ml:rp o.op=true:=by
        have:=List.all_eq_true.1 aE.2 o (by simpa using Array.mem_of_getElem? ho);simp only[Bool.and_eq_true] at this;exact this.1
   have hj:∀j want t,o.guard=some (j,want)→(ops[j]?).bind (·.dst)=some t→tD ops E t:=by
        intro j want t jD ht;rw[Option.bind_eq_some_iff] at ht;obtain⟨oj,h1,h2⟩:=ht;have sy:=List.all_eq_true.1 gn o (by simpa using Array.mem_of_getElem? ho);simp only[jD] at sy;obtain⟨e,gP,j6⟩:=List.any_eq_true.1 sy;simp only[Bool.and_eq_true] at j6;have h3:=List.all_eq_true.1 sv e gP;rw[j6.1] at h3;simp only[Bool.not_true,Bool.false_or] at h3;exact⟨j,oj,by rw[←cL j6.2];exact h3,h1,h2⟩
   have avk:∀j,j<ops.size→az (Nat.lor E (dw i)) j=true→∀m,az ((dg ops ops.size).getD j 0) m=true→az (Nat.lor E (dw i)) m=true:=by
        intro j hj om m hm;rw[gZ,Bool.or_eq_true] at om;rw[gZ,Bool.or_eq_true];rcases om with om|om
        ·exact .inl (Hm j hj om m hm)
        ·rw[←cL om] at hm;exact .inl (xd m hm)
   have main:=GP (rd:=rd) (K:=wpAnyIn (FR rd) 0 C.P .any ops Q k (listed.setIfInBounds i true)) (Q:=Q) hg hC ba hΦ hY ml uD hj hcp hρ1 (fun a' w' fh pZ=>by
        have hA:(fun u=>tD ops E u∨o.dst=some u)=tD ops (Nat.lor E (dw i)):=by
         funext u;apply propext;constructor
         ·rintro(⟨i',o',h1,h2,h3⟩|h1)
          ·exact⟨i',o',by rw[gZ,h1,Bool.true_or],h2,h3⟩
          ·exact⟨i,o,by rw[gZ,Nat.beq_refl,Bool.or_true],ho,h1⟩
         ·rintro⟨i',o',h1,h2,h3⟩;rw[gZ,Bool.or_eq_true] at h1;rcases h1 with h1|h1
          ·exact .inl ⟨i',o',h1,h2,h3⟩
          ·rw[←cL h1,ho] at h2;cases h2;exact .inr h3
        rw[hA] at fh;have hSt:mP (S.withR (eZ ops (q.map (·.1)) ((List.range m).filter (az E)) S.r)) o ((q.map (·.1)).getD i .none)=S.withR (eZ ops (q.map (·.1)) ((List.range m).filter (az (Nat.lor E (dw i)))) S.r):=by
         have avH:∀t,(mP (S.withR (eZ ops (q.map (·.1)) ((List.range m).filter (az E)) S.r)) o ((q.map (·.1)).getD i .none)).r t=eZ ops (q.map (·.1)) ((List.range m).filter (az (Nat.lor E (dw i)))) S.r t:=by
          intro t;by_cases Bz:o.dst=some t
          ·have hb:(ops[i]?).bind (·.dst)=some t:=by rw[ho];exact Bz
           rw[MD PR hb (List.mem_filter.2 ⟨List.mem_range.2 jE,by rw[gZ,Nat.beq_refl,Bool.or_true]⟩)];unfold mP;rw[Bz];simp[St.setR,aQ]
          ·have e1:(mP (S.withR (eZ ops (q.map (·.1)) ((List.range m).filter (az E)) S.r)) o ((q.map (·.1)).getD i .none)).r t=eZ ops (q.map (·.1)) ((List.range m).filter (az E)) S.r t:=by
            unfold mP;split
            ·rename_i d hd;exact bq _ _ (fun e=>Bz (by rw[hd,e]))
            ·rfl
           rw[e1];refine ahx PR (fun j hj=>?_) (fun _ _ _=>rfl);have sA:¬i=j:=fun e=>by subst e;rw[ho] at hj;exact Bz hj
           rw[List.mem_filter,List.mem_filter,gZ,ez sA,Bool.or_false]
         have:∀(X Y:St),X.o=Y.o→X.ver=Y.ver→(∀t,X.r t=Y.r t)→X=Y:=by
          intro X Y h1 h2 h3;cases X;cases Y;simp only at h1 h2 h3;subst h1 h2
          congr 1
          exact funext h3
         refine this _ _ ?_ ?_ avH
         ·unfold mP;split<;>rfl
         ·unfold mP;split<;>rfl
        rw[hSt] at fh;refine ih _ _ ρ1 a' w' (by have:=aGl bE de;omega) (fun j hj=>by rw[gZ,Bool.or_eq_true] at hj;rcases hj with hj|hj;exact uK j hj;rw[←cL hj];exact jE) avk (by simpa using aN) (fun j=>?_) (hn.trans (pZ.mono fun t e=>⟨o,by simpa using Array.mem_of_getElem? ho,e⟩)) fh hρ2;rw[gZ];simp only[Array.getD_eq_getD_getElem?,Array.getElem?_setIfInBounds];by_cases cN:i=j
        ·subst cN;simp[aN,bE]
        ·rw[if_neg cN,ez cN,Bool.or_false,←hl j];simp only[Array.getD_eq_getD_getElem?])
   simp only[wpOpIn,ho];split
   ·rename_i hw;rw[if_pos hw] at main;exact main
   ·rename_i hw;rw[if_neg hw] at main;exact⟨fun _ _=>trivial,main⟩
theorem aDf {rd:Option Nat}(hC:CtxOK C σ0)(ba:dt C)(hΦ:cW C Φ)(hY:nP C Φ w0 σ0){ops:Array Oper}(aE:qs n ops=true)(gn:Bo ops=true)(Bt:(List.range ops.size).all (G3 ops)=true){m:Nat}
 (xu:∀i,m≤i→i<ops.size→∀j,j<i→az ((dg ops ops.size).getD i 0) j=true) {Q:Exit→Act→World→Prop} {ρ':Env}:
 ∀(k i:Nat) {S:St} {ρ:Env} {a:Act} {w:World} {r:St×List PI} (listed:Array Bool),i+k=ops.size→m≤i→listed.size=ops.size→(∀j,listed.getD j false=decide (j<i))→a.tmps.size=n→
  Good C w0 σ0 S ρ (kX ops (List.range i)) a w→mU C ops (List.range' i k) S=some r→PI.runs Φ r.2 ρ=some ρ'→
  (∀a' w',SameBut (pz ops) a a'→Good C w0 σ0 r.1 ρ' (kX ops (List.range ops.size)) a' w'→Q .normal a' w')→wpAnyIn (FR rd) 0 C.P .any ops Q k listed a w:=by
 have HM:=aE;simp only[qs,Bool.and_eq_true] at aE;have bC:=mG aE.1
 have Nk:∀i,i<ops.size→∀o,ops[i]?=some o→(o.after.toList.all fun e=> !Region.binds .any e||Nat.blt e.on i)=true:=by
  intro i hi o ho;have:=List.all_eq_true.1 Bt i (List.mem_range.2 hi);unfold G3 at this;rw[ho] at this;exact this
 have mem:∀(listed:Array Bool) (i j:Nat),listed.size=ops.size→(∀j,listed.getD j false=decide (j<i))→(j∈Region.ready .any ops listed↔(j<ops.size∧¬j<i∧∀o,ops[j]?=some o→(o.after.toList.all fun e=> !Region.binds .any e||decide (e.on<i))=true)):=by
  intro listed i j aN hl;unfold Region.ready;simp only[List.mem_filter,List.mem_range];refine and_congr_right fun hj=>?_;have h1:listed.getD j true=decide (j<i):=by
   rw[←hl j];simp only[Array.getD_eq_getD_getElem?];rw[Array.getElem?_eq_getElem (by omega)];rfl
  have h2:ops[j]?=some ops[j]:=Array.getElem?_eq_getElem hj;rw[h1,h2];simp only[Option.map_some,Option.getD_some,←Array.all_toList,hl,Bool.and_eq_true,Bool.not_eq_true',decide_eq_false_iff_not,Option.some.injEq,forall_eq']
 intro k
 induction k with
 |zero=>
  intro i S ρ a w r listed hik hmi aN hl hn hg hr aq hQ;simp only[List.range'_zero,mU,Option.some.injEq] at hr;subst hr;rw[mO aq] at hQ;refine⟨?_,hQ a w (.refl _ _) ?_⟩
  ·rw[List.eq_nil_iff_forall_not_mem];intro j hj;rw[mem listed i j aN hl] at hj;exact hj.2.1 (by omega)
  ·have:i=ops.size:=by omega
   rw[←this];exact hg
 |succ k ih=>
  intro i S ρ a w r listed hik hmi aN hl hn hg hr aq hQ;have bE:i<ops.size:=by omega
  have ho:ops[i]?=some ops[i]:=Array.getElem?_eq_getElem bE;generalize ops[i]=o at ho;refine⟨fun he=>?_,fun i' di=>?_⟩
  ·have:i∈Region.ready .any ops listed:=by
        rw[mem listed i i aN hl];refine⟨bE,by omega,fun o' dJ=>?_⟩;rw[List.all_eq_true];intro e jd;have:=List.all_eq_true.1 (Nk i bE o' dJ) e jd;cases hb:Region.binds .any e with
        |false=>rfl
        |true=>
         rw[hb] at this;simp only[Bool.not_true,Bool.false_or,Nat.blt_eq] at this;simpa using this
   rw[he] at this;cases this
  ·rw[mem listed i i' aN hl] at di;obtain⟨h1,h2,h3⟩:=di;obtain rfl:i'=i:=by
        refine Classical.byContradiction fun aG=>?_;have dJ:ops[i']?=some ops[i']:=Array.getElem?_eq_getElem h1;have xd:=xu i' (by omega) h1 i (by omega);have ak:∀m j,j<ops.size→az ((dg ops ops.size).getD j 0) m=true→m<j:=by
         intro m j
         induction j using Nat.strongRecOn with
         |ind j lD=>
          intro hj hm;have BV:ops[j]?=some ops[j]:=Array.getElem?_eq_getElem hj;have p2:=Nk j hj _ BV;obtain⟨e,e1,e2,e3⟩:=GO hj BV p2 hm;have oA:e.on<j:=by
           have:=List.all_eq_true.1 p2 e e1;rw[e2] at this;simpa [Nat.blt_eq] using this
          rcases e3 with rfl|e3
          ·exact oA
          ·have:=lD e.on oA (by omega) e3;omega
        obtain⟨e,e1,e2,e3⟩:=GO h1 dJ (Nk i' h1 _ dJ) xd;have h4:=List.all_eq_true.1 (h3 _ dJ) e e1;rw[e2] at h4;simp only[Bool.not_true,Bool.false_or,decide_eq_true_eq] at h4;rcases e3 with e3|e3
        ·omega
        ·have:=ak i e.on (by omega) e3;omega
   rw[List.range'_succ] at hr;simp only[mU,ho] at hr;simp only[Option.bind_eq_some_iff,Option.map_eq_some_iff] at hr;obtain⟨r1,gQ,q,hq,rfl⟩:=hr;simp only[nG,Option.bind_eq_some_iff] at aq;obtain⟨ρ1,hρ1,hρ2⟩:=aq;have uD:∀d,o.dst=some d→¬kX ops (List.range i') d∧d<a.tmps.size:=by
        intro d hd;refine⟨fun⟨i2,o2,uF,dW,dC⟩=>?_,?_⟩
        ·have aG:i2≠i':=by have:=List.mem_range.1 uF;omega
         exact ud.dst_once bC dW ho dC hd aG
        ·have:=List.all_eq_true.1 aE.2 o (by simpa using Array.mem_of_getElem? ho);simp only[hd,Bool.and_eq_true] at this;rw[hn];simpa [Nat.blt_eq] using this.2
   have ml:rp o.op=true:=by
        have:=List.all_eq_true.1 aE.2 o (by simpa using Array.mem_of_getElem? ho);simp only[Bool.and_eq_true] at this;exact this.1
   have hj:∀j want t,o.guard=some (j,want)→(ops[j]?).bind (·.dst)=some t→kX ops (List.range i') t:=by
        intro j want t jD ht;rw[Option.bind_eq_some_iff] at ht;obtain⟨oj,h1,h2⟩:=ht;have sy:=List.all_eq_true.1 gn o (by simpa using Array.mem_of_getElem? ho);simp only[jD] at sy;obtain⟨e,gP,j6⟩:=List.any_eq_true.1 sy;simp only[Bool.and_eq_true] at j6;have h4:=List.all_eq_true.1 (h3 o ho) e gP;rw[j6.1] at h4;simp only[Bool.not_true,Bool.false_or,decide_eq_true_eq] at h4;exact⟨j,oj,List.mem_range.2 (by rw[←cL j6.2];exact h4),h1,h2⟩
   have main:=GP (rd:=rd) (K:=wpAnyIn (FR rd) 0 C.P .any ops Q k (listed.setIfInBounds i' true)) (Q:=Q) hg hC ba hΦ hY ml uD hj gQ hρ1 (fun a' w' fh il=>by
        have:(fun u=>kX ops (List.range i') u∨o.dst=some u)=kX ops (List.range (i'+1)):=by
         funext u;apply propext;constructor
         ·rintro(⟨i2,o2,h1,h2,h3⟩|h1)
          ·exact⟨i2,o2,List.mem_range.2 (by have:=List.mem_range.1 h1;omega),h2,h3⟩
          ·exact⟨i',o,List.mem_range.2 (by omega),ho,h1⟩
         ·rintro⟨i2,o2,g1,g2,g3⟩;by_cases e:i2=i'
          ·rw[e,ho] at g2;cases g2;exact .inr g3
          ·exact .inl ⟨i2,o2,List.mem_range.2 (by have:=List.mem_range.1 g1;omega),g2,g3⟩
        rw[this] at fh;refine ih (i'+1) _ (by omega) (by omega) (by simpa using aN) (fun j=>?_) (il.size.trans hn) fh hq hρ2 (fun a2 w2 s2 g2=>hQ a2 w2 ((il.mono fun t e=>⟨o,by simpa using Array.mem_of_getElem? ho,e⟩).trans s2) g2);simp only[Array.getD_eq_getD_getElem?,Array.getElem?_setIfInBounds];by_cases cN:i'=j
        ·subst cN;simp[aN,bE]
        ·rw[if_neg cN];have:=hl j;simp only[Array.getD_eq_getD_getElem?] at this;rw[this];by_cases ak:j<i'
         ·rw[decide_eq_true ak,decide_eq_true (by omega:j<i'+1)]
         ·rw[decide_eq_false ak,decide_eq_false (by omega:¬j<i'+1)])
   simp only[wpOpIn,ho];split
   ·rename_i hw;rw[if_pos hw] at main;exact main
   ·rename_i hw;rw[if_neg hw] at main;exact⟨fun _ _=>trivial,main⟩
end
def TR (C:Ctx)(n:Nat)(ids:List Nat)(ops:Array Oper)(draw:Bool)(S:Snap):Option (Snap×List PI):=
 bif qs n ops then
    bif draw then
     bif Bo ops&&C.P.follows .mixedOrders then
        match YJ C ops (S.st ids) with
        |some r=>some (⟨tG (eW r.1) r.1 S.rs (ops.toList.filterMap (·.dst)),ids.map fun j=>gH r.1 (r.1.o j)⟩,r.2)
        |none=>
        (eH C ops (List.range ops.size) (S.st ids)).bind fun X=>
         (DY ops (RX C ops n ids X (oJ X ops.size)) ops.size [(0,⟨S.rs.map fun s=>kf (S.st ids) (cl s),ids.map fun j=>gH (S.st ids) ((S.st ids).o j)⟩)]).map fun T=>(⟨T.rs.map (eW (T.stO ids)),ids.map fun j=>gH (T.stO ids) ((T.stO ids).o j)⟩,X.flatten)
     else none
    else bif YV ops then(mU C ops (List.range ops.size) (S.st ids)).map fun r=>(⟨tG (eW r.1) r.1 S.rs (ops.toList.filterMap (·.dst)),ids.map fun j=>gH r.1 (r.1.o j)⟩,r.2) else none
 else none
def vZ (ops:Array Oper)(E:Nat):Nat→Prop:=fun t=>∃i o,az E i=true∧ops[i]?=some o∧o.dst=some t
section
variable {C:Ctx} {S:St} {ρ:Env} {σ:Im} {own:Nat→Option Nat} {hv:Nat→Value} {w0:World} {σ0:Base} {A:Nat→Prop} {a:Act} {w:World} {n:Nat} {ids:List Nat} {Φ:aU}
theorem TN {ops:Array Oper}{listed:Array Bool}{E:Nat}(aN:listed.size=ops.size)(hl:∀i,listed.getD i false=az E i)(i:Nat):i∈Region.ready .any ops listed↔i∈nD ops E:=by
 unfold Region.ready nD;simp only[List.mem_filter,List.mem_range];refine and_congr_right fun hi=>?_;have h1:listed.getD i true=az E i:=by
  rw[←hl i];simp only[Array.getD_eq_getD_getElem?];rw[Array.getElem?_eq_getElem (by omega)];rfl
 have h2:ops[i]?=some ops[i]:=Array.getElem?_eq_getElem hi;rw[h1,h2];simp only[Option.map_some,Option.getD_some,←Array.all_toList,hl]
theorem aCO {rd:Option Nat}(hC:CtxOK C σ0)(ba:dt C)(hΦ:cW C Φ)(hY:nP C Φ w0 σ0){a0:Act}(PB:a0.tmps.size=n){ops:Array Oper}(aE:qs n ops=true)(gn:Bo ops=true){X:List (List PI)}{Q:Exit→Act→World→Prop}{ρ':Env}:
 ∀(k:Nat) {L:List (Nat×Snap)} {T:Snap},DY ops (RX C ops n ids X (oJ X ops.size)) k L=some T→
  (∀a' w',SameBut (pz ops) a0 a'→Good C w0 σ0 (T.stO ids) ρ' (fun t=>∃E,vZ ops E t) a' w'→Q .normal a' w')→
  ∀(E:Nat) (U:Snap),(E,U)∈L→∀(listed:Array Bool) (ρ:Env) (a:Act) (w:World),listed.size=ops.size→(∀i,listed.getD i false=az E i)→SameBut (pz ops) a0 a→
   Good C w0 σ0 (U.stO ids) ρ (vZ ops E) a w→PI.runs Φ (dT X (List.range ops.size) E) ρ=some ρ'→wpAnyIn (FR rd) 0 C.P .any ops Q k listed a w:=by
 simp only[qs,Bool.and_eq_true] at aE;have bC:=mG aE.1;intro k
 induction k with
 |zero=>
  intro L T hs hQ E U hm listed ρ a w aN hl hn hg aq;simp only[DY] at hs;split at hs
  case h_2=>cases hs
  rename_i x;cases aR:(List.range ops.size).all (az x.1)<;>simp only[aR,cond_true,cond_false] at hs
  ·cases hs
  cases hs;simp only[List.mem_singleton] at hm;subst hm;simp only at aR hg hQ aq hl;have jB:=List.all_eq_true.1 aR;have Pf:dT X (List.range ops.size) E=[]:=by
   unfold dT;rw[List.flatMap_eq_nil_iff];intro i hi;rw[jB i hi];rfl
  rw[Pf] at aq;simp only[PI.runs,Option.some.injEq] at aq;subst aq;refine⟨?_,hQ a w hn ?_⟩
  ·rw[List.eq_nil_iff_forall_not_mem];intro i hi;rw[TN aN hl] at hi;unfold nD at hi;simp only[List.mem_filter,Bool.and_eq_true,Bool.not_eq_true'] at hi;rw[jB i hi.1] at hi;cases hi.2.1
  ·obtain⟨σ,own,hv,h⟩:=hg;exact⟨σ,own,hv,h.defers,h.ok,h.le,h.old,h.newc,h.newm,h.below,h.bw,h.owns,h.regs,h.objs,fun t gs s e=>⟨fun g hm=>⟨E,(h.opts t gs s e).1 g hm⟩,(h.opts t gs s e).2⟩,h.frame⟩
 |succ k ih=>
  intro L T hs hQ E U hm listed ρ a w aN hl hn hg aq;simp only[DY,Option.bind_eq_some_iff] at hs;obtain⟨L',hL,hs⟩:=hs;obtain⟨_,cP⟩:=aaY hL;obtain⟨aG,P9⟩:=cP _ hm;refine⟨fun he=>?_,fun i hi=>?_⟩
  ·exfalso;refine aG ?_;rw[List.eq_nil_iff_forall_not_mem];intro i hi;rw[←TN aN hl,he] at hi;cases hi
  ·rw[TN aN hl] at hi;obtain⟨y,hy,hyL⟩:=P9 i hi;unfold nD at hi;simp only[List.mem_filter,List.mem_range,Bool.and_eq_true,Bool.not_eq_true'] at hi;obtain⟨bE,de,sv⟩:=hi;simp only[RX] at hy;split at hy
   case h_2=>cases hy
   rename_i o ho;simp only[Option.bind_eq_some_iff] at hy;obtain⟨r,hr,hy⟩:=hy;cases hc:(PI.beqs r.2 (X.getD i [])&&((oJ X ops.size).getD i []).all (az E))<;>simp only[hc,cond_true,cond_false] at hy
   ·cases hy
   cases hy;simp only[Bool.and_eq_true] at hc;have hX:=PI.beqs_eq _ _ hc.1;rw[ag8 bE de hc.2,Option.bind_eq_some_iff] at aq;obtain⟨ρ1,hρ1,hρ2⟩:=aq;rw[←hX] at hρ1;rw[ho] at sv;simp only at sv;have uD:∀d,o.dst=some d→¬vZ ops E d∧d<a.tmps.size:=by
        intro d hd;refine⟨fun⟨i',o',di,dJ,eD⟩=>?_,?_⟩
        ·have aG:i'≠i:=fun e=>by subst e;rw[de] at di;cases di
         exact ud.dst_once bC dJ ho eD hd aG
        ·have:=List.all_eq_true.1 aE.2 o (by simpa using Array.mem_of_getElem? ho);simp only[hd,Bool.and_eq_true] at this;rw[hn.size,PB];simpa [Nat.blt_eq] using this.2
   have ml:rp o.op=true:=by
        have:=List.all_eq_true.1 aE.2 o (by simpa using Array.mem_of_getElem? ho);simp only[Bool.and_eq_true] at this;exact this.1
   have hj:∀j want t,o.guard=some (j,want)→(ops[j]?).bind (·.dst)=some t→vZ ops E t:=by
        intro j want t jD ht;rw[Option.bind_eq_some_iff] at ht;obtain⟨oj,h1,h2⟩:=ht;have sy:=List.all_eq_true.1 gn o (by simpa using Array.mem_of_getElem? ho);simp only[jD] at sy;obtain⟨e,gP,j6⟩:=List.any_eq_true.1 sy;simp only[Bool.and_eq_true] at j6;have h3:=List.all_eq_true.1 sv e gP;rw[j6.1] at h3;simp only[Bool.not_true,Bool.false_or] at h3;exact⟨j,oj,by rw[←cL j6.2];exact h3,h1,h2⟩
   have main:=GP (rd:=rd) (K:=wpAnyIn (FR rd) 0 C.P .any ops Q k (listed.setIfInBounds i true)) (Q:=Q) hg hC ba hΦ hY ml uD hj hr hρ1 (fun a' w' fh pZ=>by
        have hA:(fun u=>vZ ops E u∨o.dst=some u)=vZ ops (Nat.lor E (dw i)):=by
         funext u;apply propext;constructor
         ·rintro(⟨i',o',h1,h2,h3⟩|h1)
          ·exact⟨i',o',by rw[gZ,h1,Bool.true_or],h2,h3⟩
          ·exact⟨i,o,by rw[gZ,Nat.beq_refl,Bool.or_true],ho,h1⟩
         ·rintro⟨i',o',h1,h2,h3⟩;rw[gZ,Bool.or_eq_true] at h1;rcases h1 with h1|h1
          ·exact .inl ⟨i',o',h1,h2,h3⟩
          ·rw[←cL h1,ho] at h2;cases h2;exact .inr h3
        rw[hA] at fh
        refine ih hs hQ _ _ hyL _ ρ1 a' w' (by simpa using aN) (fun j=>?_) (hn.trans (pZ.mono fun t e=>⟨o,by simpa using Array.mem_of_getElem? ho,e⟩)) (by
         have:=fh.snapO U.rs.length ids
         rw[show r.1.snapO U.rs.length ids=⟨tG (kf r.1) r.1 U.rs o.dst.toList,ids.map fun j=>gH r.1 (r.1.o j)⟩ from by
          unfold St.snapO;rw[D1 fun t ht=>?_];rw[X1 hr t (fun e=>ht (by rw[e];simp))];rfl] at this
         exact this) hρ2
        rw[gZ];simp only[Array.getD_eq_getD_getElem?,Array.getElem?_setIfInBounds];by_cases cN:i=j
        ·subst cN;simp[aN,bE]
        ·rw[if_neg cN,ez cN,Bool.or_false,←hl j];simp only[Array.getD_eq_getD_getElem?])
   simp only[wpOpIn,ho];split
   ·rename_i hw;rw[if_pos hw] at main;exact main
   ·rename_i hw;rw[if_neg hw] at main;exact⟨fun _ _=>trivial,main⟩
theorem ahr {ops:Array Oper}:∀{l:List Nat} {S:St} {X:List (List PI)},eH C ops l S=some X→X.length=l.length
 |[],S,X,h=>by simp only[eH,Option.some.injEq] at h;subst h;rfl
 |i::l,S,X,h=>by
  simp only[eH] at h;split at h
  case h_2=>cases h
  simp only[Option.bind_eq_some_iff,Option.map_eq_some_iff] at h;obtain⟨r,_,q,hq,rfl⟩:=h;simp[ahr hq]
theorem ag9 (X:List (List PI)):dT X (List.range X.length) 0=X.flatten:=by
 have h0:∀i,az 0 i=false:=fun i=>by rw[qI];simp
 have key:∀(Y Z:List (List PI)),dT (Y++Z) (List.range' Y.length Z.length) 0=Z.flatten:=by
  intro Y Z
  induction Z generalizing Y with
  |nil=>rfl
  |cons z Z ih=>
   have:=ih (Y++[z]);simp only[List.append_assoc,List.singleton_append,List.length_append,List.length_cons,List.length_nil,Nat.zero_add] at this;rw[List.length_cons,List.range'_succ];have e:dT (Y++z::Z) (Y.length::List.range' (Y.length+1) Z.length) 0=(Y++z::Z).getD Y.length []++dT (Y++z::Z) (List.range' (Y.length+1) Z.length) 0:=by
        unfold dT;rw[List.flatMap_cons,h0];rfl
   rw[e,this,List.flatten_cons]
   congr 1
   simp[List.getD_eq_getElem?_getD]
 have:=key [] X;simp only[List.nil_append,List.length_nil] at this;rw[List.range_eq_range'];exact this
theorem aCs (ba:dt C)(hΦ:cW C Φ):Nc C n ids Φ (TR C n ids):=by
 intro id ops draw S r hr rd w0 σ0 ρ ρ' a w Q hC hY hn hg aq hQ;unfold TR at hr;cases aE:qs n ops<;>simp only[aE,cond_true,cond_false] at hr
 ·cases hr
 cases draw with
 |false=>
  simp only[cond_false] at hr;cases ZF:YV ops<;>simp only[ZF,cond_true,cond_false] at hr
  ·cases hr
  simp only[Option.map_eq_some_iff] at hr;obtain⟨q,hq,rfl⟩:=hr;refine wpIn_region ?_
  have oC:kX ops []=fun _=>False:=by
   funext t;apply propext;constructor
   ·rintro⟨i,o,h,_⟩;cases h
   ·intro h;exact h.elim
  refine ud hC ba hΦ hY aE (List.range ops.size) [] (by simpa using List.nodup_range) (fun p i q o j want hl ho jD=>?_) hn (by rw[oC];exact hg) hq aq (fun a' w' ic fh=>hQ a' w' ic (by
   have:=fh.snapF S.rs.length ids
   rw[show q.1.snap S.rs.length ids=⟨tG (eW q.1) q.1 S.rs (ops.toList.filterMap (·.dst)),ids.map fun j=>gH q.1 (q.1.o j)⟩ from by
        unfold St.snap;rw[D1 fun t ht=>?_];rw[Oj hq t (fun i o hi ho e=>ht (List.mem_filterMap.2 ⟨o,by simpa using Array.mem_of_getElem? ho,e⟩))];show _=eW q.1 (cl (S.rs.getD t .none));cases S.rs.getD t .none<;>rfl] at this
   exact this))
  have hi:i<ops.size:=by
   have:i∈List.range ops.size:=by rw[hl];simp
   exact List.mem_range.1 this
  have hb:=List.all_eq_true.1 ZF i (List.mem_range.2 hi);rw[ho] at hb;simp only[jD,Nat.blt_eq] at hb;have hp:=List.pairwise_lt_range (n:=ops.size);have sB:j∈List.range ops.size:=List.mem_range.2 (by omega);rw[hl,List.pairwise_append] at hp;obtain⟨_,eR,_⟩:=hp;rw[List.pairwise_cons] at eR;rw[hl,List.mem_append] at sB;simp only[List.nil_append];rcases sB with hm|hm
  ·exact hm
  ·rcases List.mem_cons.1 hm with e|hm
   ·omega
   ·have:=eR.1 j hm;omega
 |true=>
  simp only[cond_true] at hr;cases gn:(Bo ops&&C.P.follows .mixedOrders)<;>simp only[gn,cond_true,cond_false] at hr
  ·cases hr
  simp only[Bool.and_eq_true] at gn;have h0:∀i,az 0 i=false:=fun i=>by rw[qI];simp
  split at hr
  case h_1=>
   rename_i r jC;cases hr;generalize Qe:nJ (dg ops ops.size) ops.size=m at*;unfold YJ at jC;rw[Qe] at jC;have awg:m≤ops.size:=Qe▸ahM _ _;have xu:∀i,m≤i→i<ops.size→∀j,j<i→az ((dg ops ops.size).getD i 0) j=true:=Qe▸ahL _ _;rw[Option.bind_eq_some_iff] at jC;obtain⟨q,hq,jC⟩:=jC;cases sD:Bj ops (oJ (q.map (·.2)) m) (dg ops ops.size) m<;>simp only[sD,cond_true,cond_false] at jC
   ·cases jC
   rw[Option.map_eq_some_iff] at jC;obtain⟨r1,gQ,rfl⟩:=jC;refine wpIn_region_any gn.2 ?_
   have oC:tD ops 0=fun _=>False:=by
        funext t;apply propext;constructor
        ·rintro⟨i,o,h,_⟩;rw[h0] at h;cases h
        ·intro h;exact h.elim
   have hlen:(q.map (·.2)).length=m:=by rw[List.length_map];exact(OO hq).1
   have axh:qx ops 0=ops.size:=by
        unfold qx;have:((List.range ops.size).filter fun i=> !az 0 i)=List.range ops.size:=List.filter_eq_self.2 fun i _=>by rw[h0];rfl
        rw[this,List.length_range]
   have BB:(List.range m).filter (az 0)=[]:=List.filter_eq_nil_iff.2 fun i _=>by rw[h0];simp
   simp only[nG,Option.bind_eq_some_iff] at aq;obtain⟨ρ1,hρ1,hρ2⟩:=aq;have PU:=sD;unfold Bj at PU;rw[Bool.and_eq_true] at PU;refine ara (w0:=w0) (S:=S.st ids) hC ba hΦ hY hn aE gn.1 awg hq sD xu (ρ':=ρ1) (fun listed a' w' aN hl ic fh=>?_) ops.size 0 _ ρ a _ axh (fun j hj=>by rw[h0] at hj;cases hj) (fun j _ hj=>by rw[h0] at hj;cases hj) (by simp) (fun i=>?_) (.refl _ _) ?_ ?_
   ·refine aDf hC ba hΦ hY aE gn.1 PU.2 xu (ops.size-m) m listed (by omega) (Nat.le_refl _) aN hl (ic.size.trans hn) fh gQ hρ2 (fun a2 w2 s2 g2=>hQ a2 w2 (ic.trans s2) (by
     have:=g2.snapF S.rs.length ids
     rw[show r1.1.snap S.rs.length ids=⟨tG (eW r1.1) r1.1 S.rs (ops.toList.filterMap (·.dst)),ids.map fun j=>gH r1.1 (r1.1.o j)⟩ from by
      unfold St.snap;rw[D1 fun t ht=>?_];rw[Oj gQ t (fun i o hi ho e=>ht (List.mem_filterMap.2 ⟨o,by simpa using Array.mem_of_getElem? ho,e⟩))]
      have e1:eZ ops (q.map (·.1)) (List.range m) (S.st ids).r t=(S.st ids).r t:=D0 fun i hi e=>by
        rw[Option.bind_eq_some_iff] at e;obtain⟨o,ho,hd⟩:=e;exact ht (List.mem_filterMap.2 ⟨o,by simpa using Array.mem_of_getElem? ho,hd⟩)
      show eW _ (S.rs.getD t .none)=eW _ (eZ ops (q.map (·.1)) (List.range m) (S.st ids).r t);rw[e1];show _=eW _ (cl (S.rs.getD t .none));cases S.rs.getD t .none<;>rfl] at this
     exact this))
   ·rw[h0];simp only[Array.getD_eq_getD_getElem?,Array.getElem?_replicate];split<;>rfl
   ·rw[oC,BB];exact hg.drew
   ·rw[←hlen,ag9];exact hρ1
  simp only[Option.bind_eq_some_iff,Option.map_eq_some_iff] at hr;obtain⟨X,hX,T,hT,rfl⟩:=hr;refine wpIn_region_any gn.2 ?_
  have oC:vZ ops 0=fun _=>False:=by
   funext t;apply propext;constructor
   ·rintro⟨i,o,h,_⟩;rw[h0] at h;cases h
   ·intro h;exact h.elim
  have hlen:=ahr hX;rw[List.length_range] at hlen
  refine aCO (w0:=w0) hC ba hΦ hY hn aE gn.1 (ρ':=ρ') ops.size hT (fun a' w' ic fh=>hQ a' w' ic (by
   have:=fh.snapF T.rs.length ids
   rw[show(T.stO ids).snap T.rs.length ids=⟨T.rs.map (eW (T.stO ids)),ids.map fun j=>gH (T.stO ids) ((T.stO ids).o j)⟩ from by
        unfold St.snap;have:=D1 (g:=eW (T.stO ids)) (S:=T.stO ids) (rs:=T.rs) (ds:=[]) (fun t _=>rfl);rw[←this];rfl] at this
   exact this)) 0 _ (List.mem_singleton.2 rfl) _ ρ a _ (by simp) (fun i=>?_) (.refl _ _) ?_ ?_
  ·rw[h0];simp only[Array.getD_eq_getD_getElem?,Array.getElem?_replicate];split<;>rfl
  ·rw[oC];have:=(hg.drew).snapO S.rs.length ids
   rw[show(S.st ids).snapO S.rs.length ids=⟨S.rs.map fun s=>kf (S.st ids) (cl s),ids.map fun j=>gH (S.st ids) ((S.st ids).o j)⟩ from by
        unfold St.snapO
        have:=D1 (g:=fun s=>kf (S.st ids) (cl s)) (S:=S.st ids) (rs:=S.rs) (ds:=[]) (fun t _=>by
         show kf _ (cl (S.rs.getD t .none))=kf _ (cl (cl (S.rs.getD t .none)));cases S.rs.getD t .none<;>rfl)
        have h2:(fun t=>kf (S.st ids) (cl ((S.st ids).r t)))=fun t=>kf (S.st ids) ((S.st ids).r t):=by
         funext t;show kf _ (cl (cl (S.rs.getD t .none)))=kf _ (cl (S.rs.getD t .none));cases S.rs.getD t .none<;>rfl
        rw[h2] at this;rw[←this];rfl] at this
   exact this
  ·rw[←hlen,ag9];exact aq
end
end Cx
