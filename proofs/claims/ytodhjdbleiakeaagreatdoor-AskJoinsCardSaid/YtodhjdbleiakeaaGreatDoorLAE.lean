/-
  Shared texts of this claim.
-/
import Derived.Test.YtodhjdbleiakeaaGreatDoorLAD
import Derived.Tactics
import Derived.RangeFuncIn
import Derived.OrdersIn
import Derived.RangeFuncRecord
set_option linter.unusedSimpArgs false
set_option linter.unusedVariables false
namespace Cx
open Go Go.RowKit
def lQ:Op→Bool
 |.defer _=>false
 |_=>true
def FR (rd:Option Nat):Fence:={Fence.wide with round:=rd}
theorem Td {rd:Option Nat}{n:Nat}{P:Program}{f:FuncId}{args:Array Value}{w:World}{R:Ending→World→Prop}(h:Calls P f args w R):CallsIn (FR rd) n P f args w R:=
 (callsIn_wide (n:=n)).2 h
theorem Z5 {rd:Option Nat}{n:Nat}{P:Program}{o:Oper}{a:Act}{w:World}{K:Act→World→Prop}{Q:Exit→Act→World→Prop}(aZ:lQ o.op=true)(h:o.wp P a w K Q):o.wpIn (FR rd) n P a w K Q:=by
 refine⟨fun _ _=>trivial,?_⟩;rw[Oper.semAt_eq _ _ _ (fun c e=>by rw[e] at aZ;cases aZ)];unfold Oper.wp at h;generalize (execOp a.eval o).run P w=x at h;have ec:∀{p:Prop},((FR rd).depth.isSome=true→p):=fun e=>by cases e
 cases x with
 |ok v w'=>
  cases v with
  |value v=>exact h
  |skip=>exact h
  |defer d=>exact h
  |enter f args=>
   refine⟨ec,(Td h).mono fun e iM hh=>?_⟩;cases e<;>exact hh
  |row row args=>
   refine⟨ec,fun c cs _=>?_⟩;obtain⟨v,w2,h1,h2⟩:=h c cs;exact⟨v,w2,h1,stepsIn_wide.2 h2⟩
  |_=>exact h.elim
 |halt v w'=>
  cases v with
  |panic v=>exact h
  |_=>exact h.elim
structure SameBut (D:Nat→Prop) (a a':Act):Prop where
 size:a'.tmps.size=a.tmps.size
 get:∀t,¬D t→a'.tmps.getD t undef=a.tmps.getD t undef
theorem SameBut.refl (D:Nat→Prop)(a:Act):SameBut D a a:=⟨rfl,fun _ _=>rfl⟩
theorem SameBut.trans {D:Nat→Prop}{a b c:Act}(h:SameBut D a b)(k:SameBut D b c):SameBut D a c:=⟨k.size.trans h.size,fun t ht=>(k.get t ht).trans (h.get t ht)⟩
theorem SameBut.mono {D D':Nat→Prop}{a b:Act}(h:SameBut D a b)(hd:∀t,D t→D' t):SameBut D' a b:=⟨h.size,fun t ht=>h.get t fun e=>ht (hd t e)⟩
theorem SameBut.put (a:Act)(d:Option Tmp)(v:Value)(ds:List Deferred):SameBut (fun t=>d=some t) a ({a with defers:=ds}.put d v):=by
 refine⟨size_put _ _ _,fun t ht=>?_⟩;cases d with
 |none=>rfl
 |some u=>
  have:t≠u:=fun e=>ht (by rw[e]);rw[B5];simp[this]
theorem Oper.wp_same {P:Program}{o:Oper}{a:Act}{w:World}{K:Act→World→Prop}{Q:Exit→Act→World→Prop}(h:o.wp P a w (fun a' w'=>SameBut (fun t=>o.dst=some t) a a'→K a' w') Q):o.wp P a w K Q:=by
 unfold Oper.wp at h ⊢;generalize (execOp a.eval o).run P w=x at h ⊢;cases x with
 |ok v w'=>
  cases v with
  |value v=>exact h (SameBut.put a _ _ a.defers)
  |skip=>exact h (SameBut.put a _ _ a.defers)
  |defer d=>exact h (SameBut.put a _ _ _)
  |enter f args=>
   refine Calls.mono h fun e iM hh=>?_;cases e with
   |returned v=>exact hh (SameBut.put a _ _ a.defers)
   |panicked c=>exact hh
   |outgrown=>exact hh
  |row row args=>exact Rows.mono h fun v iM hh=>hh (SameBut.put a _ _ a.defers)
  |_=>exact h
 |halt v w'=>
  cases v with
  |panic v=>exact h
  |_=>exact h
def Sn (P:Program)(v:Value)(args:List Value)(w:World)(R:Value→World→Prop):Prop:=
 ∀(rd:Option Nat) (o:Oper) (a:Act) (x:Operand) (aa:Array Operand) (ts:Array TypeId) (K:Act→World→Prop) (Q:Exit→Act→World→Prop),
  o.op=.call {callee:=.value x,args:=aa,argTypes:=ts}→a.eval x=v→aa.toList.map a.eval=args→(∀u w',R u w'→K (a.put o.dst u) w')→o.wpIn (FR rd) 0 P a w K Q
def kD:Nat:=1000000009
def mf (C:Ctx)(Φ:aL)(w0:World)(σ0:Base):Prop:=∀J ys,C.yl=some (J,ys)→σ0.B=0∧(∀t fx cx w,σ0.F t fx cx w→∃xs,t=.list xs)∧
 ∀(xs ds':List D) (d:D),Φ kD [.list (xs++[.tup ds'])]=some d→∀(fx cx:Nat→Prop) (w1:World) (σ1:Im) (args:List Value),σ0.F (.list xs) fx cx w1→σ1.ok w1→nj C σ1 ys args ds'→
  (∀k o x,σ1.c k o=some x→¬cx k)→(∀k x,σ1.m k=some x→¬cx k)→
  (∀k o x,σ1.c k o=some x→σ0.c k o=some x∨w0.heap.size≤k)→(∀k x,σ1.m k=some x→σ0.m k=some x∨w0.heap.size≤k)→
  Sn C.P C.yv args w1 fun u w2=>∃b,d=.v (.bool b)∧u=.bool b∧Below 0 w1 w2∧(∀k,k<w1.heap.size→¬cx k→w2.heap[k]?=w1.heap[k]?)∧
   ∃kL ia,σ0.F (.list (xs++[.tup ds'])) kL ia w2∧(∀k,kL k→k<w1.heap.size→fx k∨(∃o x,σ1.c k o=some x)∨(∃x,σ1.m k=some x∧x≠cu))∧(∀k,ia k→k<w1.heap.size→cx k)
def Iy (gs:List (Nat×Bool))(J:Nat)(x:PE):PE:=
 match gs with
 |[]=>.app (.o J) (.lst [x])
 |_=>.pick (.nt (.imp gs (.con (.v (.bool false))))) (.app (.o J) (.lst [x])) (.o J)
def ux (C:Ctx)(S:St)(ops:Array Oper)(o:Oper):Option (St×List PI):=
 match o.dst,o.op,C.yl with
 |some dst,.call {callee:=.value (.tmp t),args:=args,..},some (J,ys)=>
  (mE S ops o).bind fun gs=>
    match jt S gs t with
    |.yv=>
     match(S.fzs (bS S gs args.toList)).o J with
     |.tr=>
      (jQ C (S.fzs (bS S gs args.toList)) gs args.toList).bind fun u=>
        bif Ty.subs u.1 ys then some ((S.fzs (bS S gs args.toList)).setR dst (gu gs (.dat .bool)),[.setO J (Iy gs J (.tup u.2)),.call gs dst kD [.o J]]) else none
     |_=>none
    |_=>none
 |_,_,_=>none
def mu (C:Ctx)(S:St)(ops:Array Oper)(o:Oper):Option (St×List PI):=
 match ux C S ops o with
 |some r=>some r
 |none=>uw C S ops o
section
variable {C:Ctx} {S:St} {ρ:Env} {σ:Im} {own:Nat→Option Nat} {hv:Nat→Value} {w0:World} {σ0:Base} {A:Nat→Prop} {a:Act} {w:World} {gs:List (Nat×Bool)} {Φ:aL} {dst:Nat}
theorem au6 (gs:List (Nat×Bool))(J:Nat)(x:PE)(ρ:Env):(Iy gs J x).ev ρ=if holds gs ρ=true then .list ((ρ.o J).l++[x.ev ρ]) else ρ.o J:=by
 cases gs with
 |nil=>simp[Iy,PE.ev,PE.evs,holds,D.l_list]
 |cons g gs=>
  simp only[Iy,PE.ev,PE.evs,D.b_bool,D.l_list,Bool.or_false,Bool.not_not];cases holds (g::gs) ρ<;>rfl
theorem Inv.yielded (h:Inv C S ρ σ own hv w0 σ0 A a w)(hB:σ0.B=0){J:Nat}{ys:List Ty}(hJ:C.yl=some (J,ys))(DW:S.o J=.tr){w2:World}(hb:Below 0 w w2){t:D}{fx cx:Nat→Prop}(hf:FrOK σ own w0.heap.size σ0 w t fx cx)
 (hs:∀k,k<w.heap.size→¬cx k→w2.heap[k]?=w.heap[k]?) {t':D} {kL ia:Nat→Prop} (hF:σ0.F t' kL ia w2)
 (h1:∀k,kL k→k<w.heap.size→fx k∨(∃o x,σ.c k o=some x)∨(∃x,σ.m k=some x∧x≠cu)) (h2:∀k,ia k→k<w.heap.size→cx k):Inv C S (ρ.setO J t') σ own hv w0 σ0 A a w2:=by
 have bV:=σ0.sub _ _ _ _ hf.F;have dX:∀k o x,σ.c k o=some x→w2.heap[k]?=w.heap[k]?:=fun k o x e=>hs k (h.lt e) (hf.c k o x e);have vc:∀k x,σ.m k=some x→w2.heap[k]?=w.heap[k]?:=fun k x e=>hs k (h.ltm e) (hf.m k x e);have Ly:∀k j,own k=some j→w2.heap[k]?=w.heap[k]?:=fun k j e=>hs k (h.owns k j e).2.1 fun hc=>hf.own k j e (bV k hc)
 refine⟨h.defers,⟨fun k o v e=>by rw[World.cell?_of_block (dX k o v e)];exact h.ok.c k o v e,fun k x e=>(h.ok.m k x e).keep (vc k x e)⟩,h.le,h.old,h.newc,h.newm,h.below.trans (hb.mono (by omega)),h.bw,
  fun k j e=>let⟨g1,g2,g3⟩:=h.owns k j e;⟨g1,Nat.lt_of_lt_of_le g2 hb.size,g3⟩,fun u=>aI.mono (S:=S) (ρ:=ρ) (ρ':=ρ.setO J t') (.refl σ) (.refl S hv) (d:=ρ.r u) (fun _ _ _=>rfl) (fun gs s e=>(h.opts u gs s e).2) (h.regs u),fun j=>?_,h.opts,
  t',kL,ia,⟨hF,fun k j e hk=>?_,fun k o x e hc=>hf.c k o x e (h2 k hc (h.lt e)),fun k x e hc=>hf.m k x e (h2 k hc (h.ltm e)),fun k e Kz hk=>?_⟩,fun j hj=>?_⟩
 ·by_cases u7:j=J
  ·subst u7;rw[DW];trivial
  ·exact(h.objs j).mono (.refl σ) (.refl S hv) rfl (by simp[Env.setO,bl _ _ u7]) (fun k e=>⟨e,Ly k j e⟩)
 ·obtain⟨_,g2,g3,g4⟩:=h.owns k j e;rcases h1 k hk g2 with e1|⟨o,x,e1⟩|⟨x,e1,_⟩
  ·exact hf.own k j e e1
  ·rw[g3 o] at e1;cases e1
  ·rw[g4] at e1;cases e1
 ·rcases h1 k hk (h.ltm e) with e1|⟨o,x,e1⟩|⟨x,e1,e2⟩
  ·exact hf.d k e Kz e1
  ·have c1:=h.ok.c k o x e1;rcases h.ok.m k _ e with⟨m1,_⟩|⟨_,m2⟩
   ·exact m1 rfl
   ·simp[World.cell?,m2] at c1
  ·rw[e] at e1;cases e1;exact e2 rfl
 ·obtain⟨_,_,_,_,ht⟩:=h.frame;obtain⟨⟨ys',e1⟩,_⟩:=ht j hj;rw[hJ] at e1;cases e1;exact⟨⟨_,hJ⟩,aP _ _ _⟩
theorem ah1 {rd:Option Nat}(h:Good C w0 σ0 S ρ A a w)(hC:CtxOK C σ0)(hY:mf C Φ w0 σ0){ops:Array Oper}{o:Oper}(ht:∀d,o.dst=some d→¬A d∧d<a.tmps.size)
 (hj:∀j want t,o.guard=some (j,want)→(ops[j]?).bind (·.dst)=some t→A t) {r:St×List PI} (hr:ux C S ops o=some r) {ρ':Env} (aj:PI.runs Φ r.2 ρ=some ρ')
 {K:Act→World→Prop} {Q:Exit→Act→World→Prop} (hK:∀a' w',Good C w0 σ0 r.1 ρ' (fun u=>A u∨o.dst=some u) a' w'→SameBut (fun t=>o.dst=some t) a a'→K a' w'):
 if Region.wanted o (yielded ops a.tmps) then o.wpIn (FR rd) 0 C.P a w K Q else K (a.put o.dst undef) w:=by
 unfold ux at hr;split at hr
 case h_2=>cases hr
 rename_i _ _ dst t args ts J ys hd bE ix;simp only[Option.bind_eq_some_iff] at hr;obtain⟨gs,df,hr⟩:=hr;split at hr
 case h_2=>cases hr
 rename_i Af;split at hr
 case h_2=>cases hr
 rename_i DW;simp only[Option.bind_eq_some_iff] at hr;obtain⟨u,hu,hr⟩:=hr;cases bV:Ty.subs u.1 ys<;>simp only[bV,cond_true,cond_false] at hr
 ·cases hr
 cases hr;have uY:=UH h df hj;rw[UI h df];obtain⟨σ,own,hv,i⟩:=h;obtain⟨σ1,da,hle,i1⟩:=Inv.fzs (bS S gs args.toList) i;obtain⟨t1,t2⟩:=ht dst hd;have gQ:(fun u=>A u∨o.dst=some u)=(fun u=>A u∨u=dst):=by funext u;rw[hd];simp[eq_comm]
 rw[gQ] at hK;simp only[PI.runs,PI.run,Option.bind_some,au6,Option.bind_eq_some_iff] at aj;cases hh:holds gs ρ with
 |false=>
  simp only[hh,Bool.false_eq_true,if_false] at aj ⊢;have e1:ρ.setO J (ρ.o J)=ρ:=by
   cases ρ with|mk r o=>simp only[Env.setO];congr 1;funext x;rw[fb];split<;>simp_all
  rw[e1,hh] at aj;obtain⟨ρ1,e2,e3⟩:=aj;cases e2;cases e3;cases gs with
  |nil=>simp[holds] at hh
  |cons g bA=>
   have zT:=i1.passed t1 t2 uY hh (s:=.dat .bool) (fun _ _ e=>by cases e) (ρ.r dst);have e4:ρ.setR dst (ρ.r dst)=ρ:=by
        cases ρ with|mk r o=>simp only[Env.setR];congr 1;funext x;rw[fb];split<;>simp_all
   rw[e4] at zT;rw[hd];exact hK _ _ ⟨_,_,_,zT⟩ (by rw[hd];exact SameBut.put a (some dst) undef a.defers)
 |true=>
  simp only[hh,if_true] at aj ⊢;have gO:=IN i1 hC hh hu bV;obtain⟨tr,fx,cx,hf,pk⟩:=i1.frame;obtain⟨_,hρJ⟩:=pk J DW;obtain⟨hB,anz,L8⟩:=hY J ys ix;obtain⟨xs,rfl⟩:=anz _ _ _ _ hf.F;rw[hρJ] at aj;simp only[D.l_list,PE.ev] at aj;obtain⟨ρ1,e2,e3⟩:=aj;cases e3;have Vn:holds gs (ρ.setO J (.list (xs++[.tup (PE.evs ρ u.2)])))=true:=hh;rw[Vn] at e2;simp only[cond_true,PE.evs,PE.ev,Env.setO,aP,Option.map_eq_some_iff] at e2;obtain⟨d,e4,e5⟩:=e2;have hy:=L8 xs (PE.evs ρ u.2) d e4 fx cx w σ1 (args.toList.map a.eval) hf.F i1.ok gO hf.c hf.m i1.newc i1.newm;have cj:a.eval (.tmp t)=C.yv:=by
   have:=(l7 i hh t).1;rw[Af] at this;have h9:a.tmps.getD t undef=C.yv:=this;simpa [Act.eval] using h9
  refine hy rd o a (.tmp t) args ts K Q bE cj rfl fun v w2 iu=>?_;obtain⟨b,rfl,rfl,hb,hs,kL,ia,hF,h1,h2⟩:=iu;have i2:=i1.yielded hB ix DW hb hf hs hF h1 h2;refine hK _ _ ?_ (SameBut.put a _ _ a.defers);rw[hd,←e5];change Good C w0 σ0 _ ((ρ.setO J (.list (xs++[.tup (PE.evs ρ u.2)]))).setR dst (.v (.bool b))) _ _ _;have hh3:holds gs ((ρ.setO J (.list (xs++[.tup (PE.evs ρ u.2)]))).setR dst (.v (.bool b)))=true:=by
   rw[zP (t:=dst) fun g hm e=>t1 (by rw[←e];exact uY g hm)];exact Vn
  cases gs with
  |nil=>exact⟨_,_,_,i2.setReg t1 (s:=.dat .bool) (.bool b) t2 (fun _ _ e=>by cases e)⟩
  |cons g bA=>
   refine⟨_,_,_,i2.setReg t1 (s:=.opt (g::bA) (.dat .bool)) ⟨fun _=>.bool b,fun e=>absurd (hh3.symm.trans e) (by decide)⟩ t2 (fun gs s e=>?_)⟩;cases e;exact⟨uY,fun _ _ e=>by cases e⟩
theorem Dw {rd:Option Nat}(h:Good C w0 σ0 S ρ A a w)(hC:CtxOK C σ0)(aX:db C)(hΦ:cM C Φ)(hY:mf C Φ w0 σ0){ops:Array Oper}{o:Oper}(aZ:lQ o.op=true)(ht:∀d,o.dst=some d→¬A d∧d<a.tmps.size)
 (hj:∀j want t,o.guard=some (j,want)→(ops[j]?).bind (·.dst)=some t→A t) {r:St×List PI} (hr:mu C S ops o=some r) {ρ':Env} (aj:PI.runs Φ r.2 ρ=some ρ')
 {K:Act→World→Prop} {Q:Exit→Act→World→Prop} (hK:∀a' w',Good C w0 σ0 r.1 ρ' (fun u=>A u∨o.dst=some u) a' w'→SameBut (fun t=>o.dst=some t) a a'→K a' w'):
 if Region.wanted o (yielded ops a.tmps) then o.wpIn (FR rd) 0 C.P a w K Q else K (a.put o.dst undef) w:=by
 unfold mu at hr;split at hr
 ·rename_i q hq;cases hr;exact ah1 h hC hY ht hj hq aj hK
 ·have:=ah0 (K:=fun a' w'=>SameBut (fun t=>o.dst=some t) a a'→K a' w') (Q:=Q) h hC aX hΦ ht hj hr aj (fun a' w' g _ hs=>hK a' w' g hs);split
  ·rename_i hw;rw[if_pos hw] at this;exact Z5 aZ (Oper.wp_same this)
  ·rename_i hw;rw[if_neg hw] at this;exact this (SameBut.put a _ _ a.defers)
end
def lx (C:Ctx)(ops:Array Oper):List Nat→St→Option (St×List PI)
 |[],S=>some (S,[])
 |i::l,S=>
  match ops[i]? with
  |some o=>(mu C S ops o).bind fun r=>(lx C ops l r.1).map fun q=>(q.1,r.2++q.2)
  |none=>none
def og (n:Nat)(ops:Array Oper):Bool:=
 gX (ops.toList.filterMap (·.dst))&&ops.toList.all fun o=>lQ o.op&&match o.dst with|some d=>Nat.blt d n|none=>true
section
variable {C:Ctx} {S:St} {ρ:Env} {σ:Im} {own:Nat→Option Nat} {hv:Nat→Value} {w0:World} {σ0:Base} {A:Nat→Prop} {a:Act} {w:World} {gs:List (Nat×Bool)} {Φ:aL} {dst:Nat}
def jO (ops:Array Oper)(done:List Nat):Nat→Prop:=fun t=>∃i o,i∈done∧ops[i]?=some o∧o.dst=some t
theorem rP.dst_once {ops:Array Oper}(aZ:(ops.toList.filterMap (·.dst)).Nodup){i j:Nat}{o o':Oper}{d:Nat}(hi:ops[i]?=some o)(hj:ops[j]?=some o')(hd:o.dst=some d)(eC:o'.dst=some d)(aB:i≠j):False:=by
 have key:∀(l:List Oper),(l.filterMap (·.dst)).Nodup→∀(i j:Nat) (o o':Oper),l[i]?=some o→l[j]?=some o'→o.dst=some d→o'.dst=some d→i=j:=by
  intro l
  induction l with
  |nil=>intro _ i j o o' hi;simp at hi
  |cons x l ih=>
   intro aZ i j o o' hi hj hd eC;have cE:∀(k:Nat) (y:Oper),l[k]?=some y→y.dst=some d→d∈l.filterMap (·.dst):=fun k y hk hy=>List.mem_filterMap.2 ⟨y,List.mem_of_getElem? hk,hy⟩;cases hx:x.dst with
   |none=>
    rw[List.filterMap_cons_none hx] at aZ;cases i with
    |zero=>simp at hi;subst hi;rw[hx] at hd;cases hd
    |succ i=>
     cases j with
     |zero=>simp at hj;subst hj;rw[hx] at eC;cases eC
     |succ j=>simp at hi hj;rw[ih aZ i j o o' hi hj hd eC]
   |some y=>
    rw[List.filterMap_cons_some hx,List.nodup_cons] at aZ;cases i with
    |zero=>
     simp at hi;subst hi;rw[hx] at hd;cases hd;cases j with
     |zero=>rfl
     |succ j=>simp at hj;exact absurd (cE j o' hj eC) aZ.1
    |succ i=>
     cases j with
     |zero=>
      simp at hj;subst hj;rw[hx] at eC;cases eC;simp at hi;exact absurd (cE i o hi hd) aZ.1
     |succ j=>simp at hi hj;rw[ih aZ.2 i j o o' hi hj hd eC]
 exact aB (key ops.toList aZ i j o o' (by simpa using hi) (by simpa using hj) hd eC)
def ns (ops:Array Oper):Nat→Prop:=fun t=>∃o,o∈ops.toList∧o.dst=some t
theorem rP (hC:CtxOK C σ0)(aX:db C)(hΦ:cM C Φ)(hY:mf C Φ w0 σ0){ops:Array Oper}{n:Nat}(ax:og n ops=true){rd:Option Nat}{Q:Exit→Act→World→Prop}:
 ∀(l done:List Nat) {S:St} {ρ ρ':Env} {a:Act} {w:World} {r:St×List PI},(done++l).Nodup→(∀p i q o j want,l=p++i::q→ops[i]?=some o→o.guard=some (j,want)→j∈done++p)→
  a.tmps.size=n→Good C w0 σ0 S ρ (jO ops done) a w→lx C ops l S=some r→PI.runs Φ r.2 ρ=some ρ'→
  (∀a' w',SameBut (ns ops) a a'→Good C w0 σ0 r.1 ρ' (jO ops (done++l)) a' w'→Q .normal a' w')→wpOpsIn (FR rd) 0 C.P ops Q l a w:=by
 simp only[og,Bool.and_eq_true] at ax;have aZ:=ld ax.1;intro l
 induction l with
 |nil=>
  intro done S ρ ρ' a w r _ _ aK h hr aj hQ;simp only[lx,Option.some.injEq] at hr;subst hr;rw[lj aj] at hQ;simp only[wpOpsIn];exact hQ a w (.refl _ _) (by simpa using h)
 |cons i l ih=>
  intro done S ρ ρ' a w r KR il aK h hr aj hQ;simp only[lx] at hr;split at hr
  case h_2=>cases hr
  rename_i o ho;simp only[Option.bind_eq_some_iff,Option.map_eq_some_iff] at hr;obtain⟨r1,gi,q,hq,rfl⟩:=hr;simp only[l5,Option.bind_eq_some_iff] at aj;obtain⟨ρ1,hρ1,hρ2⟩:=aj;have sl:∀d,o.dst=some d→¬jO ops done d∧d<a.tmps.size:=by
   intro d hd;refine⟨fun⟨i',o',cV,dq,eC⟩=>?_,?_⟩
   ·
        have aB:i'≠i:=by
         intro e;subst e;rw[List.nodup_append] at KR;exact KR.2.2 i' cV i' (List.mem_cons_self ..) rfl
        exact rP.dst_once aZ dq ho eC hd aB
   ·have:=List.all_eq_true.1 ax.2 o (by
     have:=Array.mem_of_getElem? ho;simpa using this)
    simp only[hd,Bool.and_eq_true] at this;rw[aK];simpa [Nat.blt_eq] using this.2
  have hj:∀j want t,o.guard=some (j,want)→(ops[j]?).bind (·.dst)=some t→jO ops done t:=by
   intro j want t hg ht;have:=il [] i l o j want rfl ho hg;simp only[List.append_nil] at this;rw[Option.bind_eq_some_iff] at ht;obtain⟨oj,h1,h2⟩:=ht;exact⟨j,oj,this,h1,h2⟩
  have gR:lQ o.op=true:=by
   have:=List.all_eq_true.1 ax.2 o (by simpa using Array.mem_of_getElem? ho);simp only[Bool.and_eq_true] at this;exact this.1
  have main:=Dw (rd:=rd) (K:=wpOpsIn (FR rd) 0 C.P ops Q l) (Q:=Q) h hC aX hΦ hY gR sl hj gi hρ1 (fun a' w' eD fB=>by
   have nL:=fB.size;refine ih (done++[i]) (by simpa using KR) (fun p i' q' o' j want e dq am7=>?_) (nL.trans aK) ?_ hq hρ2 (fun a2 w2 s2 g2=>hQ a2 w2 ((fB.mono fun t e=>⟨o,by simpa using Array.mem_of_getElem? ho,e⟩).trans s2) (by simpa using g2))
   ·have:=il (i::p) i' q' o' j want (by rw[e];rfl) dq am7;simpa using this
   ·have:(fun u=>jO ops done u∨o.dst=some u)=jO ops (done++[i]):=by
     funext u;apply propext;constructor
     ·rintro(⟨i',o',h1,h2,h3⟩|h1)
      ·exact⟨i',o',by simp[h1],h2,h3⟩
      ·exact⟨i,o,by simp,ho,h1⟩
     ·rintro⟨i',o',h1,h2,h3⟩;rcases List.mem_append.1 h1 with h4|h4
      ·exact .inl ⟨i',o',h4,h2,h3⟩
      ·simp at h4;subst h4;rw[ho] at h2;cases h2;exact .inr h3
    rw[←this];exact eD)
  simp only[wpOpsIn,ho];split
  ·rename_i hw;rw[if_pos hw] at main;exact main
  ·rename_i hw;rw[if_neg hw] at main;exact⟨fun _ _=>trivial,main⟩
end
end Cx
namespace Cx
open Go Go.RowKit
def ei (S:St):Sh→Sh
 |.none=>.none
 |.dat t=>.dat t
 |.obj j ver=>bif Nat.beq ver (S.ver j) then .obj j 0 else .none
 |.ptr j ver off=>bif Nat.beq ver (S.ver j) then .ptr j 0 off else .none
 |.eptr j ver size off=>bif Nat.beq ver (S.ver j) then .eptr j 0 size off else .none
 |.opt _ _=>.none
 |.yv=>.yv
 |.fclo f caps=>bif caps.all (fun c=>Nat.beq c.2 (S.ver c.1)) then .fclo f (caps.map fun c=>(c.1,0)) else .none
def fV (S:St):Ob→Ob
 |.box ag shs=>.box ag (shs.map (ei S))
 |ob=>ob
def St.norm (S:St):St:=⟨fun t=>ei S (S.r t),fun j=>fV S (S.o j),fun _=>0⟩
def gF:Sh→Sh→Sh
 |.dat a,.dat b=>bif Ty.sub a b then .dat b else bif Ty.sub b a then .dat a else .none
 |.obj j v,.obj k u=>bif Nat.beq j k&&Nat.beq v u then .obj j v else .none
 |.ptr j v o,.ptr k u p=>bif Nat.beq j k&&Nat.beq v u&&Nat.beq o p then .ptr j v o else .none
 |.eptr j v s o,.eptr k u t p=>bif Nat.beq j k&&Nat.beq v u&&Nat.beq s t&&Nat.beq o p then .eptr j v s o else .none
 |.yv,.yv=>.yv
 |.fclo f a,.fclo g b=>bif Nat.beq f g&&rL a b then .fclo f a else .none
 |_,_=>.none
def s9:List Sh→List Sh→Option (List Sh)
 |[],[]=>some []
 |a::aa,b::bs=>(s9 aa bs).map (gF a b::·)
 |_,_=>none
def lb:Ob→Ob→Ob
 |.fz a,.fz b=>bif Ty.beq a b then .fz a else .dead
 |.fbox a,.fbox b=>bif Ty.beq a b then .fbox a else .dead
 |.box ag aa,.box bg bs=>bif ag==bg then(match s9 aa bs with|some cs=>.box ag cs|none=>.dead) else .dead
 |.row T e,.row U f=>bif Nat.beq T U&&Ty.beq e f then .row T e else .dead
 |.mp k e,.mp l f=>bif Ty.beq k l&&Ty.beq e f then .mp k e else .dead
 |.it k e,.it l f=>bif Ty.beq k l&&Ty.beq e f then .it k e else .dead
 |.tr,.tr=>.tr
 |_,_=>.dead
section
variable {C:Ctx} {S:St} {ρ:Env} {σ:Im} {own:Nat→Option Nat} {hv:Nat→Value} {w0:World} {σ0:Base} {A:Nat→Prop} {a:Act} {w:World} {gs:List (Nat×Bool)} {Φ:aL} {dst:Nat}
theorem E7 {s:Sh}{v:Value}{d:D}(h:aI C S ρ σ hv s v d):aI C S.norm ρ σ hv (ei S s) v d∧∀gs s',ei S s≠.opt gs s':=by
 cases s with
 |none=>exact⟨trivial,fun _ _ e=>by cases e⟩
 |dat t=>exact⟨h,fun _ _ e=>by cases e⟩
 |obj j ver=>
  simp only[ei];cases hb:Nat.beq ver (S.ver j)
  ·exact⟨trivial,fun _ _ e=>by cases e⟩
  ·exact⟨⟨Nat.le_refl _,fun _=>h.2 (Nat.eq_of_beq_eq_true hb)⟩,fun _ _ e=>by cases e⟩
 |ptr j ver off=>
  simp only[ei];cases hb:Nat.beq ver (S.ver j)
  ·exact⟨trivial,fun _ _ e=>by cases e⟩
  ·exact⟨⟨Nat.le_refl _,fun _=>h.2 (Nat.eq_of_beq_eq_true hb)⟩,fun _ _ e=>by cases e⟩
 |eptr j ver size off=>
  simp only[ei];cases hb:Nat.beq ver (S.ver j)
  ·exact⟨trivial,fun _ _ e=>by cases e⟩
  ·exact⟨⟨Nat.le_refl _,fun _=>h.2 (Nat.eq_of_beq_eq_true hb)⟩,fun _ _ e=>by cases e⟩
 |opt gs s=>exact⟨trivial,fun _ _ e=>by cases e⟩
 |yv=>exact⟨h,fun _ _ e=>by cases e⟩
 |fclo f caps=>
  simp only[ei];cases hb:caps.all (fun c=>Nat.beq c.2 (S.ver c.1))
  ·exact⟨trivial,fun _ _ e=>by cases e⟩
  ·refine⟨?_,fun _ _ e=>by cases e⟩;obtain⟨vs,h1,h2,h3⟩:=h;refine⟨vs,h1,by simpa using h2,fun i j ver hi=>?_⟩;simp only[List.getElem?_map,Option.map_eq_some_iff] at hi;obtain⟨⟨j',v'⟩,hc,e⟩:=hi;cases e;have:=List.all_eq_true.1 hb _ (List.mem_of_getElem? hc);exact⟨Nat.le_refl _,fun _=>(h3 i _ _ hc).2 (Nat.eq_of_beq_eq_true this)⟩
theorem Inv.weaken (h:Inv C S ρ σ own hv w0 σ0 A a w){S':St}{ρ':Env}(hr:∀t,aI C S' ρ' σ hv (S'.r t) (a.tmps.getD t undef) (ρ'.r t))(ho:∀j,bQ C S' ρ' σ own hv w w0.heap.size j (S'.o j))
 (hn:∀t gs s,S'.r t≠.opt gs s) (ht:∀j,S'.o j=.tr→S.o j=.tr∧ρ'.o j=ρ.o j):Inv C S' ρ' σ own hv w0 σ0 (fun _=>False) a w:=
 ⟨h.defers,h.ok,h.le,h.old,h.newc,h.newm,h.below,h.bw,h.owns,hr,ho,fun t gs s e=>absurd e (hn t gs s),by
   obtain⟨t,fx,cx,h1,h5⟩:=h.frame;exact⟨t,fx,cx,h1,fun j hj=>by rw[(ht j hj).2];exact h5 j (ht j hj).1⟩⟩
theorem YA {ob:Ob}(h:fV S ob=.tr):ob=.tr:=by
 cases ob<;>simp only[fV] at h<;>first|rfl|cases h
theorem arJ {x y:Ob}(h:lb x y=.tr):x=.tr∧y=.tr:=by
 cases x<;>cases y<;>simp only[lb] at h<;>first
  |exact⟨rfl,rfl⟩
  |(cases h;done)
  |skip
 ·rename_i a b;cases hb:Ty.beq a b<;>rw[hb] at h<;>cases h
 ·rename_i a b;cases hb:Ty.beq a b<;>rw[hb] at h<;>cases h
 ·rename_i ag aa bg bs;cases hb:ag==bg<;>rw[hb] at h
  ·cases h
  ·simp only[cond_true] at h;split at h<;>cases h
 ·rename_i T e U f;cases hb:(Nat.beq T U&&Ty.beq e f)<;>rw[hb] at h<;>cases h
 ·rename_i T e U f;cases hb:(Ty.beq T U&&Ty.beq e f)<;>rw[hb] at h<;>cases h
 ·rename_i T e U f;cases hb:(Ty.beq T U&&Ty.beq e f)<;>rw[hb] at h<;>cases h
theorem Inv.norm (h:Inv C S ρ σ own hv w0 σ0 A a w):Inv C S.norm ρ σ own hv w0 σ0 (fun _=>False) a w:=by
 refine h.weaken (fun t=>(E7 (h.regs t)).1) (fun j=>?_) (fun t=>(E7 (h.regs t)).2) (fun j hj=>⟨YA hj,rfl⟩);have ba:=h.objs j;show bQ C S.norm ρ σ own hv w w0.heap.size j (fV S (S.o j));cases cn:S.o j with
 |box ag shs=>
  rw[cn] at ba;obtain⟨k,cs,T,ds,h1,h2,h3,h4,h5,h6,h7⟩:=ba;refine⟨k,cs,T,ds,h1,h2,h3,by simpa using h4,h5,by simpa using h6,fun i s hi=>?_⟩;simp only[List.getElem?_map,Option.map_eq_some_iff] at hi;obtain⟨s0,hs0,rfl⟩:=hi;have:=E7 (h7 i s0 hs0).2;exact⟨this.2,this.1⟩
 |_=>rw[cn] at ba;exact ba
theorem Cn {b:Bool}{s:Sh}{v:Value}{d:D}(hs:∀gs s',s≠.opt gs s')(h:b=true→aI C S ρ σ hv s v d):aI C S ρ σ hv (bif b then s else .none) v d∧∀gs s',(bif b then s else Sh.none)≠.opt gs s':=by
 cases b with
 |true=>exact⟨h rfl,hs⟩
 |false=>exact⟨trivial,fun _ _ e=>by cases e⟩
theorem W4 {s u:Sh}{v:Value}{d:D}(h:aI C S ρ σ hv s v d):aI C S ρ σ hv (gF s u) v d∧∀gs s',gF s u≠.opt gs s':=by
 cases s<;>cases u<;>simp only[gF]<;>first
  |exact⟨trivial,fun _ _ e=>by cases e⟩
  |exact Cn (fun _ _ e=>by cases e) (fun _=>h)
  |exact⟨h,fun _ _ e=>by cases e⟩
  |skip
 rename_i a b;cases h1:Ty.sub a b
 ·exact Cn (fun _ _ e=>by cases e) (fun _=>h)
 ·exact⟨Rep.sub h h1,fun _ _ e=>by cases e⟩
theorem W5 {s u:Sh}{v:Value}{d:D}(h:aI C S ρ σ hv u v d):aI C S ρ σ hv (gF s u) v d∧∀gs s',gF s u≠.opt gs s':=by
 cases s<;>cases u<;>simp only[gF]<;>first
  |exact⟨trivial,fun _ _ e=>by cases e⟩
  |exact⟨h,fun _ _ e=>by cases e⟩
  |skip
 ·rename_i a b;cases h1:Ty.sub a b
  ·exact Cn (fun _ _ e=>by cases e) (fun h2=>Rep.sub h h2)
  ·exact⟨h,fun _ _ e=>by cases e⟩
 all_goals
  refine Cn (fun _ _ e=>by cases e) (fun hb=>?_);simp only[Bool.and_eq_true] at hb
  first
   |(obtain⟨⟨⟨h1,h2⟩,h3⟩,h4⟩:=hb;rw[Nat.eq_of_beq_eq_true h1,Nat.eq_of_beq_eq_true h2,Nat.eq_of_beq_eq_true h3,Nat.eq_of_beq_eq_true h4];exact h)
   |(obtain⟨⟨h1,h2⟩,h3⟩:=hb;rw[Nat.eq_of_beq_eq_true h1,Nat.eq_of_beq_eq_true h2,Nat.eq_of_beq_eq_true h3];exact h)
   |(obtain⟨h1,h2⟩:=hb;rw[Nat.eq_of_beq_eq_true h1,Nat.eq_of_beq_eq_true h2];exact h)
   |(obtain⟨h1,h2⟩:=hb;rw[Nat.eq_of_beq_eq_true h1,JU _ _ h2];exact h)
theorem MU:∀(aa bs cs:List Sh),s9 aa bs=some cs→cs.length=aa.length∧cs.length=bs.length∧∀(i:Nat) (c:Sh),cs[i]?=some c→∃x y,aa[i]?=some x∧bs[i]?=some y∧c=gF x y
 |[],[],cs,h=>by simp[s9] at h;subst h;simp
 |[],b::bs,cs,h=>by simp[s9] at h
 |a::aa,[],cs,h=>by simp[s9] at h
 |a::aa,b::bs,cs,h=>by
  simp only[s9,Option.map_eq_some_iff] at h;obtain⟨ds,hd,rfl⟩:=h;obtain⟨h1,h2,h3⟩:=MU aa bs ds hd;refine⟨by simp[h1],by simp[h2],fun i c hi=>?_⟩;cases i with
  |zero=>simp at hi;exact⟨a,b,rfl,rfl,hi.symm⟩
  |succ i=>simp at hi;simpa using h3 i c hi
theorem arG {j B:Nat}{x y:Ob}(h:bQ C S ρ σ own hv w B j x):bQ C S ρ σ own hv w B j (lb x y):=by
 cases x<;>cases y<;>simp only[lb]<;>first
  |trivial
  |(rename_i a b;cases Ty.beq a b;·trivial
    ·exact h)
  |skip
 ·rename_i ag aa bg bs;cases ag==bg
  ·trivial
  ·simp only[cond_true];split
   ·rename_i cs dX;obtain⟨l1,l2,qu⟩:=MU aa bs cs dX;obtain⟨k,cells,T,ds,h1,h2,h3,h4,h5,h6,h7⟩:=h;refine⟨k,cells,T,ds,h1,h2,h3,by omega,h5,by omega,fun i s hi=>?_⟩;obtain⟨x,y,hx,hy,rfl⟩:=qu i s hi;have:=W4 (u:=y) (h7 i x hx).2;exact⟨this.2,this.1⟩
   ·trivial
 ·rename_i T e U f;cases Nat.beq T U&&Ty.beq e f
  ·trivial
  ·exact h
 ·rename_i T e U f;cases Ty.beq T U&&Ty.beq e f
  ·trivial
  ·exact h
 ·rename_i T e U f;cases Ty.beq T U&&Ty.beq e f
  ·trivial
  ·exact h
theorem arH {j B:Nat}{x y:Ob}(h:bQ C S ρ σ own hv w B j y):bQ C S ρ σ own hv w B j (lb x y):=by
 cases x<;>cases y<;>simp only[lb]<;>first
  |trivial
  |skip
 ·rename_i a b;cases hb:Ty.beq a b
  ·trivial
  ·rw[Ty.beq_eq _ _ hb];exact h
 ·rename_i a b;cases hb:Ty.beq a b
  ·trivial
  ·rw[Ty.beq_eq _ _ hb];exact h
 ·rename_i ag aa bg bs;cases ag==bg
  ·trivial
  ·simp only[cond_true];split
   ·rename_i cs dX;obtain⟨l1,l2,qu⟩:=MU aa bs cs dX;obtain⟨k,cells,T,ds,h1,h2,h3,h4,h5,h6,h7⟩:=h;refine⟨k,cells,T,ds,h1,h2,h3,by omega,h5,by omega,fun i s hi=>?_⟩;obtain⟨x,y,hx,hy,rfl⟩:=qu i s hi;have:=W5 (s:=x) (h7 i y hy).2;exact⟨this.2,this.1⟩
   ·trivial
 ·rename_i T e U f;cases hb:(Nat.beq T U&&Ty.beq e f)
  ·trivial
  ·simp only[Bool.and_eq_true] at hb;rw[Nat.eq_of_beq_eq_true hb.1,Ty.beq_eq _ _ hb.2];exact h
 ·rename_i T e U f;cases hb:(Ty.beq T U&&Ty.beq e f)
  ·trivial
  ·simp only[Bool.and_eq_true] at hb;rw[Ty.beq_eq _ _ hb.1,Ty.beq_eq _ _ hb.2];exact h
 ·rename_i T e U f;cases hb:(Ty.beq T U&&Ty.beq e f)
  ·trivial
  ·simp only[Bool.and_eq_true] at hb;rw[Ty.beq_eq _ _ hb.1,Ty.beq_eq _ _ hb.2];exact h
end
end Cx
namespace Cx
open Go Go.RowKit
section
variable {C:Ctx} {S T:St} {ρ ρ':Env} {σ:Im} {own:Nat→Option Nat} {hv:Nat→Value} {w0:World} {σ0:Base} {A:Nat→Prop} {a:Act} {w:World} {gs:List (Nat×Bool)} {Φ:aL} {dst:Nat}
theorem Inv.env (h:Inv C S ρ σ own hv w0 σ0 (fun _=>False) a w)(hn:∀t gs s,S.r t≠.opt gs s)(hr:∀t,isNone (S.r t)=false→ρ'.r t=ρ.r t)(ho:∀j,lN (S.o j)=false→ρ'.o j=ρ.o j):
 Inv C S ρ' σ own hv w0 σ0 (fun _=>False) a w:=by
 refine h.weaken (fun t=>?_) (fun j=>?_) hn (fun j hj=>⟨hj,ho j (by rw[hj];rfl)⟩)
 ·cases hs:isNone (S.r t) with
  |true=>cases hc:S.r t<;>rw[hc] at hs<;>simp[isNone] at hs;trivial
  |false=>
   rw[hr t hs];exact aI.mono' (.refl σ) (.refl S hv) (hn t) (h.regs t)
 ·cases hs:lN (S.o j) with
  |true=>cases hc:S.o j<;>rw[hc] at hs<;>simp[lN] at hs;trivial
  |false=>exact(h.objs j).mono (.refl σ) (.refl S hv) rfl (ho j hs) (fun k hk=>⟨hk,rfl⟩)
end
end Cx
namespace Cx
open Go Go.RowKit
structure Snap where
 rs:List Sh
 os:List Ob
 deriving Inhabited
def cO:List Nat→List Ob→Nat→Ob
 |i::is,o::os,j=>bif Nat.beq i j then o else cO is os j
 |_,_,_=>.dead
def bY:Sh→Sh
 |.opt _ _=>.none
 |s=>s
def Snap.st (ids:List Nat)(s:Snap):St:=⟨fun t=>bY (s.rs.getD t .none),fun j=>cO ids s.os j,fun _=>0⟩
def St.snap (n:Nat)(ids:List Nat)(S:St):Snap:=⟨(List.range n).map fun t=>ei S (S.r t),ids.map fun j=>fV S (S.o j)⟩
def Snap.beq (a b:Snap):Bool:=tQ a.rs b.rs&&vG a.os b.os
theorem Snap.beq_eq (a b:Snap)(h:a.beq b=true):a=b:=by
 cases a;cases b;simp only[Snap.beq,Bool.and_eq_true] at h;rw[PW _ _ h.1,YH _ _ h.2]
def Snap.meet (a b:Snap):Snap:=⟨List.zipWith gF a.rs b.rs,List.zipWith lb a.os b.os⟩
theorem axd (s:Sh):∀gs s',bY s≠.opt gs s':=by
 intro gs s' e;cases s<;>simp[bY] at e
theorem Snap.noOpt (ids:List Nat)(s:Snap):∀t gs s',(s.st ids).r t≠.opt gs s':=fun t=>axd _
section
variable {C:Ctx} {S:St} {ρ:Env} {σ:Im} {own:Nat→Option Nat} {hv:Nat→Value} {w0:World} {σ0:Base} {A:Nat→Prop} {a:Act} {w:World} {n:Nat} {ids:List Nat}
theorem sV (f:Nat→Ob)(P:Ob→Prop)(hd:P .dead)(j:Nat)(hf:P (f j)):∀ids:List Nat,P (cO ids (ids.map f) j)
 |[]=>hd
 |i::is=>by
  simp only[List.map_cons,cO];cases hb:Nat.beq i j
  ·exact sV f P hd j hf is
  ·rw[Nat.eq_of_beq_eq_true hb];exact hf
theorem IL {s:Sh}{v:Value}{d:D}(h:aI C S ρ σ hv s v d):aI C S ρ σ hv (bY s) v d:=by
 cases s<;>first|exact h|trivial
theorem Inv.snap (h:Inv C S ρ σ own hv w0 σ0 A a w)(n:Nat)(ids:List Nat):Inv C ((S.snap n ids).st ids) ρ σ own hv w0 σ0 (fun _=>False) a w:=by
 have h1:=h.norm;have hc:Compat S.norm hv ((S.snap n ids).st ids) hv:=⟨fun _=>Nat.le_refl _,fun _ _=>rfl⟩
 refine h1.weaken (fun t=>?_) (fun j=>?_) (Snap.noOpt _ _) (fun j hj=>⟨sV (fun j=>fV S (S.o j)) (fun ob=>ob=.tr→fV S (S.o j)=.tr) (fun e=>by cases e) j id ids hj,rfl⟩)
 ·refine aI.mono' (ρ:=ρ) (.refl σ) hc (Snap.noOpt _ _ t) ?_;show aI C S.norm ρ σ hv (bY (((List.range n).map fun t=>ei S (S.r t)).getD t .none)) _ _;refine IL ?_;rw[List.getD_eq_getElem?_getD,List.getElem?_map];by_cases ht:t<n
  ·rw[List.getElem?_range ht];exact h1.regs t
  ·rw[List.getElem?_eq_none (by simpa using ht)];trivial
 ·have ho:=(h1.objs j).mono (.refl σ) hc (w:=w) (w':=w) rfl rfl (fun k hk=>⟨hk,rfl⟩);exact sV (fun j=>fV S (S.o j)) (fun ob=>bQ C _ ρ σ own hv w w0.heap.size j ob) trivial j ho ids
theorem IU {f:Sh→Sh→Sh}:∀(x y:List Sh) (t:Nat),(List.zipWith f x y).getD t .none=.none∨∃s u,x.getD t .none=s∧y.getD t .none=u∧(List.zipWith f x y).getD t .none=f s u
 |[],_,t=>.inl (by simp)
 |_::_,[],t=>.inl (by simp)
 |a::aa,b::bs,0=>.inr ⟨a,b,rfl,rfl,rfl⟩
 |a::aa,b::bs,t+1=>by simpa using IU (f:=f) aa bs t
theorem EU {f:Ob→Ob→Ob}:∀(ids:List Nat) (x y:List Ob) (j:Nat),cO ids (List.zipWith f x y) j=.dead∨cO ids (List.zipWith f x y) j=f (cO ids x j) (cO ids y j)
 |[],_,_,_=>.inl rfl
 |_::_,[],_,_=>.inl rfl
 |_::_,_::_,[],_=>.inl rfl
 |i::is,a::aa,b::bs,j=>by
  simp only[List.zipWith_cons_cons,cO];cases Nat.beq i j
  ·exact EU is aa bs j
  ·exact .inr rfl
theorem axb {s u:Sh}{v:Value}{d:D}(h:aI C S ρ σ hv (bY s) v d):aI C S ρ σ hv (bY (gF s u)) v d:=by
 cases hs:s with
 |opt gs s'=>cases u<;>simp[gF,bY,aI]
 |_=>rw[hs] at h;exact IL (W4 h).1
theorem axc {s u:Sh}{v:Value}{d:D}(h:aI C S ρ σ hv (bY u) v d):aI C S ρ σ hv (bY (gF s u)) v d:=by
 cases hs:u with
 |opt gs s'=>cases s<;>simp[gF,bY,aI]
 |_=>rw[hs] at h;exact IL (W5 h).1
theorem W6 {x y:Snap}{j:Nat}(h:((x.meet y).st ids).o j=.tr):(x.st ids).o j=.tr∧(y.st ids).o j=.tr:=by
 change cO ids (List.zipWith lb x.os y.os) j=.tr at h;rcases EU (f:=lb) ids x.os y.os j with h0|h0
 ·rw[h0] at h;cases h
 ·rw[h0] at h;exact arJ h
theorem Snap.meet_ok1 {x y:Snap}(h:Inv C (x.st ids) ρ σ own hv w0 σ0 A a w):Inv C ((x.meet y).st ids) ρ σ own hv w0 σ0 (fun _=>False) a w:=by
 have hc:Compat (x.st ids) hv ((x.meet y).st ids) hv:=⟨fun _=>Nat.le_refl _,fun _ _=>rfl⟩
 refine h.weaken (fun t=>?_) (fun j=>?_) (Snap.noOpt _ _) (fun j hj=>⟨(W6 hj).1,rfl⟩)
 ·refine aI.mono' (ρ:=ρ) (.refl σ) hc (Snap.noOpt _ _ t) ?_;show aI C (x.st ids) ρ σ hv (bY ((List.zipWith gF x.rs y.rs).getD t .none)) _ _;rcases IU (f:=gF) x.rs y.rs t with h0|⟨s,u,h1,h2,h3⟩
  ·rw[h0];trivial
  ·rw[h3];exact axb (by rw[←h1];exact h.regs t)
 ·refine bQ.mono (S:=x.st ids) (ρ:=ρ) (own:=own) (hv:=hv) (.refl σ) hc (w:=w) rfl rfl (fun k hk=>⟨hk,rfl⟩) ?_;show bQ C _ ρ σ own hv w w0.heap.size j (cO ids (List.zipWith lb x.os y.os) j);rcases EU (f:=lb) ids x.os y.os j with h0|h0
  ·rw[h0];trivial
  ·rw[h0];exact arG (h.objs j)
theorem Snap.meet_ok2 {x y:Snap}(h:Inv C (y.st ids) ρ σ own hv w0 σ0 A a w):Inv C ((x.meet y).st ids) ρ σ own hv w0 σ0 (fun _=>False) a w:=by
 have hc:Compat (y.st ids) hv ((x.meet y).st ids) hv:=⟨fun _=>Nat.le_refl _,fun _ _=>rfl⟩
 refine h.weaken (fun t=>?_) (fun j=>?_) (Snap.noOpt _ _) (fun j hj=>⟨(W6 hj).2,rfl⟩)
 ·refine aI.mono' (ρ:=ρ) (.refl σ) hc (Snap.noOpt _ _ t) ?_;show aI C (y.st ids) ρ σ hv (bY ((List.zipWith gF x.rs y.rs).getD t .none)) _ _;rcases IU (f:=gF) x.rs y.rs t with h0|⟨s,u,h1,h2,h3⟩
  ·rw[h0];trivial
  ·rw[h3];exact axc (by rw[←h2];exact h.regs t)
 ·refine bQ.mono (S:=y.st ids) (ρ:=ρ) (own:=own) (hv:=hv) (.refl σ) hc (w:=w) rfl rfl (fun k hk=>⟨hk,rfl⟩) ?_;show bQ C _ ρ σ own hv w w0.heap.size j (cO ids (List.zipWith lb x.os y.os) j);rcases EU (f:=lb) ids x.os y.os j with h0|h0
  ·rw[h0];trivial
  ·rw[h0];exact arH (h.objs j)
end
end Cx
namespace Cx
open Go Go.RowKit
def qP (C:Ctx)(S:St)(T:TypeId)(x:Operand):List Nat:=
 match fq S [] x,mO C.P T,C.P.info? T with
 |.ptr j _ off,some true,some inf=>(match S.o j with|.box _ shs=>xz ((shs.drop off).take inf.size)|_=>[])
 |_,_,_=>[]
def wK (C:Ctx)(S:St):ResultVar→Option (St×Ty×PE)
 |.tmp t=>(use C (S.fzs (bS S [] [.tmp t])) [] (.tmp t)).map fun x=>(S.fzs (bS S [] [.tmp t]),x.1,x.2)
 |.cell b T=>
  match qW C (S.fzs (qP C S T (.tmp b))) [] 0 T (.tmp b) with
  |some (.dat ty,[.setR 0 e])=>some (S.fzs (qP C S T (.tmp b)),ty,e)
  |some (.obj j ver,[.setR _ _])=>
   bif Nat.beq ver (((S.fzs (qP C S T (.tmp b))).fz j).ver j) then
    match((S.fzs (qP C S T (.tmp b))).fz j).o j with
    |.fz ty=>some ((S.fzs (qP C S T (.tmp b))).fz j,ty,.o j)
    |_=>none
   else none
  |_=>none
def pS (C:Ctx):List ResultVar→St→Option (St×List Ty×List PE)
 |[],S=>some (S,[],[])
 |x::xs,S=>(wK C S x).bind fun r=>(pS C xs r.1).map fun q=>(q.1,r.2.1::q.2.1,r.2.2::q.2.2)
def abp (C:Ctx)(fn:Func)(S:St)(res:Ty):Option PE:=
 (pS C fn.results.toList S).bind fun r=>
    match r.2.1,r.2.2 with
    |[ty],[e]=>bif Ty.sub ty res then some e else none
    |eA,es=>bif Ty.sub (.tup eA) res then some (.tup es) else none
def abr (C:Ctx)(fn:Func)(S:St)(T:TypeId)(e:Ty):Option PE:=
 match fn.results.toList with
 |[.tmp t]=>
  match jt S [] t with
  |.obj j ver=>bif Nat.beq ver (S.ver j) then(match S.o j with|.row U f=>bif Nat.beq U T&&Ty.beq f e then some (.o j) else none|_=>none) else none
  |_=>none
 |[.cell b U]=>
  match qW C S [] 0 U (.tmp b) with
  |some (.obj j ver,[.setR _ _])=>bif Nat.beq ver (S.ver j) then(match S.o j with|.row U f=>bif Nat.beq U T&&Ty.beq f e then some (.o j) else none|_=>none) else none
  |_=>none
 |_=>none
def EM (S:St):Nat→List Sh→Bool
 |_,[]=>true
 |t,s::l=>pD s&&((kW s||isNone s||Sh.beq (S.r t) s)&&EM S (t+1) l)
def Md (S:St)(shs:List Sh)(obs:List (Nat×Ob)):Bool:=EM S 0 shs&&obs.all fun x=>Ob.beq (S.o x.1) x.2
def PK (eA:List Ty)(es:List PE)(res:Ty):Option PE:=
 match eA,es with
 |[ty],[e]=>bif Ty.sub ty res then some e else none
 |eA,es=>bif Ty.sub (.tup eA) res then some (.tup es) else none
def abq (C:Ctx)(fn:Func)(S:St)(res:Ty)(shs:List Sh)(obs:List (Nat×Ob)):Option PE:=
 (pS C fn.results.toList S).bind fun r=>bif Md r.1 shs obs then(PK r.2.1 r.2.2 res).map fun e=>.tup (e::obs.map fun x=>.o x.1) else none
def tL (C:Ctx)(fn:Func)(s:Sig)(S:St):Option PE:=
 match s.mode with
 |.ob shs obs=>abq C fn S s.res shs obs
 |.dat=>abp C fn S s.res
 |.it J=>match fn.results.toList,S.o J with|[],.tr=>some (.o J)|_,_=>none
 |.row T e=>abr C fn S T e
def Ic (P:Program)(tmps:Array Value)(w:World):ResultVar→Value→Prop
 |.tmp t,v=>v=tmps.getD t undef
 |.cell a T,v=>∃k,tmps.getD a undef=.pointer (some k)∧(loadVar T k).run P w=.ok v w
def Ie (P:Program)(tmps:Array Value)(w:World):List ResultVar→List Value→Prop
 |[],[]=>True
 |x::xs,v::vs=>Ic P tmps w x v∧Ie P tmps w xs vs
 |_,_=>False
def qV:List Value→Value
 |[v]=>v
 |vs=>.tuple vs.toArray
section
variable {C:Ctx} {S:St} {ρ:Env} {σ:Im} {own:Nat→Option Nat} {hv:Nat→Value} {w0:World} {σ0:Base} {A:Nat→Prop} {a:Act} {w:World} {gs:List (Nat×Bool)} {Φ:aL} {dst:Nat}
theorem WN {P:Program}{tmps:Array Value}{w:World}(f:ResultVar→Sem Value)(Vd:∀t,f (.tmp t)=pure (tmps.getD t undef))(Ve:∀b T,f (.cell b T)=(do loadVar T (←asAddr (tmps.getD b undef)))):
 ∀(l:List ResultVar) (vs:List Value),Ie P tmps w l vs→(l.mapM f).run P w=.ok vs w
 |[],[],_=>by simp[Sem.run_pure]
 |x::l,v::vs,h=>by
  obtain⟨hx,L7⟩:=h;have ih:=WN f Vd Ve l vs L7;rw[List.mapM_cons];have h1:(f x).run P w=.ok v w:=by
   cases x with
   |tmp t=>rw[Vd];simp only[Ic] at hx;subst hx;simp[Sem.run_pure]
   |cell b T=>
    obtain⟨k,h1,h2⟩:=hx;rw[Ve,h1];simp[asAddr,h2]
  simp[Sem.run_bind,h1,ih,Sem.run_pure,Result.andThen_ok]
theorem BR {P:Program}{fn:Func}{tmps:Array Value}{w:World}{vs:List Value}(h:Ie P tmps w fn.results.toList vs):
 (results fn tmps).run P w=.ok (qV vs) w:=by
 unfold results;rw[Array.mapM_eq_mapM_toList];simp only[Sem.run_bind];simp only[bind_map_left,map_eq_pure_bind,Sem.run_bind,bind_assoc,pure_bind];rw[WN (tmps:=tmps) _ (fun t=>rfl) (fun b T=>rfl) _ _ h];simp only[Result.andThen_ok,Sem.run_pure];rcases vs with _|⟨v,_|⟨u,vs⟩⟩<;>simp[Sem.run_pure,qV]
theorem MK {o:Oper}{T:TypeId}{b:Nat}{v:Value}(ho:o.op=.load T (.tmp b))(hx:(execOp a.eval o).run C.P w=.ok (.value v) w):Ic C.P a.tmps w (.cell b T) v:=by
 have he:a.eval (.tmp b)=a.tmps.getD b undef:=by simp[Act.eval]
 simp only[execOp,ho,Instr.loadAt,he] at hx;cases hp:a.tmps.getD b undef with
 |pointer p=>
  cases p with
  |none=>rw[hp] at hx;simp[Instr.sureAddr] at hx
  |some k=>
   rw[hp] at hx;refine⟨k,hp,?_⟩;simp[Instr.sureAddr] at hx;cases hr:(loadVar T k).run C.P w with
   |ok u w'=>rw[hr] at hx;simp at hx;rw[hx.1,hx.2]
   |halt u w'=>rw[hr] at hx;simp at hx
 |_=>rw[hp] at hx;simp[Instr.sureAddr] at hx
theorem auk (h:Inv C S ρ σ own hv w0 σ0 A a w)(hC:CtxOK C σ0){x:ResultVar}{r:St×Ty×PE}(hr:wK C S x=some r):
 ∃σ' own' v,σ.le σ'∧Inv C r.1 ρ σ' own' hv w0 σ0 A a w∧Ic C.P a.tmps w x v∧Rep C.cap σ' r.2.1 v (r.2.2.ev ρ):=by
 cases x with
 |tmp t=>
  simp only[wK,Option.map_eq_some_iff] at hr;obtain⟨y,hy,rfl⟩:=hr;obtain⟨σ1,da,hle,h1⟩:=Inv.fzs (bS S [] [.tmp t]) h;refine⟨σ1,da,a.tmps.getD t undef,hle,h1,rfl,?_⟩;have:=bO (gs:=[]) h1 hC rfl hy;simpa [Act.eval] using this
 |cell b T=>
  simp only[wK] at hr;obtain⟨σ1,da,hle,h1⟩:=Inv.fzs (qP C S T (.tmp b)) h;generalize UW:S.fzs (qP C S T (.tmp b))=S1 at hr h1
  let o:Oper:={(default:Oper) with op:=.load T (.tmp b)}
  split at hr
  ·rename_i ty e hl;cases hr;have hq:=Fq (Φ:=fun _ _=>none) (dst:=0) (gs:=[]) h1 hC rfl hl (o:=o) rfl;obtain⟨v,d,e1,e2,e3,e4⟩:=hq _ rfl;have hd:d=e.ev ρ:=by
        have:=congrArg (fun x:Env=>x.r 0) e1;simpa [Env.setR,aP] using this.symm
   subst hd;exact⟨σ1,da,v,hle,h1,MK rfl e2,e3⟩
  ·rename_i j ver t0 e0 hl;have hq:=Fq (Φ:=fun _ _=>none) (dst:=0) (gs:=[]) h1 hC rfl hl (o:=o) rfl;obtain⟨v,d,e1,e2,e3,e4⟩:=hq _ rfl;cases hb:Nat.beq ver ((S1.fz j).ver j)<;>simp only[hb,cond_true,cond_false] at hr
   ·cases hr
   split at hr
   case h_2=>cases hr
   rename_i ty aW;cases hr;obtain⟨σ2,gl,j9,h2⟩:=h1.fz j;refine⟨σ2,gl,v,hle.trans j9,h2,MK rfl e2,?_⟩;have ho:=h2.objs j;rw[aW] at ho;have du:ver=S1.ver j:=by rw[Nat.eq_of_beq_eq_true hb,(DK S1 j).1]
   rw[e3.2 du];exact ho.2
  ·cases hr
theorem PJ (hC:CtxOK C σ0):∀(l:List ResultVar) {S:St} {σ:Im} {own:Nat→Option Nat} {r:St×List Ty×List PE},Inv C S ρ σ own hv w0 σ0 A a w→pS C l S=some r→
 ∃σ' own' vs,σ.le σ'∧Inv C r.1 ρ σ' own' hv w0 σ0 A a w∧Ie C.P a.tmps w l vs∧vs.length=r.2.1.length∧r.2.2.length=r.2.1.length∧
  ∀(i:Nat) (t:Ty),r.2.1[i]?=some t→Rep C.cap σ' t (vs.getD i undef) ((PE.evs ρ r.2.2).getD i .none)
 |[],S,σ,own,r,h,hr=>by
  simp only[pS,Option.some.injEq] at hr;subst hr;exact⟨σ,own,[],.refl σ,h,trivial,rfl,rfl,fun i t e=>by simp at e⟩
 |x::l,S,σ,own,r,h,hr=>by
  simp only[pS,Option.bind_eq_some_iff,Option.map_eq_some_iff] at hr;obtain⟨r1,h1,q,h2,rfl⟩:=hr;obtain⟨σ1,da,v,hle,i1,hx,bH⟩:=auk h hC h1;obtain⟨σ2,gl,vs,j9,i2,L7,lH,pg,kT⟩:=PJ hC l i1 h2;refine⟨σ2,gl,v::vs,hle.trans j9,i2,⟨hx,L7⟩,by simp[lH],by simp[pg],fun i t e=>?_⟩;cases i with
  |zero=>simp at e;subst e;simpa [PE.evs] using bH.mono j9
  |succ i=>simp at e;simpa [PE.evs] using kT i t e
def Ce (C:Ctx)(s:Sig)(σ:Im)(own:Nat→Option Nat)(w0 w:World)(tmps:Array Value)(d:D)(v:Value):Prop:=
 ∀shs obs,s.mode=.ob shs obs→∃hv dr os,d=.tup (dr::os)∧os.length=obs.length∧(∀k j,own k=some j→w0.heap.size≤k∧k<w.heap.size∧(∀o,σ.c k o=none)∧σ.m k=none)∧
  (∀(t:Nat) (sh:Sh),shs[t]?=some sh→kW sh=false→∀d,aI C (eJ shs obs) (km obs [] os) σ hv sh (tmps.getD t undef) d)∧(∀j,bQ C (eJ shs obs) (km obs [] os) σ own hv w w0.heap.size j (dv obs j))∧Rep C.cap σ s.res v dr
theorem Ce.no {C:Ctx}{s:Sig}{σ:Im}{own:Nat→Option Nat}{w0 w:World}{tmps:Array Value}{d:D}{v:Value}(h:nO s.mode=false):Ce C s σ own w0 w tmps d v:=fun shs obs e=>by rw[e] at h;cases h
def I0 (C:Ctx)(w0:World)(σ0:Base)(fn:Func)(s:Sig)(d:D)(a:Act)(w:World):Prop:=
 ∃v σ,(∃own t fx cx,FrOK σ own w0.heap.size σ0 w t fx cx∧(∀J,s.mode=.it J→d=t)∧Ce C s σ own w0 w a.tmps d v)∧(results fn a.tmps).run C.P w=.ok v w∧σ0.le σ∧σ.ok w∧Below σ0.B w0 w∧
  (∀k o x,σ.c k o=some x→σ0.c k o=some x∨w0.heap.size≤k)∧(∀k x,σ.m k=some x→σ0.m k=some x∨w0.heap.size≤k)∧nk C s σ w0 w v d
theorem Inv.fr (h:Inv C S ρ σ own hv w0 σ0 A a w){s:Sig}{d:D}{v:Value}(hm:∀J,s.mode≠.it J)(ho:nO s.mode=false):∃own t fx cx,FrOK σ own w0.heap.size σ0 w t fx cx∧(∀J,s.mode=.it J→d=t)∧Ce C s σ own w0 w a.tmps d v:=by
 obtain⟨t,fx,cx,h1,_⟩:=h.frame;exact⟨own,t,fx,cx,h1,fun J e=>absurd e (hm J),.no ho⟩
theorem auj {cap:Nat→Option CSig}{eA:List Ty}{es:List PE}{res:Ty}{pe:PE}{vs:List Value}(hr:PK eA es res=some pe)(lH:vs.length=eA.length)(pg:es.length=eA.length)
 (kT:∀(i:Nat) (t:Ty),eA[i]?=some t→Rep cap σ t (vs.getD i undef) ((PE.evs ρ es).getD i .none)):Rep cap σ res (qV vs) (pe.ev ρ):=by
 have many:eA.length≠1→(bif Ty.sub (.tup eA) res then some (PE.tup es) else none)=some pe→Rep cap σ res (qV vs) (pe.ev ρ):=by
  intro aB hr;cases hb:Ty.sub (.tup eA) res<;>simp only[hb,cond_true,cond_false] at hr
  ·cases hr
  cases hr;have cj:qV vs=Value.tuple vs.toArray:=by
   match vs,lH with
   |[],_=>rfl
   |[v],hl=>exact absurd hl.symm aB
   |_::_::_,_=>rfl
  rw[cj];exact Rep.sub (Rep.tup _ _ _ (by rw[lH]) (by rw[PE.evs_eq,List.length_map,pg]) kT) hb
 match eA,es,vs,lH,pg,kT,many,hr with
 |[ty],[e],[v],_,_,kT,_,hr=>
  simp only[PK] at hr;cases hb:Ty.sub ty res<;>simp only[hb,cond_true,cond_false] at hr
  ·cases hr
  cases hr;have:=kT 0 ty rfl;exact Rep.sub (by simpa [PE.evs,qV] using this) hb
 |[],[],_,_,_,_,many,hr=>exact many (by simp) hr
 |_::_::_,_::_::_,_,_,_,_,many,hr=>exact many (by simp) hr
theorem Wm:∀{l:List Sh} {k:Nat},EM S k l=true→∀(t:Nat) (s:Sh),l[t]?=some s→kW s=false→pD s=true∧(s=.none∨S.r (k+t)=s)
 |[],k,_,t,s,h,_=>by simp at h
 |x::l,k,hk,t,s,h,hd=>by
  simp only[EM,Bool.and_eq_true,Bool.or_eq_true] at hk;cases t with
  |zero=>
   simp at h;subst h;refine⟨hk.1,?_⟩;rcases hk.2.1 with(h1|h1)|h1
   ·rw[hd] at h1;cases h1
   ·left;cases x<;>first|rfl|cases h1
   ·exact .inr (Sh.beq_eq _ _ h1)
  |succ t=>
   simp at h;have:=Wm hk.2.2 t s h hd
   rwa [Nat.add_assoc,Nat.add_comm 1 t] at this
theorem WB:∀{obs:List (Nat×Ob)},(obs.all fun x=>Ob.beq (S.o x.1) x.2)=true→∀j,dv obs j=.dead∨(S.o j=dv obs j∧la obs (obs.map fun x=>ρ.o x.1) j=ρ.o j)
 |[],_,j=>.inl rfl
 |x::obs,h,j=>by
  simp only[List.all_cons,Bool.and_eq_true] at h;simp only[dv,List.map_cons,la];cases hb:Nat.beq x.1 j<;>simp only[cond_true,cond_false]
  ·exact WB h.2 j
  ·rw[←Nat.eq_of_beq_eq_true hb];exact .inr ⟨Ob.beq_eq _ _ h.1,rfl⟩
theorem aw9 {ty:Ty}{eA:List Ty}{es:List PE}(h:∀ty e,eA=[ty]→es=[e]→False)(hl:es.length=eA.length):eA.length≠1:=by
 intro h1
 match eA,es with
 |[ty],[e]=>exact h ty e rfl rfl
 |[],_=>simp at h1
 |_::_::_,_=>simp at h1
 |[_],[]=>simp at hl
 |[_],_::_::_=>simp at hl
theorem abt (h:Inv C S ρ σ own hv w0 σ0 A a w){T:TypeId}{e:Ty}{j ver:Nat}{v:Value}{d:D}(hc:aI C S ρ σ hv (.obj j ver) v d){pe:PE}
 (hr:(bif Nat.beq ver (S.ver j) then(match S.o j with|.row U f=>bif Nat.beq U T&&Ty.beq f e then some (PE.o j) else none|_=>none) else none)=some pe):
 ∃cells xs,pe.ev ρ=.list xs∧w.ownsRow w0.heap.size T e.size v xs.length cells∧fI C.cap σ e cells xs∧∀k,v.ownBlock=some k→(∀o,σ.c k o=none)∧σ.m k=none:=by
 cases hb:Nat.beq ver (S.ver j)<;>simp only[hb,cond_true,cond_false] at hr
 ·cases hr
 split at hr
 case h_2=>cases hr
 rename_i U f ho;cases cU:Nat.beq U T&&Ty.beq f e<;>simp only[cU,cond_true,cond_false] at hr
 ·cases hr
 cases hr;simp only[Bool.and_eq_true] at cU;have hU:=Nat.eq_of_beq_eq_true cU.1;have hf:=Ty.beq_eq _ _ cU.2;subst hU hf;have hj:=h.objs j;rw[ho] at hj;obtain⟨cells,xs,h1,h2,h3,h4⟩:=hj;have hv':=hc.2 (Nat.eq_of_beq_eq_true hb);subst hv';exact⟨cells,xs,h1,h2,h3,fun k hk=>(h.owns k j (h4 k hk)).2.2⟩
theorem abo:∀(l:List ResultVar) {S:St} {r:St×List Ty×List PE},pS C l S=some r→r.1.ver=S.ver
 |[],S,r,h=>by simp only[pS,Option.some.injEq] at h;subst h;rfl
 |x::l,S,r,h=>by
  simp only[pS,Option.bind_eq_some_iff,Option.map_eq_some_iff] at h;obtain⟨r1,h1,q,h2,rfl⟩:=h;rw[abo l h2];cases x with
  |tmp t=>
   simp only[wK,Option.map_eq_some_iff] at h1;obtain⟨y,_,rfl⟩:=h1;exact(nB _ _).1
  |cell b T=>
   simp only[wK] at h1;split at h1
   ·cases h1;exact(nB _ _).1
   ·rename_i j ver t0 e0 _;cases hb:Nat.beq ver (((S.fzs (qP C S T (.tmp b))).fz j).ver j)<;>simp only[hb,cond_true,cond_false] at h1
    ·cases h1
    ·split at h1
     ·cases h1;rw[(DK _ _).1];exact(nB _ _).1
     ·cases h1
   ·cases h1
theorem aul (h:Inv C S ρ σ own hv w0 σ0 A a w)(hC:CtxOK C σ0)(du:∀j,S.ver j=0){fn:Func}{s:Sig}{pe:PE}(hr:tL C fn s S=some pe):I0 C w0 σ0 fn s (pe.ev ρ) a w:=by
 unfold tL at hr;split at hr
 ·rename_i shs obs hm;simp only[abq,Option.bind_eq_some_iff] at hr;obtain⟨r,aQ,hr⟩:=hr;obtain⟨σ1,da,vs,hle,h1,sE,lH,pg,kT⟩:=PJ hC _ h aQ;cases hb:Md r.1 shs obs<;>simp only[hb,cond_true,cond_false] at hr
  ·cases hr
  simp only[Option.map_eq_some_iff] at hr;obtain⟨e,he,rfl⟩:=hr;simp only[Md,Bool.and_eq_true] at hb;have bH:=auj he lH pg kT;obtain⟨t,fx,cx,hf,_⟩:=h1.frame;have qq:Compat r.1 hv (eJ shs obs) hv:=⟨fun j=>by rw[abo _ aQ,du];exact Nat.zero_le _,fun _ _=>rfl⟩
  have Ly:(PE.evs ρ (e::obs.map fun x=>.o x.1))=e.ev ρ::obs.map (fun x=>ρ.o x.1):=by simp[PE.evs_eq,Function.comp_def,PE.ev]
  refine⟨_,σ1,⟨da,t,fx,cx,hf,(fun J e=>by rw[hm] at e;cases e),fun PV aCT e'=>?_⟩,BR sE,h1.le,h1.ok,h1.below,h1.newc,h1.newm,by unfold nk;rw[hm];trivial⟩;rw[hm] at e';cases e';refine⟨hv,e.ev ρ,obs.map fun x=>ρ.o x.1,by simp only[PE.ev];rw[Ly],by simp,h1.owns,fun t sh hs hd d=>?_,fun j=>?_,bH⟩
  ·obtain⟨cX,e1⟩:=Wm hb.1 t sh hs hd;rcases e1 with e1|e1
   ·subst e1;trivial
   ·rw[Nat.zero_add] at e1;have:=h1.regs t;rw[e1] at this;have ec:∀gs s',sh≠.opt gs s':=fun gs s' e=>by subst e;cases cX
    have:=aI.mono' (S':=eJ shs obs) (ρ':=km obs [] (obs.map fun x=>ρ.o x.1)) (.refl σ1) qq ec this;cases sh with
    |dat t=>cases hd
    |opt gs s=>cases cX
    |eptr j v o q=>cases cX
    |_=>exact this
  ·rcases WB (ρ:=ρ) hb.2 j with e1|⟨e1,e2⟩
   ·rw[e1];trivial
   ·rw[←e1];exact(h1.objs j).mono (.refl σ1) qq rfl e2 (fun k hk=>⟨hk,rfl⟩)
 ·rename_i hm;simp only[abp,Option.bind_eq_some_iff] at hr;obtain⟨r,aQ,hr⟩:=hr;obtain⟨σ1,da,vs,hle,h1,sE,lH,pg,kT⟩:=PJ hC _ h aQ;refine⟨_,σ1,h1.fr (fun J e=>by rw[hm] at e;cases e) (by rw[hm];rfl),BR sE,h.le.trans hle,h1.ok,h1.below,h1.newc,h1.newm,?_⟩;unfold nk;rw[hm];simp only;split at hr
  ·rename_i ty e e1 e2;rw[e1] at lH kT;rw[e2] at kT;cases hb:Ty.sub ty s.res<;>simp only[hb,cond_true,cond_false] at hr
   ·cases hr
   cases hr;obtain⟨v,rfl⟩:∃v,vs=[v]:=by
        match vs,lH with
        |[v],_=>exact⟨v,rfl⟩
   have:=kT 0 ty rfl;exact Rep.sub (by simpa [PE.evs,qV] using this) hb
  ·rename_i aB;cases hb:Ty.sub (.tup r.2.1) s.res<;>simp only[hb,cond_true,cond_false] at hr
   ·cases hr
   cases hr;have VG:=aw9 (ty:=.bool) aB pg;have cj:qV vs=Value.tuple vs.toArray:=by
        match vs,lH with
        |[],_=>rfl
        |[v],hl=>rw[←hl] at VG;exact absurd rfl VG
        |_::_::_,_=>rfl
   rw[cj];refine Rep.sub (Rep.tup _ _ _ (by rw[lH]) (by rw[PE.evs_eq,List.length_map,pg]) kT) hb
 ·rename_i J hm;split at hr
  case h_2=>cases hr
  rename_i jE hJ;cases hr;obtain⟨t,fx,cx,h1,h2⟩:=h.frame;refine⟨_,σ,⟨own,t,fx,cx,h1,fun J' e=>?_,.no (by rw[hm];rfl)⟩,BR (vs:=[]) (by rw[jE];trivial),h.le,h.ok,h.below,h.newc,h.newm,by unfold nk;rw[hm];trivial⟩;exact(h2 J hJ).2
 ·rename_i T e hm;have key:∃v,(results fn a.tmps).run C.P w=.ok v w∧∃cells xs,pe.ev ρ=.list xs∧w.ownsRow w0.heap.size T e.size v xs.length cells∧fI C.cap σ e cells xs∧∀k,v.ownBlock=some k→(∀o,σ.c k o=none)∧σ.m k=none:=by
   unfold abr at hr;split at hr
   ·rename_i t ht;split at hr
    case h_2=>cases hr
    rename_i j ver hs;have hc:=(l7 (gs:=[]) h rfl t).1;rw[hs] at hc;exact⟨_,BR (vs:=[a.tmps.getD t undef]) (by rw[ht];exact⟨rfl,trivial⟩),abt h hc hr⟩
   ·rename_i b U hb;split at hr
    case h_2=>cases hr
    rename_i j ver t0 e0 hl;have hq:=Fq (Φ:=fun _ _=>none) (dst:=0) (gs:=[]) h hC rfl hl (o:={(default:Oper) with op:=.load U (.tmp b)}) rfl;obtain⟨v,d,e1,e2,e3,e4⟩:=hq _ rfl;exact⟨_,BR (vs:=[v]) (by rw[hb];exact⟨MK rfl e2,trivial⟩),abt h e3 hr⟩
   ·cases hr
  obtain⟨v,h1,h2⟩:=key;refine⟨v,σ,h.fr (fun J e=>by rw[hm] at e;cases e) (by rw[hm];rfl),h1,h.le,h.ok,h.below,h.newc,h.newm,?_⟩;unfold nk;rw[hm];exact h2
theorem iN.drop {σ:Im}{B D:Nat}:∀{ds:List Deferred},({target:=.collected D,args:=#[]}:Deferred)∉ds→iN σ B ds→iN (σ.drop D) B ds
 |[],_,_=>trivial
 |x::ds,hn,⟨⟨D',h1,h2,h3⟩,h⟩=>by
  simp only[List.mem_cons,not_or] at hn;refine⟨⟨D',h1,?_,h3⟩,iN.drop hn.2 h⟩;have:D'≠D:=fun e=>hn.1 (by rw[h1,e]);simp[Im.drop,this,h2]
theorem Inv.shut (h:Inv C S ρ σ own hv w0 σ0 A a w)(kN:σ0.fin){x:Deferred}{ds:List Deferred}(hd:a.defers=x::ds):
 ∃D,x.target=.collected D∧w.heap[D]?=some (.deferred (some []))∧Inv C S ρ (σ.drop D) own hv w0 σ0 A {a with defers:=ds} (w.putObj D (.deferred none)):=by
 have lD:=h.defers;rw[hd] at lD;obtain⟨⟨D,rfl,hm,hB,Ln⟩,sk⟩:=lD;have hD:w.heap[D]?=some (.deferred (some [])):=by
  rcases h.ok.m D _ hm with⟨h1,_⟩|⟨_,h2⟩
  ·exact absurd rfl h1
  ·exact h2
 have fB:∀k,k≠D→(w.putObj D (.deferred none)).heap[k]?=w.heap[k]?:=fun k hk=>World.putObj_heap_other hk;have bI:∀k j,own k=some j→k≠D:=fun k j hk e=>by subst e;rw[(h.owns k j hk).2.2.2] at hm;cases hm
 have hR:Im.leR C.cap σ (σ.drop D):=⟨fun r=>r.drop hm,fun _ _ _ e=>e⟩
 have zr:∀k x,(σ.drop D).m k=some x→k≠D∧σ.m k=some x:=by
  intro k x hx;simp only[Im.drop] at hx;split at hx
  ·cases hx
  ·rename_i aB;exact⟨aB,hx⟩
 refine⟨D,rfl,hD,sk.drop Ln,⟨fun k o v hc=>?_,fun k es hc=>?_⟩,⟨h.le.c,fun k es hc=>?_⟩,h.old,h.newc,fun k es hc=>h.newm k es (zr k es hc).2,h.below.trans ⟨rfl,rfl,rfl,by simp,fun k hk=>fB k (by have:=h.bw;omega)⟩,h.bw,fun k j hk=>?_,fun t=>?_,fun j=>?_,h.opts,?_⟩
 ·have h1:=h.ok.c k o v hc;have aB:k≠D:=fun e=>by subst e;simp[World.cell?,hD] at h1
  rw[World.cell?_of_block (fB k aB)];exact h1
 ·exact(h.ok.m k es (zr k es hc).2).keep (fB k (zr k es hc).1)
 ·have aB:k≠D:=fun e=>by
   subst e;have:=h.le.m _ _ hc;rw[hm] at this;cases this;have:=h.old kN _ hc;omega
  simp[Im.drop,aB,h.le.m k es hc]
 ·obtain⟨g1,g2,g3,g4⟩:=h.owns k j hk;exact⟨g1,by simpa using g2,g3,by simp only[Im.drop];split<;>first|rfl|exact g4⟩
 ·exact aI.monoR hR (.refl S hv) (fun _ _ _=>rfl) (fun gs s e=>(h.opts t gs s e).2) (h.regs t)
 ·exact(h.objs j).monoR hR (.refl S hv) rfl rfl (fun k hk=>⟨hk,fB k (bI k j hk)⟩)
 ·obtain⟨t,fx,cx,hf,ht⟩:=h.frame;exact⟨t,fx,cx,⟨σ0.keep _ _ _ _ _ hf.F ⟨rfl,rfl,rfl,by simp,fun k hk=>by omega⟩ (fun k hk=>fB k fun e=>by subst e;exact hf.d k hm hB hk),hf.own,hf.c,fun k x hx=>hf.m k x (zr k x hx).2,fun k hx=>hf.d k (zr k _ hx).2⟩,ht⟩
def nl (C:Ctx)(w0:World)(σ0:Base)(fn:Func)(s:Sig)(d:D)(tmps:Array Value):List Deferred→World→Prop
 |[],w=>I0 C w0 σ0 fn s d {tmps:=tmps,defers:=[]} w
 |x::ds,w=>∃D,x.target=.collected D∧w.heap[D]?=some (.deferred (some []))∧nl C w0 σ0 fn s d tmps ds (w.putObj D (.deferred none))
theorem Inv.retD (hC:CtxOK C σ0)(du:∀j,S.ver j=0)(kN:σ0.fin){fn:Func}{s:Sig}{pe:PE}(hr:tL C fn s S=some pe):∀(ds:List Deferred) {σ:Im} {a:Act} {w:World},Inv C S ρ σ own hv w0 σ0 A a w→a.defers=ds→nl C w0 σ0 fn s (pe.ev ρ) a.tmps ds w
 |[],σ,a,w,h,hd=>by
  have e:a={tmps:=a.tmps,defers:=[]}:=by cases a;simp only at hd;subst hd;rfl
  rw[e] at h;exact aul h hC du hr
 |x::ds,σ,a,w,h,hd=>by
  obtain⟨D,h1,h2,h3⟩:=h.shut kN hd;exact⟨D,h1,h2,Inv.retD hC du kN hr ds (a:={a with defers:=ds}) h3 rfl⟩
end
end Cx
namespace Cx
open Go Go.RowKit
def jW (C:Ctx)(f:Nat)(cts ys:List Ty)(ds xs:List D):Prop:=
 ∀(σ:Im) (w:World) (yv:Value) (vs:List Value) (F:D→(Nat→Prop)→(Nat→Prop)→World→Prop) (fx cx:Nat→Prop) (m:Nat),σ.ok w→CtxOK C σ→nj C σ cts vs ds→m≤xs.length→
  (∀t fx cx w,F t fx cx w→∀k,fx k→k<w.heap.size)→(∀t fx cx w,F t fx cx w→∀k,cx k→fx k)→
  (∀t fx cx w w',F t fx cx w→Below 0 w w'→(∀k,fx k→w'.heap[k]?=w.heap[k]?)→F t fx cx w')→
  F (.list []) fx cx w→(∀k o x,σ.c k o=some x→¬cx k)→(∀k x,σ.m k=some x→¬cx k)→
  (∀(i:Nat) (fx cx:Nat→Prop) (w1:World) (σ1:Im) (args:List Value) (ds':List D),i≤m→xs[i]?=some (.tup ds')→F (.list (xs.take i)) fx cx w1→σ1.ok w1→nj C σ1 ys args ds'→
    (∀k o x,σ1.c k o=some x→¬cx k)→(∀k x,σ1.m k=some x→¬cx k)→
    (∀k o x,σ1.c k o=some x→σ.c k o=some x∨w.heap.size≤k)→(∀k x,σ1.m k=some x→σ.m k=some x∨w.heap.size≤k)→
    Sn C.P yv args w1 fun u w2=>u=.bool (decide (i<m))∧Below 0 w1 w2∧(∀k,k<w1.heap.size→¬cx k→w2.heap[k]?=w1.heap[k]?)∧
     ∃kL ia,F (.list (xs.take (i+1))) kL ia w2∧(∀k,kL k→k<w1.heap.size→fx k∨(∃o x,σ1.c k o=some x)∨(∃x,σ1.m k=some x∧x≠cu))∧(∀k,ia k→k<w1.heap.size→cx k))→
  Calls C.P f (#[yv]++vs.toArray) w fun e w'=>(∃v,e=.returned v)∧∃fx cx,F (.list (xs.take (m+1))) fx cx w'
def fc (C:Ctx)(Φ:aL):Prop:=∀f cs ys,C.cap f=some cs→kh cs.args cs.res=some ys→(∃fn,C.P.funcs[f]?=some fn∧fn.body.isSome=true∧(fn.name== "runtime.NumGoroutine")=false)∧
 ∀ds d,Φ f ds=some d→∃xs,d=.list xs∧(∀x,x∈xs→∃ds',x=.tup ds'∧ds'.length=ys.length)∧jW C f cs.caps ys ds xs
section
variable {C:Ctx} {S:St} {ρ:Env} {σ:Im} {own:Nat→Option Nat} {hv:Nat→Value} {w0:World} {σ0:Base} {A:Nat→Prop} {a:Act} {w:World}
theorem Inv.mono_regs (h:Inv C S ρ σ own hv w0 σ0 A a w){τ:Im}(hle:σ.le τ)(t:Nat):aI C S ρ τ hv (S.r t) (a.tmps.getD t undef) (ρ.r t):=
 aI.mono hle (.refl S hv) (fun _ _ _=>rfl) (fun gs s e=>(h.opts t gs s e).2) (h.regs t)
theorem Inv.joinIm (h:Inv C S ρ σ own hv w0 σ0 A a w){τ:Im}(hτ:τ.ok w)(hd:∀k,τ.m k≠some cu)(hoc:∀k o v,τ.c k o=some v→own k=none)(hom:∀k v,τ.m k=some v→own k=none)
 (cQ:∀k o v,τ.c k o=some v→σ.c k o=some v∨w0.heap.size≤k) (cK:∀k v,τ.m k=some v→σ.m k=some v∨w0.heap.size≤k)
 (cI:∀t fx cx,FrOK σ own w0.heap.size σ0 w t fx cx→(∀k o v,τ.c k o=some v→¬cx k)∧∀k v,τ.m k=some v→¬cx k):Inv C S ρ (σ.plus τ) own hv w0 σ0 A a w where
 defers:=h.defers.mono (Im.plus_le1 σ τ)
 ok:=Im.plus_ok h.ok hτ
 le:=h.le.trans (Im.plus_le1 σ τ)
 old:=h.old
 newc:=fun k o x e=>(Im.plus_c e).elim (h.newc k o x) fun e=>(cQ k o x e).elim (h.newc k o x) .inr
 newm:=fun k x e=>(Im.plus_m e).elim (h.newm k x) fun e=>(cK k x e).elim (h.newm k x) .inr
 below:=h.below
 bw:=h.bw
 owns:=fun k j hk=>by
  obtain⟨g1,g2,g3,g4⟩:=h.owns k j hk;refine⟨g1,g2,fun o=>?_,?_⟩
  ·cases e:(σ.plus τ).c k o with
   |none=>rfl
   |some x=>
    rcases Im.plus_c e with e|e
    ·rw[g3 o] at e;cases e
    ·rw[hoc k o x e] at hk;cases hk
  ·cases e:(σ.plus τ).m k with
   |none=>rfl
   |some x=>
    rcases Im.plus_m e with e|e
    ·rw[g4] at e;cases e
    ·rw[hom k x e] at hk;cases hk
 regs:=h.mono_regs (Im.plus_le1 σ τ)
 objs:=fun j=>(h.objs j).mono (Im.plus_le1 σ τ) (.refl S hv) rfl rfl fun k hk=>⟨hk,rfl⟩
 opts:=h.opts
 frame:=by
  obtain⟨t,fx,cx,hf,ht⟩:=h.frame;obtain⟨h1,h2⟩:=cI t fx cx hf;exact⟨t,fx,cx,⟨hf.F,hf.own,fun k o x e=>(Im.plus_c e).elim (hf.c k o x) (h1 k o x),fun k x e=>(Im.plus_m e).elim (hf.m k x) (h2 k x),fun k e=>(Im.plus_m e).elim (hf.d k) fun e=>absurd e (hd k)⟩,ht⟩
theorem Inv.keep (h:Inv C S ρ σ own hv w0 σ0 A a w){w':World}{X:Nat→Prop}(hb:Below 0 w w')(hX:∀k,X k→w'.heap[k]?=w.heap[k]?)(h0:∀k,k<w0.heap.size→X k)(ho:∀k j,own k=some j→X k)(hc:∀k o v,σ.c k o=some v→X k)(hm:∀k v,σ.m k=some v→X k)
 (cI:∀t fx cx,FrOK σ own w0.heap.size σ0 w t fx cx→∀k,fx k→X k):Inv C S ρ σ own hv w0 σ0 A a w' where
 defers:=h.defers
 ok:=⟨fun k o v e=>by rw[World.cell?_of_block (hX k (hc k o v e))];exact h.ok.c k o v e,fun k v e=>(h.ok.m k v e).keep (hX k (hm k v e))⟩
 le:=h.le
 old:=h.old
 newc:=h.newc
 newm:=h.newm
 below:=h.below.trans ⟨hb.os,hb.tape,hb.output,hb.size,fun k hk=>hX k (h0 k (Nat.lt_of_lt_of_le hk h.bw))⟩
 bw:=h.bw
 owns:=fun k j hk=>let⟨g1,g2,g3⟩:=h.owns k j hk;⟨g1,Nat.lt_of_lt_of_le g2 hb.size,g3⟩
 regs:=h.regs
 objs:=fun j=>(h.objs j).mono (.refl σ) (.refl S hv) rfl rfl fun k hk=>⟨hk,hX k (ho k j hk)⟩
 opts:=h.opts
 frame:=by
  obtain⟨t,fx,cx,hf,ht⟩:=h.frame;exact⟨t,fx,cx,⟨σ0.keep _ _ _ _ _ hf.F hb fun k hk=>hX k (cI t fx cx hf k hk),hf.own,hf.c,hf.m,hf.d⟩,ht⟩
end
def Base.rnd (σ0:Base)(σ:Im)(own:Nat→Option Nat)(w:World)(t:D)(X:Nat→Prop):Base:=
 {σ with
  B:=σ0.B
  fin:=False
  F:=fun t' fx cx w'=>t'=t∧(∀k,fx k↔(k<w.heap.size∧own k=none∧σ.m k≠some cu∧¬X k))∧(∀k,cx k↔(fx k∧(∀o,σ.c k o=none)∧σ.m k=none))∧w.heap.size≤w'.heap.size∧∀k,fx k→w'.heap[k]?=w.heap[k]?
  lt:=fun t' fx cx w' h k hk=>Nat.lt_of_lt_of_le ((h.2.1 k).1 hk).1 h.2.2.2.1
  sub:=fun t' fx cx w' h k hk=>((h.2.2.1 k).1 hk).1
  keep:=fun t' fx cx w' iM h hb hs=>⟨h.1,h.2.1,h.2.2.1,Nat.le_trans h.2.2.2.1 hb.size,fun k hk=>(hs k hk).trans (h.2.2.2.2 k hk)⟩}
section
variable {C:Ctx} {S S':St} {ρ ρ':Env} {σ σ':Im} {own own':Nat→Option Nat} {hv hv':Nat→Value} {w0:World} {σ0:Base} {A A':Nat→Prop} {a a':Act} {w w':World} {X:Nat→Prop}
theorem Inv.toRnd (h:Inv C S ρ σ own hv w0 σ0 A a w){t:D}(ht:∀j,S.o j=.tr→(∃ys,C.yl=some (j,ys))∧ρ.o j=t):Inv C S ρ σ own hv w0 (σ0.rnd σ own w t X) A a w:=by
 refine⟨h.defers,h.ok,.refl σ,(fun hf=>hf.elim),(fun _ _ _ e=>.inl e),(fun _ _ e=>.inl e),h.below,h.bw,h.owns,h.regs,h.objs,h.opts,t,fun k=>k<w.heap.size∧own k=none∧σ.m k≠some cu∧¬X k,fun k=>(k<w.heap.size∧own k=none∧σ.m k≠some cu∧¬X k)∧(∀o,σ.c k o=none)∧σ.m k=none,
  ⟨⟨rfl,fun _=>.rfl,fun _=>.rfl,Nat.le_refl _,fun _ _=>rfl⟩,fun k j hk hf=>?_,fun k o x e hc=>?_,fun k x e hc=>?_,fun k e _ hf=>hf.2.2.1 e⟩,ht⟩
 ·have:=hf.2.1;rw[hk] at this;cases this
 ·have:=hc.2.1 o;rw[e] at this;cases this
 ·have:=hc.2.2;rw[e] at this;cases this
theorem Inv.markSame {w1:World}(h:σ.ok w1)(h':σ'.ok w')(hle:σ.le σ'){k:Nat}(hk:σ.m k=some cu):w'.heap[k]?=w1.heap[k]?:=by
 have e1:w1.heap[k]?=some (.deferred (some [])):=by
  rcases h.m k _ hk with⟨h1,_⟩|⟨_,h2⟩
  ·exact absurd rfl h1
  ·exact h2
 have e2:w'.heap[k]?=some (.deferred (some [])):=by
  rcases h'.m k _ (hle.m k _ hk) with⟨h1,_⟩|⟨_,h2⟩
  ·exact absurd rfl h1
  ·exact h2
 rw[e1,e2]
theorem Inv.rndSame {w1:World}{t:D}(ax:σ.ok w1)(h':Inv C S' ρ' σ' own' hv' w0 (σ0.rnd σ own w1 t X) A' a' w'){k:Nat}(hk:k<w1.heap.size)(ho:own k=none)(hX:¬X k):w'.heap[k]?=w1.heap[k]?:=by
 by_cases hd:σ.m k=some cu
 ·exact Inv.markSame ax h'.ok h'.le hd
 ·obtain⟨t',fx,cx,hf,_⟩:=h'.frame;obtain⟨_,f2,_,_,f5⟩:=hf.F;exact f5 k ((f2 k).2 ⟨hk,ho,hd,hX⟩)
theorem Inv.rndBelow {w1:World}{t:D}(h:Inv C S ρ σ own hv w0 σ0 A a w1)(h':Inv C S' ρ' σ' own' hv' w0 (σ0.rnd σ own w1 t X) A' a' w'):Below 0 w1 w':=by
 obtain⟨t',fx,cx,hf,_⟩:=h'.frame;obtain⟨_,_,_,f4,_⟩:=hf.F;exact⟨h'.below.os.trans h.below.os.symm,h'.below.tape.trans h.below.tape.symm,h'.below.output.trans h.below.output.symm,f4,fun k hk=>by omega⟩
theorem Inv.rndOwn {w1:World}{t:D}(h':Inv C S' ρ' σ' own' hv' w0 (σ0.rnd σ own w1 t X) A' a' w'){k j:Nat}(hk:own' k=some j)(hX:¬X k):(∃i,own k=some i)∨w1.heap.size≤k:=by
 obtain⟨t',fx,cx,hf,_⟩:=h'.frame;obtain⟨_,f2,_,_,_⟩:=hf.F;cases e:own k with
 |some i=>exact .inl ⟨i,rfl⟩
 |none=>
  refine .inr (Nat.le_of_not_lt fun ah=>?_);by_cases hd:σ.m k=some cu
  ·have:=(h'.owns k j hk).2.2.2;rw[h'.le.m k _ hd] at this;cases this
  ·exact hf.own k j hk ((f2 k).2 ⟨ah,e,hd,hX⟩)
theorem Inv.rndC {w1:World}{t:D}(h':Inv C S' ρ' σ' own' hv' w0 (σ0.rnd σ own w1 t X) A' a' w'){k:Nat}(hk:(∃o x,σ'.c k o=some x)∨∃x,σ'.m k=some x)(hX:¬X k):(∃o x,σ.c k o=some x)∨(∃x,σ.m k=some x)∨(∃i,own k=some i)∨w1.heap.size≤k:=by
 obtain⟨t',fx,cx,hf,_⟩:=h'.frame;obtain⟨_,f2,f3,_,_⟩:=hf.F;cases e:own k with
 |some i=>exact .inr (.inr (.inl ⟨i,rfl⟩))
 |none=>
  by_cases hm:∃x,σ.m k=some x
  ·exact .inr (.inl hm)
  by_cases hc:∃o x,σ.c k o=some x
  ·exact .inl hc
  refine .inr (.inr (.inr (Nat.le_of_not_lt fun ah=>?_)));have VB:σ.m k=none:=by
   cases e2:σ.m k with
   |none=>rfl
   |some x=>exact absurd ⟨x,e2⟩ hm
  have iX:cx k:=(f3 k).2 ⟨(f2 k).2 ⟨ah,e,by rw[VB];simp,hX⟩,fun o=>by
   cases e2:σ.c k o with
   |none=>rfl
   |some x=>exact absurd ⟨o,x,e2⟩ hc,VB⟩
  rcases hk with⟨o,x,hk⟩|⟨x,hk⟩
  ·exact hf.c k o x hk iX
  ·exact hf.m k x hk iX
theorem Inv.ofRnd {w1:World}(h:Inv C S ρ σ own hv w0 σ0 A a w1){t:D}{fx cx:Nat→Prop}(cI:FrOK σ own w0.heap.size σ0 w1 t fx cx)(hX:∀k,fx k→¬X k)(h':Inv C S' ρ' σ' own' hv' w0 (σ0.rnd σ own w1 t X) A' a' w'):
 Inv C S' ρ' σ' own' hv' w0 σ0 A' a' w':=by
 have hb:=h.rndBelow h';have iT:=h';obtain⟨t',kL,ia,hf,ht⟩:=iT.frame;obtain⟨f1,f2,f3,f4,f5⟩:=hf.F;have ah:=σ0.lt _ _ _ _ cI.F;have bV:=σ0.sub _ _ _ _ cI.F
 have mL:∀k,fx k→own k=none:=fun k hk=>by
  cases e:own k with
  |none=>rfl
  |some j=>exact absurd hk (cI.own k j e)
 have jD:∀k,cx k→¬((∃o x,σ'.c k o=some x)∨∃x,σ'.m k=some x):=fun k hk hc=>by
  have h1:=bV k hk;rcases Inv.rndC h' hc (hX k h1) with⟨o,x,e⟩|⟨x,e⟩|⟨j,e⟩|e
  ·exact cI.c k o x e hk
  ·exact cI.m k x e hk
  ·exact cI.own k j e h1
  ·have:=ah k h1;omega
 refine⟨h'.defers,h'.ok,h.le.trans h'.le,h.old,fun k o x e=>(h'.newc k o x e).elim (h.newc k o x) .inr,fun k x e=>(h'.newm k x e).elim (h.newm k x) .inr,h'.below,h'.bw,h'.owns,h'.regs,h'.objs,h'.opts,t,fx,cx,
  ⟨σ0.keep _ _ _ _ _ cI.F hb fun k hk=>Inv.rndSame h.ok h' (ah k hk) (mL k hk) (hX k hk),fun k j hk iZ=>?_,fun k o x e hc=>jD k hc (.inl ⟨o,x,e⟩),fun k x e hc=>jD k hc (.inr ⟨x,e⟩),fun k e hB iZ=>?_⟩,fun j hj=>⟨(ht j hj).1,by rw[(ht j hj).2,f1]⟩⟩
 ·rcases Inv.rndOwn h' hk (hX k iZ) with⟨i,e⟩|e
  ·exact cI.own k i e iZ
  ·have:=ah k iZ;omega
 ·by_cases hd:σ.m k=some cu
  ·exact cI.d k hd hB iZ
  ·exact hf.d k e hB ((f2 k).2 ⟨ah k iZ,mL k iZ,hd,hX k iZ⟩)
theorem Inv.restore (h:Inv C S ρ σ own hv w0 σ0 A a w)(hn:∀t gs s,S.r t≠.opt gs s)(hd:iN σ w0.heap.size a'.defers)(hr:∀t,isNone (S.r t)=false→a'.tmps.getD t undef=a.tmps.getD t undef∧ρ'.r t=ρ.r t)(ho:∀j,lN (S.o j)=false→ρ'.o j=ρ.o j):
 Inv C S ρ' σ own hv w0 σ0 (fun _=>False) a' w:=by
 refine⟨hd,h.ok,h.le,h.old,h.newc,h.newm,h.below,h.bw,h.owns,fun t=>?_,fun j=>?_,fun t gs s e=>absurd e (hn t gs s),?_⟩
 ·cases hs:isNone (S.r t) with
  |true=>cases hc:S.r t<;>rw[hc] at hs<;>simp[isNone] at hs;trivial
  |false=>
   rw[(hr t hs).1,(hr t hs).2];exact aI.mono' (.refl σ) (.refl S hv) (hn t) (h.regs t)
 ·cases hs:lN (S.o j) with
  |true=>cases hc:S.o j<;>rw[hc] at hs<;>simp[lN] at hs;trivial
  |false=>exact(h.objs j).mono (.refl σ) (.refl S hv) rfl (ho j hs) (fun k hk=>⟨hk,rfl⟩)
 ·obtain⟨t,fx,cx,h1,h2⟩:=h.frame;exact⟨t,fx,cx,h1,fun j hj=>⟨(h2 j hj).1,by rw[ho j (by rw[hj];rfl)];exact(h2 j hj).2⟩⟩
theorem iN.mem {σ:Im}{B:Nat}:∀{ds:List Deferred} {d:Deferred},d∈ds→iN σ B ds→∃D,d={target:=.collected D,args:=#[]}∧σ.m D=some cu
 |x::ds,d,hm,⟨⟨D,h1,h2,_⟩,h⟩=>by
  rcases List.mem_cons.1 hm with e|e
  ·subst e;exact⟨D,h1,h2⟩
  ·exact iN.mem e h
def Im.mark (σ:Im)(D:Nat):Im:=⟨σ.c,fun k=>if k=D then some cu else σ.m k⟩
theorem Uc (w:World)(o1 o2:Obj):Below w.heap.size w ((w.alloc o1).alloc o2):=(((Below.refl _ w).alloc (Nat.le_refl _) o1).alloc (by simp) o2)
theorem Inv.enter (h:Inv C S ρ σ own hv w0 σ0 A a w)(r:Loop):
 Inv C S ρ (σ.mark w.heap.size) own hv w0 σ0 A {a with defers:={target:=.collected w.heap.size,args:=#[]}::a.defers} ((w.alloc (.deferred (some []))).alloc (.loop r)):=by
 have hD:((w.alloc (.deferred (some []))).alloc (.loop r)).heap[w.heap.size]?=some (.deferred (some [])):=(Below.heap_alloc _ _ _ (by simp)).trans (World.alloc_heap_new w _);have hle:σ.le (σ.mark w.heap.size):=by
  refine⟨fun _ _ _ e=>e,fun k x e=>?_⟩;have:k≠w.heap.size:=by have:=h.ltm e;omega
  simp[Im.mark,this,e]
 have sB:∀k x,(σ.mark w.heap.size).m k=some x→σ.m k=some x∨(k=w.heap.size∧x=cu):=by
  intro k x e;simp only[Im.mark] at e;split at e
  ·rename_i e2;cases e;exact .inr ⟨e2,rfl⟩
  ·exact .inl e
 have hb:=Uc w (.deferred (some [])) (.loop r);have ax:(σ.mark w.heap.size).ok ((w.alloc (.deferred (some []))).alloc (.loop r)):=by
  have h1:=h.ok.below hb;refine⟨h1.c,fun k x e=>?_⟩;rcases sB k x e with e|⟨rfl,rfl⟩
  ·exact h1.m k x e
  ·exact .inr ⟨rfl,hD⟩
 have hw:=h.world hle ax hb (fun _ _ _ e=>.inl e) (fun k x e=>(sB k x e).imp id fun e=>by omega);have lD:=hw.defers;refine⟨⟨⟨_,rfl,by simp[Im.mark],h.below.size,fun hm=>?_⟩,lD⟩,hw.ok,hw.le,hw.old,hw.newc,hw.newm,hw.below,hw.bw,hw.owns,hw.regs,hw.objs,hw.opts,hw.frame⟩;obtain⟨D,e1,e2⟩:=iN.mem hm h.defers;have:D=w.heap.size:=by cases e1;rfl
 subst this;have:=h.ltm e2;omega
end
end Cx
