/-
  Shared texts of this claim.
-/
import Derived.Test.YtbagcfebdgiihaaGreatDoorTAD
import Derived.Tactics
import Derived.RangeFuncIn
import Derived.OrdersIn
import Derived.RangeFuncRecord
set_option linter.unusedSimpArgs false
set_option linter.unusedVariables false
namespace Cx
open Go Go.RowKit
def oX:Op→Bool
 |.defer _=>false
 |_=>true
def FR (rd:Option Nat):Fence:={Fence.wide with round:=rd}
theorem TL {rd:Option Nat}{n:Nat}{P:Program}{f:FuncId}{args:Array Value}{w:World}{R:Ending→World→Prop}(h:Calls P f args w R):CallsIn (FR rd) n P f args w R:=
 (callsIn_wide (n:=n)).2 h
theorem Zb {rd:Option Nat}{n:Nat}{P:Program}{o:Oper}{a:Act}{w:World}{K:Act→World→Prop}{Q:Exit→Act→World→Prop}(bm:oX o.op=true)(h:o.wp P a w K Q):o.wpIn (FR rd) n P a w K Q:=by
 refine⟨fun _ _=>trivial,?_⟩;rw[Oper.semAt_eq _ _ _ (fun c e=>by rw[e] at bm;cases bm)];unfold Oper.wp at h;generalize (execOp a.eval o).run P w=x at h;have eB:∀{p:Prop},((FR rd).depth.isSome=true→p):=fun e=>by cases e
 cases x with
 |ok v w'=>
  cases v with
  |value v=>exact h
  |skip=>exact h
  |defer d=>exact h
  |enter f args=>
   refine⟨eB,(TL h).mono fun e je hh=>?_⟩;cases e<;>exact hh
  |row row args=>
   refine⟨eB,fun c cs _=>?_⟩;obtain⟨v,w2,h1,h2⟩:=h c cs;exact⟨v,w2,h1,stepsIn_wide.2 h2⟩
  |_=>exact h.elim
 |halt v w'=>
  cases v with
  |panic v=>exact h
  |_=>exact h.elim
structure SameBut (D:Nat→Prop) (a a':Act):Prop where
 size:a'.tmps.size=a.tmps.size
 get:∀t,¬D t→a'.tmps.getD t undef=a.tmps.getD t undef
theorem SameBut.refl (D:Nat→Prop)(a:Act):SameBut D a a:=⟨rfl,fun _ _=>rfl⟩
theorem SameBut.trans {D:Nat→Prop}{a b c:Act}(h:SameBut D a b)(k:SameBut D b c):SameBut D a c:=⟨k.size.trans h.size,fun t ht=>(k.get t ht).trans (h.get t ht)⟩
theorem SameBut.mono {D D':Nat→Prop}{a b:Act}(h:SameBut D a b)(hd:∀t,D t→D' t):SameBut D' a b:=⟨h.size,fun t ht=>h.get t fun e=>ht (hd t e)⟩
theorem SameBut.put (a:Act)(d:Option Tmp)(v:Value)(ds:List Deferred):SameBut (fun t=>d=some t) a ({a with defers:=ds}.put d v):=by
 refine⟨size_put _ _ _,fun t ht=>?_⟩;cases d with
 |none=>rfl
 |some u=>
  have:t≠u:=fun e=>ht (by rw[e]);rw[DG];simp[this]
theorem Oper.wp_same {P:Program}{o:Oper}{a:Act}{w:World}{K:Act→World→Prop}{Q:Exit→Act→World→Prop}(h:o.wp P a w (fun a' w'=>SameBut (fun t=>o.dst=some t) a a'→K a' w') Q):o.wp P a w K Q:=by
 unfold Oper.wp at h ⊢;generalize (execOp a.eval o).run P w=x at h ⊢;cases x with
 |ok v w'=>
  cases v with
  |value v=>exact h (SameBut.put a _ _ a.defers)
  |skip=>exact h (SameBut.put a _ _ a.defers)
  |defer d=>exact h (SameBut.put a _ _ _)
  |enter f args=>
   refine Calls.mono h fun e je hh=>?_;cases e with
   |returned v=>exact hh (SameBut.put a _ _ a.defers)
   |panicked c=>exact hh
   |outgrown=>exact hh
  |row row args=>exact Rows.mono h fun v je hh=>hh (SameBut.put a _ _ a.defers)
  |_=>exact h
 |halt v w'=>
  cases v with
  |panic v=>exact h
  |_=>exact h
def Tf (P:Program)(v:Value)(args:List Value)(w:World)(R:Value→World→Prop):Prop:=
 ∀(rd:Option Nat) (o:Oper) (a:Act) (x:Operand) (aa:Array Operand) (ts:Array TypeId) (K:Act→World→Prop) (Q:Exit→Act→World→Prop),
  o.op=.call {callee:=.value x,args:=aa,argTypes:=ts}→a.eval x=v→aa.toList.map a.eval=args→(∀u w',R u w'→K (a.put o.dst u) w')→o.wpIn (FR rd) 0 P a w K Q
def kS:Nat:=1000000009
def pM (C:Ctx)(Φ:aJ)(w0:World)(σ0:Base):Prop:=∀J ys,C.yl=some (J,ys)→σ0.B=0∧(∀t fx cx w,σ0.F t fx cx w→∃xs,t=.list xs)∧
 ∀(xs ds':List D) (d:D),Φ kS [.list (xs++[.tup ds'])]=some d→∀(fx cx:Nat→Prop) (w1:World) (σ1:Im) (args:List Value),σ0.F (.list xs) fx cx w1→σ1.ok w1→mH C σ1 ys args ds'→
  (∀k o x,σ1.c k o=some x→¬cx k)→(∀k x,σ1.m k=some x→¬cx k)→
  (∀k o x,σ1.c k o=some x→σ0.c k o=some x∨w0.heap.size≤k)→(∀k x,σ1.m k=some x→σ0.m k=some x∨w0.heap.size≤k)→
  Tf C.P C.yv args w1 fun u w2=>∃b,d=.v (.bool b)∧u=.bool b∧Below 0 w1 w2∧(∀k,k<w1.heap.size→¬cx k→w2.heap[k]?=w1.heap[k]?)∧
   ∃la iQ,σ0.F (.list (xs++[.tup ds'])) la iQ w2∧(∀k,la k→k<w1.heap.size→fx k∨(∃o x,σ1.c k o=some x)∨(∃x,σ1.m k=some x∧x≠cL))∧(∀k,iQ k→k<w1.heap.size→cx k)
def I6 (gs:List (Nat×Bool))(J:Nat)(x:PE):PE:=
 match gs with
 |[]=>.app (.o J) (.lst [x])
 |_=>.pick (.nt (.imp gs (.con (.v (.bool false))))) (.app (.o J) (.lst [x])) (.o J)
def Fy (C:Ctx)(S:St)(ops:Array Oper)(o:Oper):Option (St×List PI):=
 match o.dst,o.op,C.yl with
 |some dst,.call {callee:=.value (.tmp t),args:=args,..},some (J,ys)=>
  (xK S ops o).bind fun gs=>
    match lO S gs t with
    |.yv=>
     match(S.fzs (dw S gs args.toList)).o J with
     |.tr=>
      (nQ C (S.fzs (dw S gs args.toList)) gs args.toList).bind fun u=>
        bif Ty.subs u.1 ys then some ((S.fzs (dw S gs args.toList)).setR dst (qp gs (.dat .bool)),[.setO J (I6 gs J (.tup u.2)),.call gs dst kS [.o J]]) else none
     |_=>none
    |_=>none
 |_,_,_=>none
def tQ (C:Ctx)(S:St)(ops:Array Oper)(o:Oper):Option (St×List PI):=
 match Fy C S ops o with
 |some r=>some r
 |none=>Ar C S ops o
section
variable {C:Ctx} {S:St} {ρ:Env} {σ:Im} {own:Nat→Option Nat} {hv:Nat→Value} {w0:World} {σ0:Base} {A:Nat→Prop} {a:Act} {w:World} {gs:List (Nat×Bool)} {Φ:aJ} {dst:Nat}
theorem apo (gs:List (Nat×Bool))(J:Nat)(x:PE)(ρ:Env):(I6 gs J x).ev ρ=if holds gs ρ=true then .list ((ρ.o J).l++[x.ev ρ]) else ρ.o J:=by
 cases gs with
 |nil=>simp[I6,PE.ev,PE.evs,holds,D.l_list]
 |cons g gs=>
  simp only[I6,PE.ev,PE.evs,D.b_bool,D.l_list,Jq,Bool.not_not];cases holds (g::gs) ρ<;>rfl
theorem Inv.yielded (h:Inv C S ρ σ own hv w0 σ0 A a w)(hB:σ0.B=0){J:Nat}{ys:List Ty}(hJ:C.yl=some (J,ys))(F8:S.o J=.tr){w2:World}(hb:Below 0 w w2){t:D}{fx cx:Nat→Prop}(hf:FrOK σ own w0.heap.size σ0 w t fx cx)
 (hs:∀k,k<w.heap.size→¬cx k→w2.heap[k]?=w.heap[k]?) {t':D} {la iQ:Nat→Prop} (hF:σ0.F t' la iQ w2)
 (h1:∀k,la k→k<w.heap.size→fx k∨(∃o x,σ.c k o=some x)∨(∃x,σ.m k=some x∧x≠cL)) (h2:∀k,iQ k→k<w.heap.size→cx k):Inv C S (ρ.setO J t') σ own hv w0 σ0 A a w2:=by
 have cj:=σ0.sub _ _ _ _ hf.F;have cY:∀k o x,σ.c k o=some x→w2.heap[k]?=w.heap[k]?:=fun k o x e=>hs k (h.lt e) (hf.c k o x e);have yc:∀k x,σ.m k=some x→w2.heap[k]?=w.heap[k]?:=fun k x e=>hs k (h.ltm e) (hf.m k x e);have Mc:∀k j,own k=some j→w2.heap[k]?=w.heap[k]?:=fun k j e=>hs k (h.owns k j e).2.1 fun hc=>hf.own k j e (cj k hc)
 refine⟨h.defers,⟨fun k o v e=>by rw[World.cell?_of_block (cY k o v e)];exact h.ok.c k o v e,fun k x e=>(h.ok.m k x e).keep (yc k x e)⟩,h.le,h.old,h.newc,h.newm,h.below.trans (hb.mono (by omega)),h.bw,
  fun k j e=>let⟨g1,g2,g3⟩:=h.owns k j e;⟨g1,pH g2 hb.size,g3⟩,fun u=>aF.mono (S:=S) (ρ:=ρ) (ρ':=ρ.setO J t') (.refl σ) (.refl S hv) (d:=ρ.r u) (fun _ _ _=>rfl) (fun gs s e=>(h.opts u gs s e).2) (h.regs u),fun j=>?_,h.opts,
  t',la,iQ,⟨hF,fun k j e hk=>?_,fun k o x e hc=>hf.c k o x e (h2 k hc (h.lt e)),fun k x e hc=>hf.m k x e (h2 k hc (h.ltm e)),fun k e Ld hk=>?_⟩,fun j hj=>?_⟩
 ·by_cases x9:j=J
  ·subst x9;rw[F8];trivial
  ·exact(h.objs j).mono (.refl σ) (.refl S hv) rfl (by simp[Env.setO,bp _ _ x9]) (fun k e=>⟨e,Mc k j e⟩)
 ·obtain⟨_,g2,g3,g4⟩:=h.owns k j e;rcases h1 k hk g2 with e1|⟨o,x,e1⟩|⟨x,e1,_⟩
  ·exact hf.own k j e e1
  ·rw[g3 o] at e1;cases e1
  ·rw[g4] at e1;cases e1
 ·rcases h1 k hk (h.ltm e) with e1|⟨o,x,e1⟩|⟨x,e1,e2⟩
  ·exact hf.d k e Ld e1
  ·have c1:=h.ok.c k o x e1;rcases h.ok.m k _ e with⟨m1,_⟩|⟨_,m2⟩
   ·exact m1 rfl
   ·simp[World.cell?,m2] at c1
  ·rw[e] at e1;cases e1;exact e2 rfl
 ·obtain⟨_,_,_,_,ht⟩:=h.frame;obtain⟨⟨ys',e1⟩,_⟩:=ht j hj;rw[hJ] at e1;cases e1;exact⟨⟨_,hJ⟩,aK _ _ _⟩
theorem adB {rd:Option Nat}(h:Good C w0 σ0 S ρ A a w)(hC:CtxOK C σ0)(hY:pM C Φ w0 σ0){ops:Array Oper}{o:Oper}(ht:∀d,o.dst=some d→¬A d∧d<a.tmps.size)
 (hj:∀j want t,o.guard=some (j,want)→(ops[j]?).bind (·.dst)=some t→A t) {r:St×List PI} (hr:Fy C S ops o=some r) {ρ':Env} (aj:PI.runs Φ r.2 ρ=some ρ')
 {K:Act→World→Prop} {Q:Exit→Act→World→Prop} (hK:∀a' w',Good C w0 σ0 r.1 ρ' (fun u=>A u∨o.dst=some u) a' w'→SameBut (fun t=>o.dst=some t) a a'→K a' w'):
 if Region.wanted o (yielded ops a.tmps) then o.wpIn (FR rd) 0 C.P a w K Q else K (a.put o.dst undef) w:=by
 unfold Fy at hr;split at hr
 case h_2=>cases hr
 rename_i _ _ dst t args ts J ys hd dA j5;simp only[au] at hr;obtain⟨gs,dy,hr⟩:=hr;split at hr
 case h_2=>cases hr
 rename_i B5;split at hr
 case h_2=>cases hr
 rename_i F8;simp only[au] at hr;obtain⟨u,hu,hr⟩:=hr;cases cj:Ty.subs u.1 ys<;>simp only[cj,cond_true,cond_false] at hr
 ·cases hr
 cases hr;have xW:=UQ h dy hj;rw[UR h dy];obtain⟨σ,own,hv,i⟩:=h;obtain⟨σ1,dj,hle,i1⟩:=Inv.fzs (dw S gs args.toList) i;obtain⟨t1,t2⟩:=ht dst hd;have jw:(fun u=>A u∨o.dst=some u)=(fun u=>A u∨u=dst):=by funext u;rw[hd];simp[eq_comm]
 rw[jw] at hK;simp only[PI.runs,PI.run,nY,apo,au] at aj;cases hh:holds gs ρ with
 |false=>
  simp only[hh,vX,if_false] at aj ⊢;have e1:ρ.setO J (ρ.o J)=ρ:=by
   cases ρ with|mk r o=>simp only[Env.setO];congr 1;funext x;rw[eX];split<;>simp_all
  rw[e1,hh] at aj;obtain⟨ρ1,e2,e3⟩:=aj;cases e2;cases e3;cases gs with
  |nil=>simp[holds] at hh
  |cons g bI=>
   have BK:=i1.passed t1 t2 xW hh (s:=.dat .bool) (fun _ _ e=>by cases e) (ρ.r dst);have e4:ρ.setR dst (ρ.r dst)=ρ:=by
        cases ρ with|mk r o=>simp only[Env.setR];congr 1;funext x;rw[eX];split<;>simp_all
   rw[e4] at BK;rw[hd];exact hK _ _ ⟨_,_,_,BK⟩ (by rw[hd];exact SameBut.put a (some dst) undef a.defers)
 |true=>
  simp only[hh,if_true] at aj ⊢;have gu:=DK i1 hC hh hu cj;obtain⟨tr,fx,cx,hf,qA⟩:=i1.frame;obtain⟨_,hρJ⟩:=qA J F8;obtain⟨hB,ah5,MJ⟩:=hY J ys j5;obtain⟨xs,rfl⟩:=ah5 _ _ _ _ hf.F;rw[hρJ] at aj;simp only[D.l_list,PE.ev] at aj;obtain⟨ρ1,e2,e3⟩:=aj;cases e3;have LJ:holds gs (ρ.setO J (.list (xs++[.tup (PE.evs ρ u.2)])))=true:=hh;rw[LJ] at e2;simp only[cond_true,PE.evs,PE.ev,Env.setO,aK,ax] at e2;obtain⟨d,e4,e5⟩:=e2;have hy:=MJ xs (PE.evs ρ u.2) d e4 fx cx w σ1 (args.toList.map a.eval) hf.F i1.ok gu hf.c hf.m i1.newc i1.newm;have bY:a.eval (.tmp t)=C.yv:=by
   have:=(mC i hh t).1;rw[B5] at this;have h9:a.tmps.getD t undef=C.yv:=this;simpa [Act.eval] using h9
  refine hy rd o a (.tmp t) args ts K Q dA bY rfl fun v w2 nm=>?_;obtain⟨b,rfl,rfl,hb,hs,la,iQ,hF,h1,h2⟩:=nm;have i2:=i1.yielded hB j5 F8 hb hf hs hF h1 h2;refine hK _ _ ?_ (SameBut.put a _ _ a.defers);rw[hd,←e5];change Good C w0 σ0 _ ((ρ.setO J (.list (xs++[.tup (PE.evs ρ u.2)]))).setR dst (.v (.bool b))) _ _ _;have hh3:holds gs ((ρ.setO J (.list (xs++[.tup (PE.evs ρ u.2)]))).setR dst (.v (.bool b)))=true:=by
   rw[BG (t:=dst) fun g hm e=>t1 (by rw[←e];exact xW g hm)];exact LJ
  cases gs with
  |nil=>exact⟨_,_,_,i2.setReg t1 (s:=.dat .bool) (.bool b) t2 (fun _ _ e=>by cases e)⟩
  |cons g bI=>
   refine⟨_,_,_,i2.setReg t1 (s:=.opt (g::bI) (.dat .bool)) ⟨fun _=>.bool b,fun e=>absurd (hh3.symm.trans e) (by decide)⟩ t2 (fun gs s e=>?_)⟩;cases e;exact⟨xW,fun _ _ e=>by cases e⟩
theorem TY {rd:Option Nat}(h:Good C w0 σ0 S ρ A a w)(hC:CtxOK C σ0)(aV:du C)(hΦ:cW C Φ)(hY:pM C Φ w0 σ0){ops:Array Oper}{o:Oper}(bm:oX o.op=true)(ht:∀d,o.dst=some d→¬A d∧d<a.tmps.size)
 (hj:∀j want t,o.guard=some (j,want)→(ops[j]?).bind (·.dst)=some t→A t) {r:St×List PI} (hr:tQ C S ops o=some r) {ρ':Env} (aj:PI.runs Φ r.2 ρ=some ρ')
 {K:Act→World→Prop} {Q:Exit→Act→World→Prop} (hK:∀a' w',Good C w0 σ0 r.1 ρ' (fun u=>A u∨o.dst=some u) a' w'→SameBut (fun t=>o.dst=some t) a a'→K a' w'):
 if Region.wanted o (yielded ops a.tmps) then o.wpIn (FR rd) 0 C.P a w K Q else K (a.put o.dst undef) w:=by
 unfold tQ at hr;split at hr
 ·rename_i q hq;cases hr;exact adB h hC hY ht hj hq aj hK
 ·have:=adA (K:=fun a' w'=>SameBut (fun t=>o.dst=some t) a a'→K a' w') (Q:=Q) h hC aV hΦ ht hj hr aj (fun a' w' g _ hs=>hK a' w' g hs);split
  ·rename_i hw;rw[if_pos hw] at this;exact Zb bm (Oper.wp_same this)
  ·rename_i hw;rw[if_neg hw] at this;exact this (SameBut.put a _ _ a.defers)
end
def ry (C:Ctx)(ops:Array Oper):List Nat→St→Option (St×List PI)
 |[],S=>some (S,[])
 |i::l,S=>
  match ops[i]? with
  |some o=>(tQ C S ops o).bind fun r=>(ry C ops l r.1).map fun q=>(q.1,r.2++q.2)
  |none=>none
def zb (n:Nat)(ops:Array Oper):Bool:=
 iI (ops.toList.filterMap (·.dst))&&ops.toList.all fun o=>oX o.op&&match o.dst with|some d=>Nat.blt d n|none=>true
section
variable {C:Ctx} {S:St} {ρ:Env} {σ:Im} {own:Nat→Option Nat} {hv:Nat→Value} {w0:World} {σ0:Base} {A:Nat→Prop} {a:Act} {w:World} {gs:List (Nat×Bool)} {Φ:aJ} {dst:Nat}
def vI (ops:Array Oper)(done:List Nat):Nat→Prop:=fun t=>∃i o,i∈done∧ops[i]?=some o∧o.dst=some t
theorem Fx.dst_once {ops:Array Oper}(bm:(ops.toList.filterMap (·.dst)).Nodup){i j:Nat}{o o':Oper}{d:Nat}(hi:ops[i]?=some o)(hj:ops[j]?=some o')(hd:o.dst=some d)(fB:o'.dst=some d)(az:i≠j):False:=by
 have key:∀(l:List Oper),(l.filterMap (·.dst)).Nodup→∀(i j:Nat) (o o':Oper),l[i]?=some o→l[j]?=some o'→o.dst=some d→o'.dst=some d→i=j:=by
  intro l
  induction l with
  |nil=>intro _ i j o o' hi;simp at hi
  |cons x l ih=>
   intro bm i j o o' hi hj hd fB;have cO:∀(k:Nat) (y:Oper),l[k]?=some y→y.dst=some d→d∈l.filterMap (·.dst):=fun k y hk hy=>wk.2 ⟨y,jm hk,hy⟩;cases hx:x.dst with
   |none=>
    rw[List.filterMap_cons_none hx] at bm;cases i with
    |zero=>simp at hi;subst hi;rw[hx] at hd;cases hd
    |succ i=>
     cases j with
     |zero=>simp at hj;subst hj;rw[hx] at fB;cases fB
     |succ j=>simp at hi hj;rw[ih bm i j o o' hi hj hd fB]
   |some y=>
    rw[List.filterMap_cons_some hx,mM] at bm;cases i with
    |zero=>
     simp at hi;subst hi;rw[hx] at hd;cases hd;cases j with
     |zero=>rfl
     |succ j=>simp at hj;exact absurd (cO j o' hj fB) bm.1
    |succ i=>
     cases j with
     |zero=>
      simp at hj;subst hj;rw[hx] at fB;cases fB;simp at hi;exact absurd (cO i o hi hd) bm.1
     |succ j=>simp at hi hj;rw[ih bm.2 i j o o' hi hj hd fB]
 exact az (key ops.toList bm i j o o' (by simpa using hi) (by simpa using hj) hd fB)
def xw (ops:Array Oper):Nat→Prop:=fun t=>∃o,o∈ops.toList∧o.dst=some t
theorem Fx (hC:CtxOK C σ0)(aV:du C)(hΦ:cW C Φ)(hY:pM C Φ w0 σ0){ops:Array Oper}{n:Nat}(ar:zb n ops=true){rd:Option Nat}{Q:Exit→Act→World→Prop}:
 ∀(l done:List Nat) {S:St} {ρ ρ':Env} {a:Act} {w:World} {r:St×List PI},(done++l).Nodup→(∀p i q o j want,l=p++i::q→ops[i]?=some o→o.guard=some (j,want)→j∈done++p)→
  a.tmps.size=n→Good C w0 σ0 S ρ (vI ops done) a w→ry C ops l S=some r→PI.runs Φ r.2 ρ=some ρ'→
  (∀a' w',SameBut (xw ops) a a'→Good C w0 σ0 r.1 ρ' (vI ops (done++l)) a' w'→Q .normal a' w')→wpOpsIn (FR rd) 0 C.P ops Q l a w:=by
 simp only[zb,aq] at ar;have bm:=nz ar.1;intro l
 induction l with
 |nil=>
  intro done S ρ ρ' a w r _ _ aL h hr aj hQ;simp only[ry,aS] at hr;subst hr;rw[mB aj] at hQ;simp only[wpOpsIn];exact hQ a w (.refl _ _) (by simpa using h)
 |cons i l ih=>
  intro done S ρ ρ' a w r Lw ln aL h hr aj hQ;simp only[ry] at hr;split at hr
  case h_2=>cases hr
  rename_i o ho;simp only[au,ax] at hr;obtain⟨r1,j3,q,hq,rfl⟩:=hr;simp only[px,au] at aj;obtain⟨ρ1,hρ1,hρ2⟩:=aj;have Lx:∀d,o.dst=some d→¬vI ops done d∧d<a.tmps.size:=by
   intro d hd;refine⟨fun⟨i',o',dH,gK,fB⟩=>?_,?_⟩
   ·
        have az:i'≠i:=by
         intro e;subst e;rw[DZ] at Lw;exact Lw.2.2 i' dH i' (ej ..) rfl
        exact Fx.dst_once bm gK ho fB hd az
   ·have:=db.1 ar.2 o (by
     have:=mI ho;simpa using this)
    simp only[hd,aq] at this;rw[aL];simpa [nX] using this.2
  have hj:∀j want t,o.guard=some (j,want)→(ops[j]?).bind (·.dst)=some t→vI ops done t:=by
   intro j want t hg ht;have:=ln [] i l o j want rfl ho hg;simp only[rf] at this;rw[au] at ht;obtain⟨oj,h1,h2⟩:=ht;exact⟨j,oj,this,h1,h2⟩
  have kz:oX o.op=true:=by
   have:=db.1 ar.2 o (by simpa using mI ho);simp only[aq] at this;exact this.1
  have main:=TY (rd:=rd) (K:=wpOpsIn (FR rd) 0 C.P ops Q l) (Q:=Q) h hC aV hΦ hY kz Lx hj j3 hρ1 (fun a' w' jx gz=>by
   have rY:=gz.size;refine ih (done++[i]) (by simpa using Lw) (fun p i' q' o' j want e gK ahI=>?_) (rY.trans aL) ?_ hq hρ2 (fun a2 w2 s2 g2=>hQ a2 w2 ((gz.mono fun t e=>⟨o,by simpa using mI ho,e⟩).trans s2) (by simpa using g2))
   ·have:=ln (i::p) i' q' o' j want (by rw[e];rfl) gK ahI;simpa using this
   ·have:(fun u=>vI ops done u∨o.dst=some u)=vI ops (done++[i]):=by
     funext u;apply propext;constructor
     ·rintro(⟨i',o',h1,h2,h3⟩|h1)
      ·exact⟨i',o',by simp[h1],h2,h3⟩
      ·exact⟨i,o,by simp,ho,h1⟩
     ·rintro⟨i',o',h1,h2,h3⟩;rcases cS.1 h1 with h4|h4
      ·exact .inl ⟨i',o',h4,h2,h3⟩
      ·simp at h4;subst h4;rw[ho] at h2;cases h2;exact .inr h3
    rw[←this];exact jx)
  simp only[wpOpsIn,ho];split
  ·rename_i hw;rw[if_pos hw] at main;exact main
  ·rename_i hw;rw[if_neg hw] at main;exact⟨fun _ _=>trivial,main⟩
end
end Cx
namespace Cx
open Go Go.RowKit
def Ti (S:St):AgC→Bool
 |.dat _=>true
 |.obj j ver=>Nat.beq ver (S.ver j)
def AgC.zero:AgC→AgC
 |.dat t=>.dat t
 |.obj j _=>.obj j 0
def fR (S:St):Sh→Sh
 |.none=>.none
 |.dat t=>.dat t
 |.obj j ver=>bif Nat.beq ver (S.ver j) then .obj j 0 else .none
 |.ptr j ver off=>bif Nat.beq ver (S.ver j) then .ptr j 0 off else .none
 |.eptr j ver size off=>bif Nat.beq ver (S.ver j) then .eptr j 0 size off else .none
 |.opt _ _=>.none
 |.yv=>.yv
 |.fclo f caps=>bif caps.all (fun c=>Nat.beq c.2 (S.ver c.1)) then .fclo f (caps.map fun c=>(c.1,0)) else .none
 |.agg l=>bif l.all (Ti S) then .agg (l.map AgC.zero) else .none
def gR (S:St):Ob→Ob
 |.box ag shs=>.box ag (shs.map (fR S))
 |ob=>ob
def St.norm (S:St):St:=⟨fun t=>fR S (S.r t),fun j=>gR S (S.o j),fun _=>0⟩
def gQ:Sh→Sh→Sh
 |.dat a,.dat b=>bif Ty.sub a b then .dat b else bif Ty.sub b a then .dat a else .none
 |.obj j v,.obj k u=>bif Nat.beq j k&&Nat.beq v u then .obj j v else .none
 |.ptr j v o,.ptr k u p=>bif Nat.beq j k&&Nat.beq v u&&Nat.beq o p then .ptr j v o else .none
 |.eptr j v s o,.eptr k u t p=>bif Nat.beq j k&&Nat.beq v u&&Nat.beq s t&&Nat.beq o p then .eptr j v s o else .none
 |.yv,.yv=>.yv
 |.fclo f a,.fclo g b=>bif Nat.beq f g&&tE a b then .fclo f a else .none
 |_,_=>.none
def uZ:List Sh→List Sh→Option (List Sh)
 |[],[]=>some []
 |a::aa,b::bs=>(uZ aa bs).map (gQ a b::·)
 |_,_=>none
def lJ:Ob→Ob→Ob
 |.fz a,.fz b=>bif Ty.beq a b then .fz a else .dead
 |.fbox a,.fbox b=>bif Ty.beq a b then .fbox a else .dead
 |.box ag aa,.box bg bs=>bif ag==bg then(match uZ aa bs with|some cs=>.box ag cs|none=>.dead) else .dead
 |.row T e,.row U f=>bif Nat.beq T U&&Ty.beq e f then .row T e else .dead
 |.mp k e,.mp l f=>bif Ty.beq k l&&Ty.beq e f then .mp k e else .dead
 |.it k e,.it l f=>bif Ty.beq k l&&Ty.beq e f then .it k e else .dead
 |.tr,.tr=>.tr
 |_,_=>.dead
section
variable {C:Ctx} {S:St} {ρ:Env} {σ:Im} {own:Nat→Option Nat} {hv:Nat→Value} {w0:World} {σ0:Base} {A:Nat→Prop} {a:Act} {w:World} {gs:List (Nat×Bool)} {Φ:aJ} {dst:Nat}
theorem Hg {s:Sh}{v:Value}{d:D}(h:aF C S ρ σ hv s v d):aF C S.norm ρ σ hv (fR S s) v d∧∀gs s',fR S s≠.opt gs s':=by
 cases s with
 |none=>exact⟨trivial,fun _ _ e=>by cases e⟩
 |dat t=>exact⟨h,fun _ _ e=>by cases e⟩
 |obj j ver=>
  simp only[fR];cases hb:Nat.beq ver (S.ver j)
  ·exact⟨trivial,fun _ _ e=>by cases e⟩
  ·exact⟨⟨aU _,fun _=>h.2 (aw hb)⟩,fun _ _ e=>by cases e⟩
 |ptr j ver off=>
  simp only[fR];cases hb:Nat.beq ver (S.ver j)
  ·exact⟨trivial,fun _ _ e=>by cases e⟩
  ·exact⟨⟨aU _,fun _=>h.2 (aw hb)⟩,fun _ _ e=>by cases e⟩
 |eptr j ver size off=>
  simp only[fR];cases hb:Nat.beq ver (S.ver j)
  ·exact⟨trivial,fun _ _ e=>by cases e⟩
  ·exact⟨⟨aU _,fun _=>h.2 (aw hb)⟩,fun _ _ e=>by cases e⟩
 |opt gs s=>exact⟨trivial,fun _ _ e=>by cases e⟩
 |yv=>exact⟨h,fun _ _ e=>by cases e⟩
 |agg l=>
  simp only[fR];cases hb:l.all (Ti S)
  ·exact⟨trivial,fun _ _ e=>by cases e⟩
  ·refine⟨?_,fun _ _ e=>by cases e⟩;obtain⟨vs,ds,h1,h2,h3,h4,h5⟩:=h;refine⟨vs,ds,h1,h2,by simpa using h3,by simpa using h4,fun i c hi=>?_⟩;simp only[cf,ax] at hi;obtain⟨c0,hc,rfl⟩:=hi;have:=db.1 hb _ (jm hc);have h6:=h5 i c0 hc;cases c0 with
   |dat t=>exact h6
   |obj j ver=>exact⟨aU _,fun _=>h6.2 (aw this)⟩
 |fclo f caps=>
  simp only[fR];cases hb:caps.all (fun c=>Nat.beq c.2 (S.ver c.1))
  ·exact⟨trivial,fun _ _ e=>by cases e⟩
  ·refine⟨?_,fun _ _ e=>by cases e⟩;obtain⟨vs,h1,h2,h3⟩:=h;refine⟨vs,h1,by simpa using h2,fun i j ver hi=>?_⟩;simp only[cf,ax] at hi;obtain⟨⟨j',v'⟩,hc,e⟩:=hi;cases e;have:=db.1 hb _ (jm hc);exact⟨aU _,fun _=>(h3 i _ _ hc).2 (aw this)⟩
theorem Inv.weaken (h:Inv C S ρ σ own hv w0 σ0 A a w){S':St}{ρ':Env}(hr:∀t,aF C S' ρ' σ hv (S'.r t) (a.tmps.getD t undef) (ρ'.r t))(ho:∀j,bU C S' ρ' σ own hv w w0.heap.size j (S'.o j))
 (hn:∀t gs s,S'.r t≠.opt gs s) (ht:∀j,S'.o j=.tr→S.o j=.tr∧ρ'.o j=ρ.o j):Inv C S' ρ' σ own hv w0 σ0 (fun _=>False) a w:=
 ⟨h.defers,h.ok,h.le,h.old,h.newc,h.newm,h.below,h.bw,h.owns,hr,ho,fun t gs s e=>absurd e (hn t gs s),by
   obtain⟨t,fx,cx,h1,h5⟩:=h.frame;exact⟨t,fx,cx,h1,fun j hj=>by rw[(ht j hj).2];exact h5 j (ht j hj).1⟩⟩
theorem Xz {ob:Ob}(h:gR S ob=.tr):ob=.tr:=by
 cases ob<;>simp only[gR] at h<;>first|rfl|cases h
theorem amc {x y:Ob}(h:lJ x y=.tr):x=.tr∧y=.tr:=by
 cases x<;>cases y<;>simp only[lJ] at h<;>first
  |exact⟨rfl,rfl⟩
  |(cases h;done)
  |skip
 ·rename_i a b;cases hb:Ty.beq a b<;>rw[hb] at h<;>cases h
 ·rename_i a b;cases hb:Ty.beq a b<;>rw[hb] at h<;>cases h
 ·rename_i ag aa bg bs;cases hb:ag==bg<;>rw[hb] at h
  ·cases h
  ·simp only[cond_true] at h;split at h<;>cases h
 ·rename_i T e U f;cases hb:(Nat.beq T U&&Ty.beq e f)<;>rw[hb] at h<;>cases h
 ·rename_i T e U f;cases hb:(Ty.beq T U&&Ty.beq e f)<;>rw[hb] at h<;>cases h
 ·rename_i T e U f;cases hb:(Ty.beq T U&&Ty.beq e f)<;>rw[hb] at h<;>cases h
theorem Inv.norm (h:Inv C S ρ σ own hv w0 σ0 A a w):Inv C S.norm ρ σ own hv w0 σ0 (fun _=>False) a w:=by
 refine h.weaken (fun t=>(Hg (h.regs t)).1) (fun j=>?_) (fun t=>(Hg (h.regs t)).2) (fun j hj=>⟨Xz hj,rfl⟩);have aW:=h.objs j;show bU C S.norm ρ σ own hv w w0.heap.size j (gR S (S.o j));cases cI:S.o j with
 |box ag shs=>
  rw[cI] at aW;obtain⟨k,cs,T,ds,h1,h2,h3,h4,h5,h6,h7⟩:=aW;refine⟨k,cs,T,ds,h1,h2,h3,by simpa using h4,h5,by simpa using h6,fun i s hi=>?_⟩;simp only[cf,ax] at hi;obtain⟨s0,hs0,rfl⟩:=hi;have:=Hg (h7 i s0 hs0).2;exact⟨this.2,this.1⟩
 |_=>rw[cI] at aW;exact aW
theorem Eh {b:Bool}{s:Sh}{v:Value}{d:D}(hs:∀gs s',s≠.opt gs s')(h:b=true→aF C S ρ σ hv s v d):aF C S ρ σ hv (bif b then s else .none) v d∧∀gs s',(bif b then s else Sh.none)≠.opt gs s':=by
 cases b with
 |true=>exact⟨h rfl,hs⟩
 |false=>exact⟨trivial,fun _ _ e=>by cases e⟩
theorem Xq {s u:Sh}{v:Value}{d:D}(h:aF C S ρ σ hv s v d):aF C S ρ σ hv (gQ s u) v d∧∀gs s',gQ s u≠.opt gs s':=by
 cases s<;>cases u<;>simp only[gQ]<;>first
  |exact⟨trivial,fun _ _ e=>by cases e⟩
  |exact Eh (fun _ _ e=>by cases e) (fun _=>h)
  |exact⟨h,fun _ _ e=>by cases e⟩
  |skip
 rename_i a b;cases h1:Ty.sub a b
 ·exact Eh (fun _ _ e=>by cases e) (fun _=>h)
 ·exact⟨Rep.sub h h1,fun _ _ e=>by cases e⟩
theorem Xr {s u:Sh}{v:Value}{d:D}(h:aF C S ρ σ hv u v d):aF C S ρ σ hv (gQ s u) v d∧∀gs s',gQ s u≠.opt gs s':=by
 cases s<;>cases u<;>simp only[gQ]<;>first
  |exact⟨trivial,fun _ _ e=>by cases e⟩
  |exact⟨h,fun _ _ e=>by cases e⟩
  |skip
 ·rename_i a b;cases h1:Ty.sub a b
  ·exact Eh (fun _ _ e=>by cases e) (fun h2=>Rep.sub h h2)
  ·exact⟨h,fun _ _ e=>by cases e⟩
 all_goals
  refine Eh (fun _ _ e=>by cases e) (fun hb=>?_);simp only[aq] at hb
  first
   |(obtain⟨⟨⟨h1,h2⟩,h3⟩,h4⟩:=hb;rw[aw h1,aw h2,aw h3,aw h4];exact h)
   |(obtain⟨⟨h1,h2⟩,h3⟩:=hb;rw[aw h1,aw h2,aw h3];exact h)
   |(obtain⟨h1,h2⟩:=hb;rw[aw h1,aw h2];exact h)
   |(obtain⟨h1,h2⟩:=hb;rw[aw h1,Kq _ _ h2];exact h)
theorem Nr:∀(aa bs cs:List Sh),uZ aa bs=some cs→cs.length=aa.length∧cs.length=bs.length∧∀(i:Nat) (c:Sh),cs[i]?=some c→∃x y,aa[i]?=some x∧bs[i]?=some y∧c=gQ x y
 |[],[],cs,h=>by simp[uZ] at h;subst h;simp
 |[],b::bs,cs,h=>by simp[uZ] at h
 |a::aa,[],cs,h=>by simp[uZ] at h
 |a::aa,b::bs,cs,h=>by
  simp only[uZ,ax] at h;obtain⟨ds,hd,rfl⟩:=h;obtain⟨h1,h2,h3⟩:=Nr aa bs ds hd;refine⟨by simp[h1],by simp[h2],fun i c hi=>?_⟩;cases i with
  |zero=>simp at hi;exact⟨a,b,rfl,rfl,hi.symm⟩
  |succ i=>simp at hi;simpa using h3 i c hi
theorem ama {j B:Nat}{x y:Ob}(h:bU C S ρ σ own hv w B j x):bU C S ρ σ own hv w B j (lJ x y):=by
 cases x<;>cases y<;>simp only[lJ]<;>first
  |trivial
  |(rename_i a b;cases Ty.beq a b;·trivial
    ·exact h)
  |skip
 ·rename_i ag aa bg bs;cases ag==bg
  ·trivial
  ·simp only[cond_true];split
   ·rename_i cs cY;obtain⟨l1,l2,rM⟩:=Nr aa bs cs cY;obtain⟨k,cells,T,ds,h1,h2,h3,h4,h5,h6,h7⟩:=h;refine⟨k,cells,T,ds,h1,h2,h3,by omega,h5,by omega,fun i s hi=>?_⟩;obtain⟨x,y,hx,hy,rfl⟩:=rM i s hi;have:=Xq (u:=y) (h7 i x hx).2;exact⟨this.2,this.1⟩
   ·trivial
 ·rename_i T e U f;cases Nat.beq T U&&Ty.beq e f
  ·trivial
  ·exact h
 ·rename_i T e U f;cases Ty.beq T U&&Ty.beq e f
  ·trivial
  ·exact h
 ·rename_i T e U f;cases Ty.beq T U&&Ty.beq e f
  ·trivial
  ·exact h
theorem amb {j B:Nat}{x y:Ob}(h:bU C S ρ σ own hv w B j y):bU C S ρ σ own hv w B j (lJ x y):=by
 cases x<;>cases y<;>simp only[lJ]<;>first
  |trivial
  |skip
 ·rename_i a b;cases hb:Ty.beq a b
  ·trivial
  ·rw[Ty.beq_eq _ _ hb];exact h
 ·rename_i a b;cases hb:Ty.beq a b
  ·trivial
  ·rw[Ty.beq_eq _ _ hb];exact h
 ·rename_i ag aa bg bs;cases ag==bg
  ·trivial
  ·simp only[cond_true];split
   ·rename_i cs cY;obtain⟨l1,l2,rM⟩:=Nr aa bs cs cY;obtain⟨k,cells,T,ds,h1,h2,h3,h4,h5,h6,h7⟩:=h;refine⟨k,cells,T,ds,h1,h2,h3,by omega,h5,by omega,fun i s hi=>?_⟩;obtain⟨x,y,hx,hy,rfl⟩:=rM i s hi;have:=Xr (s:=x) (h7 i y hy).2;exact⟨this.2,this.1⟩
   ·trivial
 ·rename_i T e U f;cases hb:(Nat.beq T U&&Ty.beq e f)
  ·trivial
  ·simp only[aq] at hb;rw[aw hb.1,Ty.beq_eq _ _ hb.2];exact h
 ·rename_i T e U f;cases hb:(Ty.beq T U&&Ty.beq e f)
  ·trivial
  ·simp only[aq] at hb;rw[Ty.beq_eq _ _ hb.1,Ty.beq_eq _ _ hb.2];exact h
 ·rename_i T e U f;cases hb:(Ty.beq T U&&Ty.beq e f)
  ·trivial
  ·simp only[aq] at hb;rw[Ty.beq_eq _ _ hb.1,Ty.beq_eq _ _ hb.2];exact h
end
end Cx
namespace Cx
open Go Go.RowKit
section
variable {C:Ctx} {S T:St} {ρ ρ':Env} {σ:Im} {own:Nat→Option Nat} {hv:Nat→Value} {w0:World} {σ0:Base} {A:Nat→Prop} {a:Act} {w:World} {gs:List (Nat×Bool)} {Φ:aJ} {dst:Nat}
theorem Inv.env (h:Inv C S ρ σ own hv w0 σ0 (fun _=>False) a w)(hn:∀t gs s,S.r t≠.opt gs s)(hr:∀t,isNone (S.r t)=false→ρ'.r t=ρ.r t)(ho:∀j,mf (S.o j)=false→ρ'.o j=ρ.o j):
 Inv C S ρ' σ own hv w0 σ0 (fun _=>False) a w:=by
 refine h.weaken (fun t=>?_) (fun j=>?_) hn (fun j hj=>⟨hj,ho j (by rw[hj];rfl)⟩)
 ·cases hs:isNone (S.r t) with
  |true=>cases hc:S.r t<;>rw[hc] at hs<;>simp[isNone] at hs;trivial
  |false=>
   rw[hr t hs];exact aF.mono' (.refl σ) (.refl S hv) (hn t) (h.regs t)
 ·cases hs:mf (S.o j) with
  |true=>cases hc:S.o j<;>rw[hc] at hs<;>simp[mf] at hs;trivial
  |false=>exact(h.objs j).mono (.refl σ) (.refl S hv) rfl (ho j hs) (fun k hk=>⟨hk,rfl⟩)
end
end Cx
namespace Cx
open Go Go.RowKit
structure Snap where
 rs:List Sh
 os:List Ob
 deriving Inhabited
def cU:List Nat→List Ob→Nat→Ob
 |i::is,o::os,j=>bif Nat.beq i j then o else cU is os j
 |_,_,_=>.dead
def cq:Sh→Sh
 |.opt _ _=>.none
 |s=>s
def Snap.st (ids:List Nat)(s:Snap):St:=⟨fun t=>cq (s.rs.getD t .none),fun j=>cU ids s.os j,fun _=>0⟩
def St.snap (n:Nat)(ids:List Nat)(S:St):Snap:=⟨(List.range n).map fun t=>fR S (S.r t),ids.map fun j=>gR S (S.o j)⟩
def Snap.beq (a b:Snap):Bool:=vM a.rs b.rs&&yG a.os b.os
theorem Snap.beq_eq (a b:Snap)(h:a.beq b=true):a=b:=by
 cases a;cases b;simp only[Snap.beq,aq] at h;rw[P9 _ _ h.1,XF _ _ h.2]
def Snap.meet (a b:Snap):Snap:=⟨List.zipWith gQ a.rs b.rs,List.zipWith lJ a.os b.os⟩
theorem arA (s:Sh):∀gs s',cq s≠.opt gs s':=by
 intro gs s' e;cases s<;>simp[cq] at e
theorem Snap.noOpt (ids:List Nat)(s:Snap):∀t gs s',(s.st ids).r t≠.opt gs s':=fun t=>arA _
section
variable {C:Ctx} {S:St} {ρ:Env} {σ:Im} {own:Nat→Option Nat} {hv:Nat→Value} {w0:World} {σ0:Base} {A:Nat→Prop} {a:Act} {w:World} {n:Nat} {ids:List Nat}
theorem uU (f:Nat→Ob)(P:Ob→Prop)(hd:P .dead)(j:Nat)(hf:P (f j)):∀ids:List Nat,P (cU ids (ids.map f) j)
 |[]=>hd
 |i::is=>by
  simp only[fo,cU];cases hb:Nat.beq i j
  ·exact uU f P hd j hf is
  ·rw[aw hb];exact hf
theorem Jj {s:Sh}{v:Value}{d:D}(h:aF C S ρ σ hv s v d):aF C S ρ σ hv (cq s) v d:=by
 cases s<;>first|exact h|trivial
theorem Inv.snap (h:Inv C S ρ σ own hv w0 σ0 A a w)(n:Nat)(ids:List Nat):Inv C ((S.snap n ids).st ids) ρ σ own hv w0 σ0 (fun _=>False) a w:=by
 have h1:=h.norm;have hc:Compat S.norm hv ((S.snap n ids).st ids) hv:=⟨fun _=>aU _,fun _ _=>rfl⟩
 refine h1.weaken (fun t=>?_) (fun j=>?_) (Snap.noOpt _ _) (fun j hj=>⟨uU (fun j=>gR S (S.o j)) (fun ob=>ob=.tr→gR S (S.o j)=.tr) (fun e=>by cases e) j id ids hj,rfl⟩)
 ·refine aF.mono' (ρ:=ρ) (.refl σ) hc (Snap.noOpt _ _ t) ?_;show aF C S.norm ρ σ hv (cq (((List.range n).map fun t=>fR S (S.r t)).getD t .none)) _ _;refine Jj ?_;rw[aI,cf];by_cases ht:t<n
  ·rw[nU ht];exact h1.regs t
  ·rw[kU (by simpa using ht)];trivial
 ·have ho:=(h1.objs j).mono (.refl σ) hc (w:=w) (w':=w) rfl rfl (fun k hk=>⟨hk,rfl⟩);exact uU (fun j=>gR S (S.o j)) (fun ob=>bU C _ ρ σ own hv w w0.heap.size j ob) trivial j ho ids
theorem Jo {f:Sh→Sh→Sh}:∀(x y:List Sh) (t:Nat),(List.zipWith f x y).getD t .none=.none∨∃s u,x.getD t .none=s∧y.getD t .none=u∧(List.zipWith f x y).getD t .none=f s u
 |[],_,t=>.inl (by simp)
 |_::_,[],t=>.inl (by simp)
 |a::aa,b::bs,0=>.inr ⟨a,b,rfl,rfl,rfl⟩
 |a::aa,b::bs,t+1=>by simpa using Jo (f:=f) aa bs t
theorem G4 {f:Ob→Ob→Ob}:∀(ids:List Nat) (x y:List Ob) (j:Nat),cU ids (List.zipWith f x y) j=.dead∨cU ids (List.zipWith f x y) j=f (cU ids x j) (cU ids y j)
 |[],_,_,_=>.inl rfl
 |_::_,[],_,_=>.inl rfl
 |_::_,_::_,[],_=>.inl rfl
 |i::is,a::aa,b::bs,j=>by
  simp only[List.zipWith_cons_cons,cU];cases Nat.beq i j
  ·exact G4 is aa bs j
  ·exact .inr rfl
theorem ary {s u:Sh}{v:Value}{d:D}(h:aF C S ρ σ hv (cq s) v d):aF C S ρ σ hv (cq (gQ s u)) v d:=by
 cases hs:s with
 |opt gs s'=>cases u<;>simp[gQ,cq,aF]
 |_=>rw[hs] at h;exact Jj (Xq h).1
theorem arz {s u:Sh}{v:Value}{d:D}(h:aF C S ρ σ hv (cq u) v d):aF C S ρ σ hv (cq (gQ s u)) v d:=by
 cases hs:u with
 |opt gs s'=>cases s<;>simp[gQ,cq,aF]
 |_=>rw[hs] at h;exact Jj (Xr h).1
theorem Xs {x y:Snap}{j:Nat}(h:((x.meet y).st ids).o j=.tr):(x.st ids).o j=.tr∧(y.st ids).o j=.tr:=by
 change cU ids (List.zipWith lJ x.os y.os) j=.tr at h;rcases G4 (f:=lJ) ids x.os y.os j with h0|h0
 ·rw[h0] at h;cases h
 ·rw[h0] at h;exact amc h
theorem Snap.meet_ok1 {x y:Snap}(h:Inv C (x.st ids) ρ σ own hv w0 σ0 A a w):Inv C ((x.meet y).st ids) ρ σ own hv w0 σ0 (fun _=>False) a w:=by
 have hc:Compat (x.st ids) hv ((x.meet y).st ids) hv:=⟨fun _=>aU _,fun _ _=>rfl⟩
 refine h.weaken (fun t=>?_) (fun j=>?_) (Snap.noOpt _ _) (fun j hj=>⟨(Xs hj).1,rfl⟩)
 ·refine aF.mono' (ρ:=ρ) (.refl σ) hc (Snap.noOpt _ _ t) ?_;show aF C (x.st ids) ρ σ hv (cq ((List.zipWith gQ x.rs y.rs).getD t .none)) _ _;rcases Jo (f:=gQ) x.rs y.rs t with h0|⟨s,u,h1,h2,h3⟩
  ·rw[h0];trivial
  ·rw[h3];exact ary (by rw[←h1];exact h.regs t)
 ·refine bU.mono (S:=x.st ids) (ρ:=ρ) (own:=own) (hv:=hv) (.refl σ) hc (w:=w) rfl rfl (fun k hk=>⟨hk,rfl⟩) ?_;show bU C _ ρ σ own hv w w0.heap.size j (cU ids (List.zipWith lJ x.os y.os) j);rcases G4 (f:=lJ) ids x.os y.os j with h0|h0
  ·rw[h0];trivial
  ·rw[h0];exact ama (h.objs j)
theorem Snap.meet_ok2 {x y:Snap}(h:Inv C (y.st ids) ρ σ own hv w0 σ0 A a w):Inv C ((x.meet y).st ids) ρ σ own hv w0 σ0 (fun _=>False) a w:=by
 have hc:Compat (y.st ids) hv ((x.meet y).st ids) hv:=⟨fun _=>aU _,fun _ _=>rfl⟩
 refine h.weaken (fun t=>?_) (fun j=>?_) (Snap.noOpt _ _) (fun j hj=>⟨(Xs hj).2,rfl⟩)
 ·refine aF.mono' (ρ:=ρ) (.refl σ) hc (Snap.noOpt _ _ t) ?_;show aF C (y.st ids) ρ σ hv (cq ((List.zipWith gQ x.rs y.rs).getD t .none)) _ _;rcases Jo (f:=gQ) x.rs y.rs t with h0|⟨s,u,h1,h2,h3⟩
  ·rw[h0];trivial
  ·rw[h3];exact arz (by rw[←h2];exact h.regs t)
 ·refine bU.mono (S:=y.st ids) (ρ:=ρ) (own:=own) (hv:=hv) (.refl σ) hc (w:=w) rfl rfl (fun k hk=>⟨hk,rfl⟩) ?_;show bU C _ ρ σ own hv w w0.heap.size j (cU ids (List.zipWith lJ x.os y.os) j);rcases G4 (f:=lJ) ids x.os y.os j with h0|h0
  ·rw[h0];trivial
  ·rw[h0];exact amb (h.objs j)
end
end Cx
namespace Cx
open Go Go.RowKit
def sq (C:Ctx)(S:St)(T:TypeId)(x:Operand):List Nat:=
 match gD S [] x,nr C.P T,C.P.info? T with
 |.ptr j _ off,some true,some inf=>(match S.o j with|.box _ shs=>Ae ((shs.drop off).take inf.size)|_=>[])
 |_,_,_=>[]
def zc (C:Ctx)(S:St):ResultVar→Option (St×Ty×PE)
 |.tmp t=>(use C (S.fzs (dw S [] [.tmp t])) [] (.tmp t)).map fun x=>(S.fzs (dw S [] [.tmp t]),x.1,x.2)
 |.cell b T=>
  match Cq C (S.fzs (sq C S T (.tmp b))) [] 0 T (.tmp b) with
  |some (.dat ty,[.setR 0 e])=>some (S.fzs (sq C S T (.tmp b)),ty,e)
  |some (.obj j ver,[.setR _ _])=>
   bif Nat.beq ver (((S.fzs (sq C S T (.tmp b))).fz j).ver j) then
    match((S.fzs (sq C S T (.tmp b))).fz j).o j with
    |.fz ty=>some ((S.fzs (sq C S T (.tmp b))).fz j,ty,.o j)
    |_=>none
   else none
  |_=>none
def q6 (C:Ctx):List ResultVar→St→Option (St×List Ty×List PE)
 |[],S=>some (S,[],[])
 |x::xs,S=>(zc C S x).bind fun r=>(q6 C xs r.1).map fun q=>(q.1,r.2.1::q.2.1,r.2.2::q.2.2)
def aaA (C:Ctx)(fn:Func)(S:St)(res:Ty):Option PE:=
 (q6 C fn.results.toList S).bind fun r=>
    match r.2.1,r.2.2 with
    |[ty],[e]=>bif Ty.sub ty res then some e else none
    |eG,es=>bif Ty.sub (.tup eG) res then some (.tup es) else none
def aaC (C:Ctx)(fn:Func)(S:St)(T:TypeId)(e:Ty):Option PE:=
 match fn.results.toList with
 |[.tmp t]=>
  match lO S [] t with
  |.obj j ver=>bif Nat.beq ver (S.ver j) then(match S.o j with|.row U f=>bif Nat.beq U T&&Ty.beq f e then some (.o j) else none|_=>none) else none
  |_=>none
 |[.cell b U]=>
  match Cq C S [] 0 U (.tmp b) with
  |some (.obj j ver,[.setR _ _])=>bif Nat.beq ver (S.ver j) then(match S.o j with|.row U f=>bif Nat.beq U T&&Ty.beq f e then some (.o j) else none|_=>none) else none
  |_=>none
 |_=>none
def GY (S:St):Nat→List Sh→Bool
 |_,[]=>true
 |t,s::l=>qN s&&((oP s||isNone s||Sh.beq (S.r t) s)&&GY S (t+1) l)
def MS (S:St)(shs:List Sh)(obs:List (Nat×Ob)):Bool:=GY S 0 shs&&obs.all fun x=>Ob.beq (S.o x.1) x.2
def PZ (eG:List Ty)(es:List PE)(res:Ty):Option PE:=
 match eG,es with
 |[ty],[e]=>bif Ty.sub ty res then some e else none
 |eG,es=>bif Ty.sub (.tup eG) res then some (.tup es) else none
def aaB (C:Ctx)(fn:Func)(S:St)(res:Ty)(shs:List Sh)(obs:List (Nat×Ob)):Option PE:=
 (q6 C fn.results.toList S).bind fun r=>bif MS r.1 shs obs then(PZ r.2.1 r.2.2 res).map fun e=>.tup (e::obs.map fun x=>.o x.1) else none
def vE (C:Ctx)(fn:Func)(s:Sig)(S:St):Option PE:=
 match s.mode with
 |.ob shs obs=>aaB C fn S s.res shs obs
 |.dat=>aaA C fn S s.res
 |.it J=>match fn.results.toList,S.o J with|[],.tr=>some (.o J)|_,_=>none
 |.row T e=>aaC C fn S T e
def II (P:Program)(tmps:Array Value)(w:World):ResultVar→Value→Prop
 |.tmp t,v=>v=tmps.getD t undef
 |.cell a T,v=>∃k,tmps.getD a undef=.pointer (some k)∧(loadVar T k).run P w=.ok v w
def IJ (P:Program)(tmps:Array Value)(w:World):List ResultVar→List Value→Prop
 |[],[]=>True
 |x::xs,v::vs=>II P tmps w x v∧IJ P tmps w xs vs
 |_,_=>False
def sB:List Value→Value
 |[v]=>v
 |vs=>.tuple vs.toArray
section
variable {C:Ctx} {S:St} {ρ:Env} {σ:Im} {own:Nat→Option Nat} {hv:Nat→Value} {w0:World} {σ0:Base} {A:Nat→Prop} {a:Act} {w:World} {gs:List (Nat×Bool)} {Φ:aJ} {dst:Nat}
theorem Xb {P:Program}{tmps:Array Value}{w:World}(f:ResultVar→Sem Value)(Vr:∀t,f (.tmp t)=pure (tmps.getD t undef))(Vs:∀b T,f (.cell b T)=(do loadVar T (←asAddr (tmps.getD b undef)))):
 ∀(l:List ResultVar) (vs:List Value),IJ P tmps w l vs→(l.mapM f).run P w=.ok vs w
 |[],[],_=>by simp[Sem.run_pure]
 |x::l,v::vs,h=>by
  obtain⟨hx,B3⟩:=h;have ih:=Xb f Vr Vs l vs B3;rw[SX];have h1:(f x).run P w=.ok v w:=by
   cases x with
   |tmp t=>rw[Vr];simp only[II] at hx;subst hx;simp[Sem.run_pure]
   |cell b T=>
    obtain⟨k,h1,h2⟩:=hx;rw[Vs,h1];simp[asAddr,h2]
  simp[Sem.run_bind,h1,ih,Sem.run_pure,Result.andThen_ok]
theorem Dt {P:Program}{fn:Func}{tmps:Array Value}{w:World}{vs:List Value}(h:IJ P tmps w fn.results.toList vs):
 (results fn tmps).run P w=.ok (sB vs) w:=by
 unfold results;rw[Array.mapM_eq_mapM_toList];simp only[Sem.run_bind];simp only[bind_map_left,map_eq_pure_bind,Sem.run_bind,bind_assoc,pure_bind];rw[Xb (tmps:=tmps) _ (fun t=>rfl) (fun b T=>rfl) _ _ h];simp only[Result.andThen_ok,Sem.run_pure];rcases vs with _|⟨v,_|⟨u,vs⟩⟩<;>simp[Sem.run_pure,sB]
theorem Nf {o:Oper}{T:TypeId}{b:Nat}{v:Value}(ho:o.op=.load T (.tmp b))(hx:(execOp a.eval o).run C.P w=.ok (.value v) w):II C.P a.tmps w (.cell b T) v:=by
 have he:a.eval (.tmp b)=a.tmps.getD b undef:=by simp[Act.eval]
 simp only[execOp,ho,Instr.loadAt,he] at hx;cases hp:a.tmps.getD b undef with
 |pointer p=>
  cases p with
  |none=>rw[hp] at hx;simp[Instr.sureAddr] at hx
  |some k=>
   rw[hp] at hx;refine⟨k,hp,?_⟩;simp[Instr.sureAddr] at hx;cases hr:(loadVar T k).run C.P w with
   |ok u w'=>rw[hr] at hx;simp at hx;rw[hx.1,hx.2]
   |halt u w'=>rw[hr] at hx;simp at hx
 |_=>rw[hp] at hx;simp[Instr.sureAddr] at hx
theorem aor (h:Inv C S ρ σ own hv w0 σ0 A a w)(hC:CtxOK C σ0){x:ResultVar}{r:St×Ty×PE}(hr:zc C S x=some r):
 ∃σ' own' v,σ.le σ'∧Inv C r.1 ρ σ' own' hv w0 σ0 A a w∧II C.P a.tmps w x v∧Rep C.cap σ' r.2.1 v (r.2.2.ev ρ):=by
 cases x with
 |tmp t=>
  simp only[zc,ax] at hr;obtain⟨y,hy,rfl⟩:=hr;obtain⟨σ1,dj,hle,h1⟩:=Inv.fzs (dw S [] [.tmp t]) h;refine⟨σ1,dj,a.tmps.getD t undef,hle,h1,rfl,?_⟩;have:=bW (gs:=[]) h1 hC rfl hy;simpa [Act.eval] using this
 |cell b T=>
  simp only[zc] at hr;obtain⟨σ1,dj,hle,h1⟩:=Inv.fzs (sq C S T (.tmp b)) h;generalize U8:S.fzs (sq C S T (.tmp b))=S1 at hr h1
  let o:Oper:={(default:Oper) with op:=.load T (.tmp b)}
  split at hr
  ·rename_i ty e hl;cases hr;have hq:=Hz (Φ:=fun _ _=>none) (dst:=0) (gs:=[]) h1 hC rfl hl (o:=o) rfl;obtain⟨v,d,e1,e2,e3,e4⟩:=hq _ rfl;have hd:d=e.ev ρ:=by
        have:=congrArg (fun x:Env=>x.r 0) e1;simpa [Env.setR,aK] using this.symm
   subst hd;exact⟨σ1,dj,v,hle,h1,Nf rfl e2,e3⟩
  ·rename_i j ver t0 e0 hl;have hq:=Hz (Φ:=fun _ _=>none) (dst:=0) (gs:=[]) h1 hC rfl hl (o:=o) rfl;obtain⟨v,d,e1,e2,e3,e4⟩:=hq _ rfl;cases hb:Nat.beq ver ((S1.fz j).ver j)<;>simp only[hb,cond_true,cond_false] at hr
   ·cases hr
   split at hr
   case h_2=>cases hr
   rename_i ty aT;cases hr;obtain⟨σ2,gC,ky,h2⟩:=h1.fz j;refine⟨σ2,gC,v,hle.trans ky,h2,Nf rfl e2,?_⟩;have ho:=h2.objs j;rw[aT] at ho;have dp:ver=S1.ver j:=by rw[aw hb,(FO S1 j).1]
   rw[e3.2 dp];exact ho.2
  ·cases hr
theorem PY (hC:CtxOK C σ0):∀(l:List ResultVar) {S:St} {σ:Im} {own:Nat→Option Nat} {r:St×List Ty×List PE},Inv C S ρ σ own hv w0 σ0 A a w→q6 C l S=some r→
 ∃σ' own' vs,σ.le σ'∧Inv C r.1 ρ σ' own' hv w0 σ0 A a w∧IJ C.P a.tmps w l vs∧vs.length=r.2.1.length∧r.2.2.length=r.2.1.length∧
  ∀(i:Nat) (t:Ty),r.2.1[i]?=some t→Rep C.cap σ' t (vs.getD i undef) ((PE.evs ρ r.2.2).getD i .none)
 |[],S,σ,own,r,h,hr=>by
  simp only[q6,aS] at hr;subst hr;exact⟨σ,own,[],.refl σ,h,trivial,rfl,rfl,fun i t e=>by simp at e⟩
 |x::l,S,σ,own,r,h,hr=>by
  simp only[q6,au,ax] at hr;obtain⟨r1,h1,q,h2,rfl⟩:=hr;obtain⟨σ1,dj,v,hle,i1,hx,bF⟩:=aor h hC h1;obtain⟨σ2,gC,vs,ky,i2,B3,kr,qx,ly⟩:=PY hC l i1 h2;refine⟨σ2,gC,v::vs,hle.trans ky,i2,⟨hx,B3⟩,by simp[kr],by simp[qx],fun i t e=>?_⟩;cases i with
  |zero=>simp at e;subst e;simpa [PE.evs] using bF.mono ky
  |succ i=>simp at e;simpa [PE.evs] using ly i t e
def D3 (C:Ctx)(s:Sig)(σ:Im)(own:Nat→Option Nat)(w0 w:World)(tmps:Array Value)(d:D)(v:Value):Prop:=
 ∀shs obs,s.mode=.ob shs obs→∃hv dr os,d=.tup (dr::os)∧os.length=obs.length∧(∀k j,own k=some j→w0.heap.size≤k∧k<w.heap.size∧(∀o,σ.c k o=none)∧σ.m k=none)∧
  (∀(t:Nat) (sh:Sh),shs[t]?=some sh→oP sh=false→∀d,aF C (eR shs obs) (kF obs [] os) σ hv sh (tmps.getD t undef) d)∧(∀j,bU C (eR shs obs) (kF obs [] os) σ own hv w w0.heap.size j (dB obs j))∧Rep C.cap σ s.res v dr
theorem D3.no {C:Ctx}{s:Sig}{σ:Im}{own:Nat→Option Nat}{w0 w:World}{tmps:Array Value}{d:D}{v:Value}(h:oR s.mode=false):D3 C s σ own w0 w tmps d v:=fun shs obs e=>by rw[e] at h;cases h
def JD (C:Ctx)(w0:World)(σ0:Base)(fn:Func)(s:Sig)(d:D)(a:Act)(w:World):Prop:=
 ∃v σ,(∃own t fx cx,FrOK σ own w0.heap.size σ0 w t fx cx∧(∀J,s.mode=.it J→d=t)∧D3 C s σ own w0 w a.tmps d v)∧(results fn a.tmps).run C.P w=.ok v w∧σ0.le σ∧σ.ok w∧Below σ0.B w0 w∧
  (∀k o x,σ.c k o=some x→σ0.c k o=some x∨w0.heap.size≤k)∧(∀k x,σ.m k=some x→σ0.m k=some x∨w0.heap.size≤k)∧mR C s σ w0 w v d
theorem Inv.fr (h:Inv C S ρ σ own hv w0 σ0 A a w){s:Sig}{d:D}{v:Value}(hm:∀J,s.mode≠.it J)(ho:oR s.mode=false):∃own t fx cx,FrOK σ own w0.heap.size σ0 w t fx cx∧(∀J,s.mode=.it J→d=t)∧D3 C s σ own w0 w a.tmps d v:=by
 obtain⟨t,fx,cx,h1,_⟩:=h.frame;exact⟨own,t,fx,cx,h1,fun J e=>absurd e (hm J),.no ho⟩
theorem aoq {cap:Nat→Option CSig}{eG:List Ty}{es:List PE}{res:Ty}{pe:PE}{vs:List Value}(hr:PZ eG es res=some pe)(kr:vs.length=eG.length)(qx:es.length=eG.length)
 (ly:∀(i:Nat) (t:Ty),eG[i]?=some t→Rep cap σ t (vs.getD i undef) ((PE.evs ρ es).getD i .none)):Rep cap σ res (sB vs) (pe.ev ρ):=by
 have many:eG.length≠1→(bif Ty.sub (.tup eG) res then some (PE.tup es) else none)=some pe→Rep cap σ res (sB vs) (pe.ev ρ):=by
  intro az hr;cases hb:Ty.sub (.tup eG) res<;>simp only[hb,cond_true,cond_false] at hr
  ·cases hr
  cases hr;have bY:sB vs=Value.tuple vs.toArray:=by
   match vs,kr with
   |[],_=>rfl
   |[v],hl=>exact absurd hl.symm az
   |_::_::_,_=>rfl
  rw[bY];exact Rep.sub (Rep.tup _ _ _ (by rw[kr]) (by rw[PE.evs_eq,dM,qx]) ly) hb
 match eG,es,vs,kr,qx,ly,many,hr with
 |[ty],[e],[v],_,_,ly,_,hr=>
  simp only[PZ] at hr;cases hb:Ty.sub ty res<;>simp only[hb,cond_true,cond_false] at hr
  ·cases hr
  cases hr;have:=ly 0 ty rfl;exact Rep.sub (by simpa [PE.evs,sB] using this) hb
 |[],[],_,_,_,_,many,hr=>exact many (by simp) hr
 |_::_::_,_::_::_,_,_,_,_,many,hr=>exact many (by simp) hr
theorem WD:∀{l:List Sh} {k:Nat},GY S k l=true→∀(t:Nat) (s:Sh),l[t]?=some s→oP s=false→qN s=true∧(s=.none∨S.r (k+t)=s)
 |[],k,_,t,s,h,_=>by simp at h
 |x::l,k,hk,t,s,h,hd=>by
  simp only[GY,aq,jh] at hk;cases t with
  |zero=>
   simp at h;subst h;refine⟨hk.1,?_⟩;rcases hk.2.1 with(h1|h1)|h1
   ·rw[hd] at h1;cases h1
   ·left;cases x<;>first|rfl|cases h1
   ·exact .inr (Sh.beq_eq _ _ h1)
  |succ t=>
   simp at h;have:=WD hk.2.2 t s h hd
   rwa [tp,zH 1 t] at this
theorem WU:∀{obs:List (Nat×Ob)},(obs.all fun x=>Ob.beq (S.o x.1) x.2)=true→∀j,dB obs j=.dead∨(S.o j=dB obs j∧lI obs (obs.map fun x=>ρ.o x.1) j=ρ.o j)
 |[],_,j=>.inl rfl
 |x::obs,h,j=>by
  simp only[nS,aq] at h;simp only[dB,fo,lI];cases hb:Nat.beq x.1 j<;>simp only[cond_true,cond_false]
  ·exact WU h.2 j
  ·rw[←aw hb];exact .inr ⟨Ob.beq_eq _ _ h.1,rfl⟩
theorem arx {ty:Ty}{eG:List Ty}{es:List PE}(h:∀ty e,eG=[ty]→es=[e]→False)(hl:es.length=eG.length):eG.length≠1:=by
 intro h1
 match eG,es with
 |[ty],[e]=>exact h ty e rfl rfl
 |[],_=>simp at h1
 |_::_::_,_=>simp at h1
 |[_],[]=>simp at hl
 |[_],_::_::_=>simp at hl
theorem aaD (h:Inv C S ρ σ own hv w0 σ0 A a w){T:TypeId}{e:Ty}{j ver:Nat}{v:Value}{d:D}(hc:aF C S ρ σ hv (.obj j ver) v d){pe:PE}
 (hr:(bif Nat.beq ver (S.ver j) then(match S.o j with|.row U f=>bif Nat.beq U T&&Ty.beq f e then some (PE.o j) else none|_=>none) else none)=some pe):
 ∃cells xs,pe.ev ρ=.list xs∧w.ownsRow w0.heap.size T e.size v xs.length cells∧dL C.cap σ e cells xs∧∀k,v.ownBlock=some k→(∀o,σ.c k o=none)∧σ.m k=none:=by
 cases hb:Nat.beq ver (S.ver j)<;>simp only[hb,cond_true,cond_false] at hr
 ·cases hr
 split at hr
 case h_2=>cases hr
 rename_i U f ho;cases fc:Nat.beq U T&&Ty.beq f e<;>simp only[fc,cond_true,cond_false] at hr
 ·cases hr
 cases hr;simp only[aq] at fc;have hU:=aw fc.1;have hf:=Ty.beq_eq _ _ fc.2;subst hU hf;have hj:=h.objs j;rw[ho] at hj;obtain⟨cells,xs,h1,h2,h3,h4⟩:=hj;have hv':=hc.2 (aw hb);subst hv';exact⟨cells,xs,h1,h2,h3,fun k hk=>(h.owns k j (h4 k hk)).2.2⟩
theorem aaz:∀(l:List ResultVar) {S:St} {r:St×List Ty×List PE},q6 C l S=some r→r.1.ver=S.ver
 |[],S,r,h=>by simp only[q6,aS] at h;subst h;rfl
 |x::l,S,r,h=>by
  simp only[q6,au,ax] at h;obtain⟨r1,h1,q,h2,rfl⟩:=h;rw[aaz l h2];cases x with
  |tmp t=>
   simp only[zc,ax] at h1;obtain⟨y,_,rfl⟩:=h1;exact(oA _ _).1
  |cell b T=>
   simp only[zc] at h1;split at h1
   ·cases h1;exact(oA _ _).1
   ·rename_i j ver t0 e0 _;cases hb:Nat.beq ver (((S.fzs (sq C S T (.tmp b))).fz j).ver j)<;>simp only[hb,cond_true,cond_false] at h1
    ·cases h1
    ·split at h1
     ·cases h1;rw[(FO _ _).1];exact(oA _ _).1
     ·cases h1
   ·cases h1
theorem aos (h:Inv C S ρ σ own hv w0 σ0 A a w)(hC:CtxOK C σ0)(dp:∀j,S.ver j=0){fn:Func}{s:Sig}{pe:PE}(hr:vE C fn s S=some pe):JD C w0 σ0 fn s (pe.ev ρ) a w:=by
 unfold vE at hr;split at hr
 ·rename_i shs obs hm;simp only[aaB,au] at hr;obtain⟨r,aP,hr⟩:=hr;obtain⟨σ1,dj,vs,hle,h1,uD,kr,qx,ly⟩:=PY hC _ h aP;cases hb:MS r.1 shs obs<;>simp only[hb,cond_true,cond_false] at hr
  ·cases hr
  simp only[ax] at hr;obtain⟨e,he,rfl⟩:=hr;simp only[MS,aq] at hb;have bF:=aoq he kr qx ly;obtain⟨t,fx,cx,hf,_⟩:=h1.frame;have rK:Compat r.1 hv (eR shs obs) hv:=⟨fun j=>by rw[aaz _ aP,dp];exact mQ _,fun _ _=>rfl⟩
  have Mc:(PE.evs ρ (e::obs.map fun x=>.o x.1))=e.ev ρ::obs.map (fun x=>ρ.o x.1):=by simp[PE.evs_eq,DR,PE.ev]
  refine⟨_,σ1,⟨dj,t,fx,cx,hf,(fun J e=>by rw[hm] at e;cases e),fun aym axT e'=>?_⟩,Dt uD,h1.le,h1.ok,h1.below,h1.newc,h1.newm,by unfold mR;rw[hm];trivial⟩;rw[hm] at e';cases e';refine⟨hv,e.ev ρ,obs.map fun x=>ρ.o x.1,by simp only[PE.ev];rw[Mc],by simp,h1.owns,fun t sh hs hd d=>?_,fun j=>?_,bF⟩
  ·obtain⟨eD,e1⟩:=WD hb.1 t sh hs hd;rcases e1 with e1|e1
   ·subst e1;trivial
   ·rw[jo] at e1;have:=h1.regs t;rw[e1] at this;have eB:∀gs s',sh≠.opt gs s':=fun gs s' e=>by subst e;cases eD
    have:=aF.mono' (S':=eR shs obs) (ρ':=kF obs [] (obs.map fun x=>ρ.o x.1)) (.refl σ1) rK eB this;cases sh with
    |dat t=>cases hd
    |opt gs s=>cases eD
    |eptr j v o q=>cases eD
    |agg l=>cases eD
    |_=>exact this
  ·rcases WU (ρ:=ρ) hb.2 j with e1|⟨e1,e2⟩
   ·rw[e1];trivial
   ·rw[←e1];exact(h1.objs j).mono (.refl σ1) rK rfl e2 (fun k hk=>⟨hk,rfl⟩)
 ·rename_i hm;simp only[aaA,au] at hr;obtain⟨r,aP,hr⟩:=hr;obtain⟨σ1,dj,vs,hle,h1,uD,kr,qx,ly⟩:=PY hC _ h aP;refine⟨_,σ1,h1.fr (fun J e=>by rw[hm] at e;cases e) (by rw[hm];rfl),Dt uD,h.le.trans hle,h1.ok,h1.below,h1.newc,h1.newm,?_⟩;unfold mR;rw[hm];simp only;split at hr
  ·rename_i ty e e1 e2;rw[e1] at kr ly;rw[e2] at ly;cases hb:Ty.sub ty s.res<;>simp only[hb,cond_true,cond_false] at hr
   ·cases hr
   cases hr;obtain⟨v,rfl⟩:∃v,vs=[v]:=by
        match vs,kr with
        |[v],_=>exact⟨v,rfl⟩
   have:=ly 0 ty rfl;exact Rep.sub (by simpa [PE.evs,sB] using this) hb
  ·rename_i az;cases hb:Ty.sub (.tup r.2.1) s.res<;>simp only[hb,cond_true,cond_false] at hr
   ·cases hr
   cases hr;have VP:=arx (ty:=.bool) az qx;have bY:sB vs=Value.tuple vs.toArray:=by
        match vs,kr with
        |[],_=>rfl
        |[v],hl=>rw[←hl] at VP;exact absurd rfl VP
        |_::_::_,_=>rfl
   rw[bY];refine Rep.sub (Rep.tup _ _ _ (by rw[kr]) (by rw[PE.evs_eq,dM,qx]) ly) hb
 ·rename_i J hm;split at hr
  case h_2=>cases hr
  rename_i j4 hJ;cases hr;obtain⟨t,fx,cx,h1,h2⟩:=h.frame;refine⟨_,σ,⟨own,t,fx,cx,h1,fun J' e=>?_,.no (by rw[hm];rfl)⟩,Dt (vs:=[]) (by rw[j4];trivial),h.le,h.ok,h.below,h.newc,h.newm,by unfold mR;rw[hm];trivial⟩;exact(h2 J hJ).2
 ·rename_i T e hm;have key:∃v,(results fn a.tmps).run C.P w=.ok v w∧∃cells xs,pe.ev ρ=.list xs∧w.ownsRow w0.heap.size T e.size v xs.length cells∧dL C.cap σ e cells xs∧∀k,v.ownBlock=some k→(∀o,σ.c k o=none)∧σ.m k=none:=by
   unfold aaC at hr;split at hr
   ·rename_i t ht;split at hr
    case h_2=>cases hr
    rename_i j ver hs;have hc:=(mC (gs:=[]) h rfl t).1;rw[hs] at hc;exact⟨_,Dt (vs:=[a.tmps.getD t undef]) (by rw[ht];exact⟨rfl,trivial⟩),aaD h hc hr⟩
   ·rename_i b U hb;split at hr
    case h_2=>cases hr
    rename_i j ver t0 e0 hl;have hq:=Hz (Φ:=fun _ _=>none) (dst:=0) (gs:=[]) h hC rfl hl (o:={(default:Oper) with op:=.load U (.tmp b)}) rfl;obtain⟨v,d,e1,e2,e3,e4⟩:=hq _ rfl;exact⟨_,Dt (vs:=[v]) (by rw[hb];exact⟨Nf rfl e2,trivial⟩),aaD h e3 hr⟩
   ·cases hr
  obtain⟨v,h1,h2⟩:=key;refine⟨v,σ,h.fr (fun J e=>by rw[hm] at e;cases e) (by rw[hm];rfl),h1,h.le,h.ok,h.below,h.newc,h.newm,?_⟩;unfold mR;rw[hm];exact h2
theorem ji.drop {σ:Im}{B D:Nat}:∀{ds:List Deferred},({target:=.collected D,args:=#[]}:Deferred)∉ds→ji σ B ds→ji (σ.drop D) B ds
 |[],_,_=>trivial
 |x::ds,hn,⟨⟨D',h1,h2,h3⟩,h⟩=>by
  simp only[cG,not_or] at hn;refine⟨⟨D',h1,?_,h3⟩,ji.drop hn.2 h⟩;have:D'≠D:=fun e=>hn.1 (by rw[h1,e]);simp[Im.drop,this,h2]
theorem Inv.shut (h:Inv C S ρ σ own hv w0 σ0 A a w)(lj:σ0.fin){x:Deferred}{ds:List Deferred}(hd:a.defers=x::ds):
 ∃D,x.target=.collected D∧w.heap[D]?=some (.deferred (some []))∧Inv C S ρ (σ.drop D) own hv w0 σ0 A {a with defers:=ds} (w.putObj D (.deferred none)):=by
 have l0:=h.defers;rw[hd] at l0;obtain⟨⟨D,rfl,hm,hB,L2⟩,qs⟩:=l0;have hD:w.heap[D]?=some (.deferred (some [])):=by
  rcases h.ok.m D _ hm with⟨h1,_⟩|⟨_,h2⟩
  ·exact absurd rfl h1
  ·exact h2
 have gz:∀k,k≠D→(w.putObj D (.deferred none)).heap[k]?=w.heap[k]?:=fun k hk=>World.putObj_heap_other hk;have bt:∀k j,own k=some j→k≠D:=fun k j hk e=>by subst e;rw[(h.owns k j hk).2.2.2] at hm;cases hm
 have hR:Im.leR C.cap σ (σ.drop D):=⟨fun r=>r.drop hm,fun _ _ _ e=>e⟩
 have Bg:∀k x,(σ.drop D).m k=some x→k≠D∧σ.m k=some x:=by
  intro k x hx;simp only[Im.drop] at hx;split at hx
  ·cases hx
  ·rename_i az;exact⟨az,hx⟩
 refine⟨D,rfl,hD,qs.drop L2,⟨fun k o v hc=>?_,fun k es hc=>?_⟩,⟨h.le.c,fun k es hc=>?_⟩,h.old,h.newc,fun k es hc=>h.newm k es (Bg k es hc).2,h.below.trans ⟨rfl,rfl,rfl,by simp,fun k hk=>gz k (by have:=h.bw;omega)⟩,h.bw,fun k j hk=>?_,fun t=>?_,fun j=>?_,h.opts,?_⟩
 ·have h1:=h.ok.c k o v hc;have az:k≠D:=fun e=>by subst e;simp[World.cell?,hD] at h1
  rw[World.cell?_of_block (gz k az)];exact h1
 ·exact(h.ok.m k es (Bg k es hc).2).keep (gz k (Bg k es hc).1)
 ·have az:k≠D:=fun e=>by
   subst e;have:=h.le.m _ _ hc;rw[hm] at this;cases this;have:=h.old lj _ hc;omega
  simp[Im.drop,az,h.le.m k es hc]
 ·obtain⟨g1,g2,g3,g4⟩:=h.owns k j hk;exact⟨g1,by simpa using g2,g3,by simp only[Im.drop];split<;>first|rfl|exact g4⟩
 ·exact aF.monoR hR (.refl S hv) (fun _ _ _=>rfl) (fun gs s e=>(h.opts t gs s e).2) (h.regs t)
 ·exact(h.objs j).monoR hR (.refl S hv) rfl rfl (fun k hk=>⟨hk,gz k (bt k j hk)⟩)
 ·obtain⟨t,fx,cx,hf,ht⟩:=h.frame;exact⟨t,fx,cx,⟨σ0.keep _ _ _ _ _ hf.F ⟨rfl,rfl,rfl,by simp,fun k hk=>by omega⟩ (fun k hk=>gz k fun e=>by subst e;exact hf.d k hm hB hk),hf.own,hf.c,fun k x hx=>hf.m k x (Bg k x hx).2,fun k hx=>hf.d k (Bg k _ hx).2⟩,ht⟩
def nZ (C:Ctx)(w0:World)(σ0:Base)(fn:Func)(s:Sig)(d:D)(tmps:Array Value):List Deferred→World→Prop
 |[],w=>JD C w0 σ0 fn s d {tmps:=tmps,defers:=[]} w
 |x::ds,w=>∃D,x.target=.collected D∧w.heap[D]?=some (.deferred (some []))∧nZ C w0 σ0 fn s d tmps ds (w.putObj D (.deferred none))
theorem Inv.retD (hC:CtxOK C σ0)(dp:∀j,S.ver j=0)(lj:σ0.fin){fn:Func}{s:Sig}{pe:PE}(hr:vE C fn s S=some pe):∀(ds:List Deferred) {σ:Im} {a:Act} {w:World},Inv C S ρ σ own hv w0 σ0 A a w→a.defers=ds→nZ C w0 σ0 fn s (pe.ev ρ) a.tmps ds w
 |[],σ,a,w,h,hd=>by
  have e:a={tmps:=a.tmps,defers:=[]}:=by cases a;simp only at hd;subst hd;rfl
  rw[e] at h;exact aos h hC dp hr
 |x::ds,σ,a,w,h,hd=>by
  obtain⟨D,h1,h2,h3⟩:=h.shut lj hd;exact⟨D,h1,h2,Inv.retD hC dp lj hr ds (a:={a with defers:=ds}) h3 rfl⟩
end
end Cx
namespace Cx
open Go Go.RowKit
def kg (C:Ctx)(f:Nat)(cts ys:List Ty)(ds xs:List D):Prop:=
 ∀(σ:Im) (w:World) (yv:Value) (vs:List Value) (F:D→(Nat→Prop)→(Nat→Prop)→World→Prop) (fx cx:Nat→Prop) (m:Nat),σ.ok w→CtxOK C σ→mH C σ cts vs ds→m≤xs.length→
  (∀t fx cx w,F t fx cx w→∀k,fx k→k<w.heap.size)→(∀t fx cx w,F t fx cx w→∀k,cx k→fx k)→
  (∀t fx cx w w',F t fx cx w→Below 0 w w'→(∀k,fx k→w'.heap[k]?=w.heap[k]?)→F t fx cx w')→
  F (.list []) fx cx w→(∀k o x,σ.c k o=some x→¬cx k)→(∀k x,σ.m k=some x→¬cx k)→
  (∀(i:Nat) (fx cx:Nat→Prop) (w1:World) (σ1:Im) (args:List Value) (ds':List D),i≤m→xs[i]?=some (.tup ds')→F (.list (xs.take i)) fx cx w1→σ1.ok w1→mH C σ1 ys args ds'→
    (∀k o x,σ1.c k o=some x→¬cx k)→(∀k x,σ1.m k=some x→¬cx k)→
    (∀k o x,σ1.c k o=some x→σ.c k o=some x∨w.heap.size≤k)→(∀k x,σ1.m k=some x→σ.m k=some x∨w.heap.size≤k)→
    Tf C.P yv args w1 fun u w2=>u=.bool (decide (i<m))∧Below 0 w1 w2∧(∀k,k<w1.heap.size→¬cx k→w2.heap[k]?=w1.heap[k]?)∧
     ∃la iQ,F (.list (xs.take (i+1))) la iQ w2∧(∀k,la k→k<w1.heap.size→fx k∨(∃o x,σ1.c k o=some x)∨(∃x,σ1.m k=some x∧x≠cL))∧(∀k,iQ k→k<w1.heap.size→cx k))→
  Calls C.P f (#[yv]++vs.toArray) w fun e w'=>(∃v,e=.returned v)∧∃fx cx,F (.list (xs.take (m+1))) fx cx w'
def fm (C:Ctx)(Φ:aJ):Prop:=∀f cs ys,C.cap f=some cs→lE cs.args cs.res=some ys→(∃fn,C.P.funcs[f]?=some fn∧fn.body.isSome=true∧(fn.name== "runtime.NumGoroutine")=false)∧
 ∀ds d,Φ f ds=some d→∃xs,d=.list xs∧(∀x,x∈xs→∃ds',x=.tup ds'∧ds'.length=ys.length)∧kg C f cs.caps ys ds xs
section
variable {C:Ctx} {S:St} {ρ:Env} {σ:Im} {own:Nat→Option Nat} {hv:Nat→Value} {w0:World} {σ0:Base} {A:Nat→Prop} {a:Act} {w:World}
theorem Inv.mono_regs (h:Inv C S ρ σ own hv w0 σ0 A a w){τ:Im}(hle:σ.le τ)(t:Nat):aF C S ρ τ hv (S.r t) (a.tmps.getD t undef) (ρ.r t):=
 aF.mono hle (.refl S hv) (fun _ _ _=>rfl) (fun gs s e=>(h.opts t gs s e).2) (h.regs t)
theorem Inv.joinIm (h:Inv C S ρ σ own hv w0 σ0 A a w){τ:Im}(hτ:τ.ok w)(hd:∀k,τ.m k≠some cL)(hoc:∀k o v,τ.c k o=some v→own k=none)(hom:∀k v,τ.m k=some v→own k=none)
 (dv:∀k o v,τ.c k o=some v→σ.c k o=some v∨w0.heap.size≤k) (cP:∀k v,τ.m k=some v→σ.m k=some v∨w0.heap.size≤k)
 (dx:∀t fx cx,FrOK σ own w0.heap.size σ0 w t fx cx→(∀k o v,τ.c k o=some v→¬cx k)∧∀k v,τ.m k=some v→¬cx k):Inv C S ρ (σ.plus τ) own hv w0 σ0 A a w where
 defers:=h.defers.mono (Im.plus_le1 σ τ)
 ok:=Im.plus_ok h.ok hτ
 le:=h.le.trans (Im.plus_le1 σ τ)
 old:=h.old
 newc:=fun k o x e=>(Im.plus_c e).elim (h.newc k o x) fun e=>(dv k o x e).elim (h.newc k o x) .inr
 newm:=fun k x e=>(Im.plus_m e).elim (h.newm k x) fun e=>(cP k x e).elim (h.newm k x) .inr
 below:=h.below
 bw:=h.bw
 owns:=fun k j hk=>by
  obtain⟨g1,g2,g3,g4⟩:=h.owns k j hk;refine⟨g1,g2,fun o=>?_,?_⟩
  ·cases e:(σ.plus τ).c k o with
   |none=>rfl
   |some x=>
    rcases Im.plus_c e with e|e
    ·rw[g3 o] at e;cases e
    ·rw[hoc k o x e] at hk;cases hk
  ·cases e:(σ.plus τ).m k with
   |none=>rfl
   |some x=>
    rcases Im.plus_m e with e|e
    ·rw[g4] at e;cases e
    ·rw[hom k x e] at hk;cases hk
 regs:=h.mono_regs (Im.plus_le1 σ τ)
 objs:=fun j=>(h.objs j).mono (Im.plus_le1 σ τ) (.refl S hv) rfl rfl fun k hk=>⟨hk,rfl⟩
 opts:=h.opts
 frame:=by
  obtain⟨t,fx,cx,hf,ht⟩:=h.frame;obtain⟨h1,h2⟩:=dx t fx cx hf;exact⟨t,fx,cx,⟨hf.F,hf.own,fun k o x e=>(Im.plus_c e).elim (hf.c k o x) (h1 k o x),fun k x e=>(Im.plus_m e).elim (hf.m k x) (h2 k x),fun k e=>(Im.plus_m e).elim (hf.d k) fun e=>absurd e (hd k)⟩,ht⟩
theorem Inv.keep (h:Inv C S ρ σ own hv w0 σ0 A a w){w':World}{X:Nat→Prop}(hb:Below 0 w w')(hX:∀k,X k→w'.heap[k]?=w.heap[k]?)(h0:∀k,k<w0.heap.size→X k)(ho:∀k j,own k=some j→X k)(hc:∀k o v,σ.c k o=some v→X k)(hm:∀k v,σ.m k=some v→X k)
 (dx:∀t fx cx,FrOK σ own w0.heap.size σ0 w t fx cx→∀k,fx k→X k):Inv C S ρ σ own hv w0 σ0 A a w' where
 defers:=h.defers
 ok:=⟨fun k o v e=>by rw[World.cell?_of_block (hX k (hc k o v e))];exact h.ok.c k o v e,fun k v e=>(h.ok.m k v e).keep (hX k (hm k v e))⟩
 le:=h.le
 old:=h.old
 newc:=h.newc
 newm:=h.newm
 below:=h.below.trans ⟨hb.os,hb.tape,hb.output,hb.size,fun k hk=>hX k (h0 k (pH hk h.bw))⟩
 bw:=h.bw
 owns:=fun k j hk=>let⟨g1,g2,g3⟩:=h.owns k j hk;⟨g1,pH g2 hb.size,g3⟩
 regs:=h.regs
 objs:=fun j=>(h.objs j).mono (.refl σ) (.refl S hv) rfl rfl fun k hk=>⟨hk,hX k (ho k j hk)⟩
 opts:=h.opts
 frame:=by
  obtain⟨t,fx,cx,hf,ht⟩:=h.frame;exact⟨t,fx,cx,⟨σ0.keep _ _ _ _ _ hf.F hb fun k hk=>hX k (dx t fx cx hf k hk),hf.own,hf.c,hf.m,hf.d⟩,ht⟩
end
def Base.rnd (σ0:Base)(σ:Im)(own:Nat→Option Nat)(w:World)(t:D)(X:Nat→Prop):Base:=
 {σ with
  B:=σ0.B
  fin:=False
  F:=fun t' fx cx w'=>t'=t∧(∀k,fx k↔(k<w.heap.size∧own k=none∧σ.m k≠some cL∧¬X k))∧(∀k,cx k↔(fx k∧(∀o,σ.c k o=none)∧σ.m k=none))∧w.heap.size≤w'.heap.size∧∀k,fx k→w'.heap[k]?=w.heap[k]?
  lt:=fun t' fx cx w' h k hk=>pH ((h.2.1 k).1 hk).1 h.2.2.2.1
  sub:=fun t' fx cx w' h k hk=>((h.2.2.1 k).1 hk).1
  keep:=fun t' fx cx w' je h hb hs=>⟨h.1,h.2.1,h.2.2.1,fW h.2.2.2.1 hb.size,fun k hk=>(hs k hk).trans (h.2.2.2.2 k hk)⟩}
section
variable {C:Ctx} {S S':St} {ρ ρ':Env} {σ σ':Im} {own own':Nat→Option Nat} {hv hv':Nat→Value} {w0:World} {σ0:Base} {A A':Nat→Prop} {a a':Act} {w w':World} {X:Nat→Prop}
theorem Inv.toRnd (h:Inv C S ρ σ own hv w0 σ0 A a w){t:D}(ht:∀j,S.o j=.tr→(∃ys,C.yl=some (j,ys))∧ρ.o j=t):Inv C S ρ σ own hv w0 (σ0.rnd σ own w t X) A a w:=by
 refine⟨h.defers,h.ok,.refl σ,(fun hf=>hf.elim),(fun _ _ _ e=>.inl e),(fun _ _ e=>.inl e),h.below,h.bw,h.owns,h.regs,h.objs,h.opts,t,fun k=>k<w.heap.size∧own k=none∧σ.m k≠some cL∧¬X k,fun k=>(k<w.heap.size∧own k=none∧σ.m k≠some cL∧¬X k)∧(∀o,σ.c k o=none)∧σ.m k=none,
  ⟨⟨rfl,fun _=>.rfl,fun _=>.rfl,aU _,fun _ _=>rfl⟩,fun k j hk hf=>?_,fun k o x e hc=>?_,fun k x e hc=>?_,fun k e _ hf=>hf.2.2.1 e⟩,ht⟩
 ·have:=hf.2.1;rw[hk] at this;cases this
 ·have:=hc.2.1 o;rw[e] at this;cases this
 ·have:=hc.2.2;rw[e] at this;cases this
theorem Inv.markSame {w1:World}(h:σ.ok w1)(h':σ'.ok w')(hle:σ.le σ'){k:Nat}(hk:σ.m k=some cL):w'.heap[k]?=w1.heap[k]?:=by
 have e1:w1.heap[k]?=some (.deferred (some [])):=by
  rcases h.m k _ hk with⟨h1,_⟩|⟨_,h2⟩
  ·exact absurd rfl h1
  ·exact h2
 have e2:w'.heap[k]?=some (.deferred (some [])):=by
  rcases h'.m k _ (hle.m k _ hk) with⟨h1,_⟩|⟨_,h2⟩
  ·exact absurd rfl h1
  ·exact h2
 rw[e1,e2]
theorem Inv.rndSame {w1:World}{t:D}(ar:σ.ok w1)(h':Inv C S' ρ' σ' own' hv' w0 (σ0.rnd σ own w1 t X) A' a' w'){k:Nat}(hk:k<w1.heap.size)(ho:own k=none)(hX:¬X k):w'.heap[k]?=w1.heap[k]?:=by
 by_cases hd:σ.m k=some cL
 ·exact Inv.markSame ar h'.ok h'.le hd
 ·obtain⟨t',fx,cx,hf,_⟩:=h'.frame;obtain⟨_,f2,_,_,f5⟩:=hf.F;exact f5 k ((f2 k).2 ⟨hk,ho,hd,hX⟩)
theorem Inv.rndBelow {w1:World}{t:D}(h:Inv C S ρ σ own hv w0 σ0 A a w1)(h':Inv C S' ρ' σ' own' hv' w0 (σ0.rnd σ own w1 t X) A' a' w'):Below 0 w1 w':=by
 obtain⟨t',fx,cx,hf,_⟩:=h'.frame;obtain⟨_,_,_,f4,_⟩:=hf.F;exact⟨h'.below.os.trans h.below.os.symm,h'.below.tape.trans h.below.tape.symm,h'.below.output.trans h.below.output.symm,f4,fun k hk=>by omega⟩
theorem Inv.rndOwn {w1:World}{t:D}(h':Inv C S' ρ' σ' own' hv' w0 (σ0.rnd σ own w1 t X) A' a' w'){k j:Nat}(hk:own' k=some j)(hX:¬X k):(∃i,own k=some i)∨w1.heap.size≤k:=by
 obtain⟨t',fx,cx,hf,_⟩:=h'.frame;obtain⟨_,f2,_,_,_⟩:=hf.F;cases e:own k with
 |some i=>exact .inl ⟨i,rfl⟩
 |none=>
  refine .inr (S4 fun af=>?_);by_cases hd:σ.m k=some cL
  ·have:=(h'.owns k j hk).2.2.2;rw[h'.le.m k _ hd] at this;cases this
  ·exact hf.own k j hk ((f2 k).2 ⟨af,e,hd,hX⟩)
theorem Inv.rndC {w1:World}{t:D}(h':Inv C S' ρ' σ' own' hv' w0 (σ0.rnd σ own w1 t X) A' a' w'){k:Nat}(hk:(∃o x,σ'.c k o=some x)∨∃x,σ'.m k=some x)(hX:¬X k):(∃o x,σ.c k o=some x)∨(∃x,σ.m k=some x)∨(∃i,own k=some i)∨w1.heap.size≤k:=by
 obtain⟨t',fx,cx,hf,_⟩:=h'.frame;obtain⟨_,f2,f3,_,_⟩:=hf.F;cases e:own k with
 |some i=>exact .inr (.inr (.inl ⟨i,rfl⟩))
 |none=>
  by_cases hm:∃x,σ.m k=some x
  ·exact .inr (.inl hm)
  by_cases hc:∃o x,σ.c k o=some x
  ·exact .inl hc
  refine .inr (.inr (.inr (S4 fun af=>?_)));have VL:σ.m k=none:=by
   cases e2:σ.m k with
   |none=>rfl
   |some x=>exact absurd ⟨x,e2⟩ hm
  have fP:cx k:=(f3 k).2 ⟨(f2 k).2 ⟨af,e,by rw[VL];simp,hX⟩,fun o=>by
   cases e2:σ.c k o with
   |none=>rfl
   |some x=>exact absurd ⟨o,x,e2⟩ hc,VL⟩
  rcases hk with⟨o,x,hk⟩|⟨x,hk⟩
  ·exact hf.c k o x hk fP
  ·exact hf.m k x hk fP
theorem Inv.ofRnd {w1:World}(h:Inv C S ρ σ own hv w0 σ0 A a w1){t:D}{fx cx:Nat→Prop}(dx:FrOK σ own w0.heap.size σ0 w1 t fx cx)(hX:∀k,fx k→¬X k)(h':Inv C S' ρ' σ' own' hv' w0 (σ0.rnd σ own w1 t X) A' a' w'):
 Inv C S' ρ' σ' own' hv' w0 σ0 A' a' w':=by
 have hb:=h.rndBelow h';have jv:=h';obtain⟨t',la,iQ,hf,ht⟩:=jv.frame;obtain⟨f1,f2,f3,f4,f5⟩:=hf.F;have af:=σ0.lt _ _ _ _ dx.F;have cj:=σ0.sub _ _ _ _ dx.F
 have VV:∀k,fx k→own k=none:=fun k hk=>by
  cases e:own k with
  |none=>rfl
  |some j=>exact absurd hk (dx.own k j e)
 have j1:∀k,cx k→¬((∃o x,σ'.c k o=some x)∨∃x,σ'.m k=some x):=fun k hk hc=>by
  have h1:=cj k hk;rcases Inv.rndC h' hc (hX k h1) with⟨o,x,e⟩|⟨x,e⟩|⟨j,e⟩|e
  ·exact dx.c k o x e hk
  ·exact dx.m k x e hk
  ·exact dx.own k j e h1
  ·have:=af k h1;omega
 refine⟨h'.defers,h'.ok,h.le.trans h'.le,h.old,fun k o x e=>(h'.newc k o x e).elim (h.newc k o x) .inr,fun k x e=>(h'.newm k x e).elim (h.newm k x) .inr,h'.below,h'.bw,h'.owns,h'.regs,h'.objs,h'.opts,t,fx,cx,
  ⟨σ0.keep _ _ _ _ _ dx.F hb fun k hk=>Inv.rndSame h.ok h' (af k hk) (VV k hk) (hX k hk),fun k j hk gJ=>?_,fun k o x e hc=>j1 k hc (.inl ⟨o,x,e⟩),fun k x e hc=>j1 k hc (.inr ⟨x,e⟩),fun k e hB gJ=>?_⟩,fun j hj=>⟨(ht j hj).1,by rw[(ht j hj).2,f1]⟩⟩
 ·rcases Inv.rndOwn h' hk (hX k gJ) with⟨i,e⟩|e
  ·exact dx.own k i e gJ
  ·have:=af k gJ;omega
 ·by_cases hd:σ.m k=some cL
  ·exact dx.d k hd hB gJ
  ·exact hf.d k e hB ((f2 k).2 ⟨af k gJ,VV k gJ,hd,hX k gJ⟩)
theorem Inv.restore (h:Inv C S ρ σ own hv w0 σ0 A a w)(hn:∀t gs s,S.r t≠.opt gs s)(hd:ji σ w0.heap.size a'.defers)(hr:∀t,isNone (S.r t)=false→a'.tmps.getD t undef=a.tmps.getD t undef∧ρ'.r t=ρ.r t)(ho:∀j,mf (S.o j)=false→ρ'.o j=ρ.o j):
 Inv C S ρ' σ own hv w0 σ0 (fun _=>False) a' w:=by
 refine⟨hd,h.ok,h.le,h.old,h.newc,h.newm,h.below,h.bw,h.owns,fun t=>?_,fun j=>?_,fun t gs s e=>absurd e (hn t gs s),?_⟩
 ·cases hs:isNone (S.r t) with
  |true=>cases hc:S.r t<;>rw[hc] at hs<;>simp[isNone] at hs;trivial
  |false=>
   rw[(hr t hs).1,(hr t hs).2];exact aF.mono' (.refl σ) (.refl S hv) (hn t) (h.regs t)
 ·cases hs:mf (S.o j) with
  |true=>cases hc:S.o j<;>rw[hc] at hs<;>simp[mf] at hs;trivial
  |false=>exact(h.objs j).mono (.refl σ) (.refl S hv) rfl (ho j hs) (fun k hk=>⟨hk,rfl⟩)
 ·obtain⟨t,fx,cx,h1,h2⟩:=h.frame;exact⟨t,fx,cx,h1,fun j hj=>⟨(h2 j hj).1,by rw[ho j (by rw[hj];rfl)];exact(h2 j hj).2⟩⟩
theorem ji.mem {σ:Im}{B:Nat}:∀{ds:List Deferred} {d:Deferred},d∈ds→ji σ B ds→∃D,d={target:=.collected D,args:=#[]}∧σ.m D=some cL
 |x::ds,d,hm,⟨⟨D,h1,h2,_⟩,h⟩=>by
  rcases cG.1 hm with e|e
  ·subst e;exact⟨D,h1,h2⟩
  ·exact ji.mem e h
def Im.mark (σ:Im)(D:Nat):Im:=⟨σ.c,fun k=>if k=D then some cL else σ.m k⟩
theorem Uk (w:World)(o1 o2:Obj):Below w.heap.size w ((w.alloc o1).alloc o2):=(((Below.refl _ w).alloc (aU _) o1).alloc (by simp) o2)
theorem Inv.enter (h:Inv C S ρ σ own hv w0 σ0 A a w)(r:Loop):
 Inv C S ρ (σ.mark w.heap.size) own hv w0 σ0 A {a with defers:={target:=.collected w.heap.size,args:=#[]}::a.defers} ((w.alloc (.deferred (some []))).alloc (.loop r)):=by
 have hD:((w.alloc (.deferred (some []))).alloc (.loop r)).heap[w.heap.size]?=some (.deferred (some [])):=(Below.heap_alloc _ _ _ (by simp)).trans (World.alloc_heap_new w _);have hle:σ.le (σ.mark w.heap.size):=by
  refine⟨fun _ _ _ e=>e,fun k x e=>?_⟩;have:k≠w.heap.size:=by have:=h.ltm e;omega
  simp[Im.mark,this,e]
 have uA:∀k x,(σ.mark w.heap.size).m k=some x→σ.m k=some x∨(k=w.heap.size∧x=cL):=by
  intro k x e;simp only[Im.mark] at e;split at e
  ·rename_i e2;cases e;exact .inr ⟨e2,rfl⟩
  ·exact .inl e
 have hb:=Uk w (.deferred (some [])) (.loop r);have ar:(σ.mark w.heap.size).ok ((w.alloc (.deferred (some []))).alloc (.loop r)):=by
  have h1:=h.ok.below hb;refine⟨h1.c,fun k x e=>?_⟩;rcases uA k x e with e|⟨rfl,rfl⟩
  ·exact h1.m k x e
  ·exact .inr ⟨rfl,hD⟩
 have hw:=h.world hle ar hb (fun _ _ _ e=>.inl e) (fun k x e=>(uA k x e).imp id fun e=>by omega);have l0:=hw.defers;refine⟨⟨⟨_,rfl,by simp[Im.mark],h.below.size,fun hm=>?_⟩,l0⟩,hw.ok,hw.le,hw.old,hw.newc,hw.newm,hw.below,hw.bw,hw.owns,hw.regs,hw.objs,hw.opts,hw.frame⟩;obtain⟨D,e1,e2⟩:=ji.mem hm h.defers;have:D=w.heap.size:=by cases e1;rfl
 subst this;have:=h.ltm e2;omega
end
end Cx
