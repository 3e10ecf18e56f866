/-
  Shared texts of this claim.
-/
import Derived.Test.YtbagcfebdgiihaaGreatDoorSAD
import Derived.Tactics
import Derived.RangeFuncIn
import Derived.OrdersIn
import Derived.RangeFuncRecord
set_option linter.unusedSimpArgs false
set_option linter.unusedVariables false
namespace Cx
open Go Go.RowKit
def pM:Op→Bool
 |.defer _=>false
 |_=>true
def FR (rd:Option Nat):Fence:={Fence.wide with round:=rd}
theorem TP {rd:Option Nat}{n:Nat}{P:Program}{f:FuncId}{args:Array Value}{w:World}{R:Ending→World→Prop}(h:Calls P f args w R):CallsIn (FR rd) n P f args w R:=
 (callsIn_wide (n:=n)).2 h
theorem Zl {rd:Option Nat}{n:Nat}{P:Program}{o:Oper}{a:Act}{w:World}{K:Act→World→Prop}{Q:Exit→Act→World→Prop}(bm:pM o.op=true)(h:o.wp P a w K Q):o.wpIn (FR rd) n P a w K Q:=by
 refine⟨fun _ _=>trivial,?_⟩;rw[Oper.semAt_eq _ _ _ (fun c e=>by rw[e] at bm;cases bm)];unfold Oper.wp at h;generalize (execOp a.eval o).run P w=x at h;have eG:∀{p:Prop},((FR rd).depth.isSome=true→p):=fun e=>by cases e
 cases x with
 |ok v w'=>
  cases v with
  |value v=>exact h
  |skip=>exact h
  |defer d=>exact h
  |enter f args=>
   refine⟨eG,(TP h).mono fun e jw hh=>?_⟩;cases e<;>exact hh
  |row row args=>
   refine⟨eG,fun c cs _=>?_⟩;obtain⟨v,w2,h1,h2⟩:=h c cs;exact⟨v,w2,h1,stepsIn_wide.2 h2⟩
  |_=>exact h.elim
 |halt v w'=>
  cases v with
  |panic v=>exact h
  |_=>exact h.elim
structure SameBut (D:Nat→Prop) (a a':Act):Prop where
 size:a'.tmps.size=a.tmps.size
 get:∀t,¬D t→a'.tmps.getD t undef=a.tmps.getD t undef
theorem SameBut.refl (D:Nat→Prop)(a:Act):SameBut D a a:=⟨rfl,fun _ _=>rfl⟩
theorem SameBut.trans {D:Nat→Prop}{a b c:Act}(h:SameBut D a b)(k:SameBut D b c):SameBut D a c:=⟨k.size.trans h.size,fun t ht=>(k.get t ht).trans (h.get t ht)⟩
theorem SameBut.mono {D D':Nat→Prop}{a b:Act}(h:SameBut D a b)(hd:∀t,D t→D' t):SameBut D' a b:=⟨h.size,fun t ht=>h.get t fun e=>ht (hd t e)⟩
theorem SameBut.put (a:Act)(d:Option Tmp)(v:Value)(ds:List Deferred):SameBut (fun t=>d=some t) a ({a with defers:=ds}.put d v):=by
 refine⟨size_put _ _ _,fun t ht=>?_⟩;cases d with
 |none=>rfl
 |some u=>
  have:t≠u:=fun e=>ht (by rw[e]);rw[DX];simp[this]
theorem Oper.wp_same {P:Program}{o:Oper}{a:Act}{w:World}{K:Act→World→Prop}{Q:Exit→Act→World→Prop}(h:o.wp P a w (fun a' w'=>SameBut (fun t=>o.dst=some t) a a'→K a' w') Q):o.wp P a w K Q:=by
 unfold Oper.wp at h ⊢;generalize (execOp a.eval o).run P w=x at h ⊢;cases x with
 |ok v w'=>
  cases v with
  |value v=>exact h (SameBut.put a _ _ a.defers)
  |skip=>exact h (SameBut.put a _ _ a.defers)
  |defer d=>exact h (SameBut.put a _ _ _)
  |enter f args=>
   refine Calls.mono h fun e jw hh=>?_;cases e with
   |returned v=>exact hh (SameBut.put a _ _ a.defers)
   |panicked c=>exact hh
   |outgrown=>exact hh
  |row row args=>exact Rows.mono h fun v jw hh=>hh (SameBut.put a _ _ a.defers)
  |_=>exact h
 |halt v w'=>
  cases v with
  |panic v=>exact h
  |_=>exact h
def Tj (P:Program)(v:Value)(args:List Value)(w:World)(R:Value→World→Prop):Prop:=
 ∀(rd:Option Nat) (o:Oper) (a:Act) (x:Operand) (aa:Array Operand) (ts:Array TypeId) (K:Act→World→Prop) (Q:Exit→Act→World→Prop),
  o.op=.call {callee:=.value x,args:=aa,argTypes:=ts}→a.eval x=v→aa.toList.map a.eval=args→(∀u w',R u w'→K (a.put o.dst u) w')→o.wpIn (FR rd) 0 P a w K Q
def ln:Nat:=1000000009
def qn (C:Ctx)(Φ:aJ)(w0:World)(σ0:Base):Prop:=∀J ys,C.yl=some (J,ys)→σ0.B=0∧(∀t fx cx w,σ0.F t fx cx w→∃xs,t=.list xs)∧
 ∀(xs ds':List D) (d:D),Φ ln [.list (xs++[.tup ds'])]=some d→∀(fx cx:Nat→Prop) (w1:World) (σ1:Im) (args:List Value),σ0.F (.list xs) fx cx w1→σ1.ok w1→na C σ1 ys args ds'→
  (∀k o x,σ1.c k o=some x→¬cx k)→(∀k x,σ1.m k=some x→¬cx k)→
  (∀k o x,σ1.c k o=some x→σ0.c k o=some x∨w0.heap.size≤k)→(∀k x,σ1.m k=some x→σ0.m k=some x∨w0.heap.size≤k)→
  Tj C.P C.yv args w1 fun u w2=>∃b,d=.v (.bool b)∧u=.bool b∧Below 0 w1 w2∧(∀k,k<w1.heap.size→¬cx k→w2.heap[k]?=w1.heap[k]?)∧
   ∃lF jd,σ0.F (.list (xs++[.tup ds'])) lF jd w2∧(∀k,lF k→k<w1.heap.size→fx k∨(∃o x,σ1.c k o=some x)∨(∃x,σ1.m k=some x∧x≠cL))∧(∀k,jd k→k<w1.heap.size→cx k)
def Jh (gs:List (Nat×Bool))(J:Nat)(x:PE):PE:=
 match gs with
 |[]=>.app (.o J) (.lst [x])
 |_=>.pick (.nt (.imp gs (.con (.v (.bool false))))) (.app (.o J) (.lst [x])) (.o J)
def FU (C:Ctx)(S:St)(ops:Array Oper)(o:Oper):Option (St×List PI):=
 match o.dst,o.op,C.yl with
 |some dst,.call {callee:=.value (.tmp t),args:=args,..},some (J,ys)=>
  (yd S ops o).bind fun gs=>
    match mc S gs t with
    |.yv=>
     match(S.fzs (dA S gs args.toList)).o J with
     |.tr=>
      (oD C (S.fzs (dA S gs args.toList)) gs args.toList).bind fun u=>
        bif Ty.subs u.1 ys then some ((S.fzs (dA S gs args.toList)).setR dst (qN gs (.dat .bool)),[.setO J (Jh gs J (.tup u.2)),.call gs dst ln [.o J]]) else none
     |_=>none
    |_=>none
 |_,_,_=>none
def uw (C:Ctx)(S:St)(ops:Array Oper)(o:Oper):Option (St×List PI):=
 match FU C S ops o with
 |some r=>some r
 |none=>AO C S ops o
section
variable {C:Ctx} {S:St} {ρ:Env} {σ:Im} {own:Nat→Option Nat} {hv:Nat→Value} {w0:World} {σ0:Base} {A:Nat→Prop} {a:Act} {w:World} {gs:List (Nat×Bool)} {Φ:aJ} {dst:Nat}
theorem apI (gs:List (Nat×Bool))(J:Nat)(x:PE)(ρ:Env):(Jh gs J x).ev ρ=if holds gs ρ=true then .list ((ρ.o J).l++[x.ev ρ]) else ρ.o J:=by
 cases gs with
 |nil=>simp[Jh,PE.ev,PE.evs,holds,D.l_list]
 |cons g gs=>
  simp only[Jh,PE.ev,PE.evs,D.b_bool,D.l_list,Jz,Bool.not_not];cases holds (g::gs) ρ<;>rfl
theorem Inv.yielded (h:Inv C S ρ σ own hv w0 σ0 A a w)(hB:σ0.B=0){J:Nat}{ys:List Ty}(hJ:C.yl=some (J,ys))(Gl:S.o J=.tr){w2:World}(hb:Below 0 w w2){t:D}{fx cx:Nat→Prop}(hf:FrOK σ own w0.heap.size σ0 w t fx cx)
 (hs:∀k,k<w.heap.size→¬cx k→w2.heap[k]?=w.heap[k]?) {t':D} {lF jd:Nat→Prop} (hF:σ0.F t' lF jd w2)
 (h1:∀k,lF k→k<w.heap.size→fx k∨(∃o x,σ.c k o=some x)∨(∃x,σ.m k=some x∧x≠cL)) (h2:∀k,jd k→k<w.heap.size→cx k):Inv C S (ρ.setO J t') σ own hv w0 σ0 A a w2:=by
 have bT:=σ0.sub _ _ _ _ hf.F;have da:∀k o x,σ.c k o=some x→w2.heap[k]?=w.heap[k]?:=fun k o x e=>hs k (h.lt e) (hf.c k o x e);have yB:∀k x,σ.m k=some x→w2.heap[k]?=w.heap[k]?:=fun k x e=>hs k (h.ltm e) (hf.m k x e);have Mj:∀k j,own k=some j→w2.heap[k]?=w.heap[k]?:=fun k j e=>hs k (h.owns k j e).2.1 fun hc=>hf.own k j e (bT k hc)
 refine⟨h.defers,⟨fun k o v e=>by rw[World.cell?_of_block (da k o v e)];exact h.ok.c k o v e,fun k x e=>(h.ok.m k x e).keep (yB k x e)⟩,h.le,h.old,h.newc,h.newm,h.below.trans (hb.mono (by omega)),h.bw,
  fun k j e=>let⟨g1,g2,g3⟩:=h.owns k j e;⟨g1,qj g2 hb.size,g3⟩,fun u=>aF.mono (S:=S) (ρ:=ρ) (ρ':=ρ.setO J t') (.refl σ) (.refl S hv) (d:=ρ.r u) (fun _ _ _=>rfl) (fun gs s e=>(h.opts u gs s e).2) (h.regs u),fun j=>?_,h.opts,
  t',lF,jd,⟨hF,fun k j e hk=>?_,fun k o x e hc=>hf.c k o x e (h2 k hc (h.lt e)),fun k x e hc=>hf.m k x e (h2 k hc (h.ltm e)),fun k e Lp hk=>?_⟩,fun j hj=>?_⟩
 ·by_cases yy:j=J
  ·subst yy;rw[Gl];trivial
  ·exact(h.objs j).mono (.refl σ) (.refl S hv) rfl (by simp[Env.setO,bq _ _ yy]) (fun k e=>⟨e,Mj k j e⟩)
 ·obtain⟨_,g2,g3,g4⟩:=h.owns k j e;rcases h1 k hk g2 with e1|⟨o,x,e1⟩|⟨x,e1,_⟩
  ·exact hf.own k j e e1
  ·rw[g3 o] at e1;cases e1
  ·rw[g4] at e1;cases e1
 ·rcases h1 k hk (h.ltm e) with e1|⟨o,x,e1⟩|⟨x,e1,e2⟩
  ·exact hf.d k e Lp e1
  ·have c1:=h.ok.c k o x e1;rcases h.ok.m k _ e with⟨m1,_⟩|⟨_,m2⟩
   ·exact m1 rfl
   ·simp[World.cell?,m2] at c1
  ·rw[e] at e1;cases e1;exact e2 rfl
 ·obtain⟨_,_,_,_,ht⟩:=h.frame;obtain⟨⟨ys',e1⟩,_⟩:=ht j hj;rw[hJ] at e1;cases e1;exact⟨⟨_,hJ⟩,aL _ _ _⟩
theorem adC {rd:Option Nat}(h:Good C w0 σ0 S ρ A a w)(hC:CtxOK C σ0)(hY:qn C Φ w0 σ0){ops:Array Oper}{o:Oper}(ht:∀d,o.dst=some d→¬A d∧d<a.tmps.size)
 (hj:∀j want t,o.guard=some (j,want)→(ops[j]?).bind (·.dst)=some t→A t) {r:St×List PI} (hr:FU C S ops o=some r) {ρ':Env} (aj:PI.runs Φ r.2 ρ=some ρ')
 {K:Act→World→Prop} {Q:Exit→Act→World→Prop} (hK:∀a' w',Good C w0 σ0 r.1 ρ' (fun u=>A u∨o.dst=some u) a' w'→SameBut (fun t=>o.dst=some t) a a'→K a' w'):
 if Region.wanted o (yielded ops a.tmps) then o.wpIn (FR rd) 0 C.P a w K Q else K (a.put o.dst undef) w:=by
 unfold FU at hr;split at hr
 case h_2=>cases hr
 rename_i _ _ dst t args ts J ys hd dD ko;simp only[ar] at hr;obtain⟨gs,dC,hr⟩:=hr;split at hr
 case h_2=>cases hr
 rename_i Cm;split at hr
 case h_2=>cases hr
 rename_i Gl;simp only[ar] at hr;obtain⟨u,hu,hr⟩:=hr;cases bT:Ty.subs u.1 ys<;>simp only[bT,cond_true,cond_false] at hr
 ·cases hr
 cases hr;have yt:=UY h dC hj;rw[UZ h dC];obtain⟨σ,own,hv,i⟩:=h;obtain⟨σ1,dq,hle,i1⟩:=Inv.fzs (dA S gs args.toList) i;obtain⟨t1,t2⟩:=ht dst hd;have jJ:(fun u=>A u∨o.dst=some u)=(fun u=>A u∨u=dst):=by funext u;rw[hd];simp[eq_comm]
 rw[jJ] at hK;simp only[PI.runs,PI.run,oL,apI,ar] at aj;cases hh:holds gs ρ with
 |false=>
  simp only[hh,wG,if_false] at aj ⊢;have e1:ρ.setO J (ρ.o J)=ρ:=by
   cases ρ with|mk r o=>simp only[Env.setO];congr 1;funext x;rw[fg];split<;>simp_all
  rw[e1,hh] at aj;obtain⟨ρ1,e2,e3⟩:=aj;cases e2;cases e3;cases gs with
  |nil=>simp[holds] at hh
  |cons g bJ=>
   have B4:=i1.passed t1 t2 yt hh (s:=.dat .bool) (fun _ _ e=>by cases e) (ρ.r dst);have e4:ρ.setR dst (ρ.r dst)=ρ:=by
        cases ρ with|mk r o=>simp only[Env.setR];congr 1;funext x;rw[fg];split<;>simp_all
   rw[e4] at B4;rw[hd];exact hK _ _ ⟨_,_,_,B4⟩ (by rw[hd];exact SameBut.put a (some dst) undef a.defers)
 |true=>
  simp only[hh,if_true] at aj ⊢;have gB:=D2 i1 hC hh hu bT;obtain⟨tr,fx,cx,hf,q6⟩:=i1.frame;obtain⟨_,hρJ⟩:=q6 J Gl;obtain⟨hB,aia,MT⟩:=hY J ys ko;obtain⟨xs,rfl⟩:=aia _ _ _ _ hf.F;rw[hρJ] at aj;simp only[D.l_list,PE.ev] at aj;obtain⟨ρ1,e2,e3⟩:=aj;cases e3;have VD:holds gs (ρ.setO J (.list (xs++[.tup (PE.evs ρ u.2)])))=true:=hh;rw[VD] at e2;simp only[cond_true,PE.evs,PE.ev,Env.setO,aL,ax] at e2;obtain⟨d,e4,e5⟩:=e2;have hy:=MT xs (PE.evs ρ u.2) d e4 fx cx w σ1 (args.toList.map a.eval) hf.F i1.ok gB hf.c hf.m i1.newc i1.newm;have cf:a.eval (.tmp t)=C.yv:=by
   have:=(m0 i hh t).1;rw[Cm] at this;have h9:a.tmps.getD t undef=C.yv:=this;simpa [Act.eval] using h9
  refine hy rd o a (.tmp t) args ts K Q dD cf rfl fun v w2 nS=>?_;obtain⟨b,rfl,rfl,hb,hs,lF,jd,hF,h1,h2⟩:=nS;have i2:=i1.yielded hB ko Gl hb hf hs hF h1 h2;refine hK _ _ ?_ (SameBut.put a _ _ a.defers);rw[hd,←e5];change Good C w0 σ0 _ ((ρ.setO J (.list (xs++[.tup (PE.evs ρ u.2)]))).setR dst (.v (.bool b))) _ _ _;have hh3:holds gs ((ρ.setO J (.list (xs++[.tup (PE.evs ρ u.2)]))).setR dst (.v (.bool b)))=true:=by
   rw[B0 (t:=dst) fun g hm e=>t1 (by rw[←e];exact yt g hm)];exact VD
  cases gs with
  |nil=>exact⟨_,_,_,i2.setReg t1 (s:=.dat .bool) (.bool b) t2 (fun _ _ e=>by cases e)⟩
  |cons g bJ=>
   refine⟨_,_,_,i2.setReg t1 (s:=.opt (g::bJ) (.dat .bool)) ⟨fun _=>.bool b,fun e=>absurd (hh3.symm.trans e) (by decide)⟩ t2 (fun gs s e=>?_)⟩;cases e;exact⟨yt,fun _ _ e=>by cases e⟩
theorem T8 {rd:Option Nat}(h:Good C w0 σ0 S ρ A a w)(hC:CtxOK C σ0)(aW:dy C)(hΦ:cY C Φ)(hY:qn C Φ w0 σ0){ops:Array Oper}{o:Oper}(bm:pM o.op=true)(ht:∀d,o.dst=some d→¬A d∧d<a.tmps.size)
 (hj:∀j want t,o.guard=some (j,want)→(ops[j]?).bind (·.dst)=some t→A t) {r:St×List PI} (hr:uw C S ops o=some r) {ρ':Env} (aj:PI.runs Φ r.2 ρ=some ρ')
 {K:Act→World→Prop} {Q:Exit→Act→World→Prop} (hK:∀a' w',Good C w0 σ0 r.1 ρ' (fun u=>A u∨o.dst=some u) a' w'→SameBut (fun t=>o.dst=some t) a a'→K a' w'):
 if Region.wanted o (yielded ops a.tmps) then o.wpIn (FR rd) 0 C.P a w K Q else K (a.put o.dst undef) w:=by
 unfold uw at hr;split at hr
 ·rename_i q hq;cases hr;exact adC h hC hY ht hj hq aj hK
 ·have:=adB (K:=fun a' w'=>SameBut (fun t=>o.dst=some t) a a'→K a' w') (Q:=Q) h hC aW hΦ ht hj hr aj (fun a' w' g _ hs=>hK a' w' g hs);split
  ·rename_i hw;rw[if_pos hw] at this;exact Zl bm (Oper.wp_same this)
  ·rename_i hw;rw[if_neg hw] at this;exact this (SameBut.put a _ _ a.defers)
end
def rV (C:Ctx)(ops:Array Oper):List Nat→St→Option (St×List PI)
 |[],S=>some (S,[])
 |i::l,S=>
  match ops[i]? with
  |some o=>(uw C S ops o).bind fun r=>(rV C ops l r.1).map fun q=>(q.1,r.2++q.2)
  |none=>none
def zy (n:Nat)(ops:Array Oper):Bool:=
 iS (ops.toList.filterMap (·.dst))&&ops.toList.all fun o=>pM o.op&&match o.dst with|some d=>Nat.blt d n|none=>true
section
variable {C:Ctx} {S:St} {ρ:Env} {σ:Im} {own:Nat→Option Nat} {hv:Nat→Value} {w0:World} {σ0:Base} {A:Nat→Prop} {a:Act} {w:World} {gs:List (Nat×Bool)} {Φ:aJ} {dst:Nat}
def wj (ops:Array Oper)(done:List Nat):Nat→Prop:=fun t=>∃i o,i∈done∧ops[i]?=some o∧o.dst=some t
theorem FT.dst_once {ops:Array Oper}(bm:(ops.toList.filterMap (·.dst)).Nodup){i j:Nat}{o o':Oper}{d:Nat}(hi:ops[i]?=some o)(hj:ops[j]?=some o')(hd:o.dst=some d)(fH:o'.dst=some d)(az:i≠j):False:=by
 have key:∀(l:List Oper),(l.filterMap (·.dst)).Nodup→∀(i j:Nat) (o o':Oper),l[i]?=some o→l[j]?=some o'→o.dst=some d→o'.dst=some d→i=j:=by
  intro l
  induction l with
  |nil=>intro _ i j o o' hi;simp at hi
  |cons x l ih=>
   intro bm i j o o' hi hj hd fH;have cQ:∀(k:Nat) (y:Oper),l[k]?=some y→y.dst=some d→d∈l.filterMap (·.dst):=fun k y hk hy=>wO.2 ⟨y,jB hk,hy⟩;cases hx:x.dst with
   |none=>
    rw[List.filterMap_cons_none hx] at bm;cases i with
    |zero=>simp at hi;subst hi;rw[hx] at hd;cases hd
    |succ i=>
     cases j with
     |zero=>simp at hj;subst hj;rw[hx] at fH;cases fH
     |succ j=>simp at hi hj;rw[ih bm i j o o' hi hj hd fH]
   |some y=>
    rw[List.filterMap_cons_some hx,nj] at bm;cases i with
    |zero=>
     simp at hi;subst hi;rw[hx] at hd;cases hd;cases j with
     |zero=>rfl
     |succ j=>simp at hj;exact absurd (cQ j o' hj fH) bm.1
    |succ i=>
     cases j with
     |zero=>
      simp at hj;subst hj;rw[hx] at fH;cases fH;simp at hi;exact absurd (cQ i o hi hd) bm.1
     |succ j=>simp at hi hj;rw[ih bm.2 i j o o' hi hj hd fH]
 exact az (key ops.toList bm i j o o' (by simpa using hi) (by simpa using hj) hd fH)
def xO (ops:Array Oper):Nat→Prop:=fun t=>∃o,o∈ops.toList∧o.dst=some t
theorem FT (hC:CtxOK C σ0)(aW:dy C)(hΦ:cY C Φ)(hY:qn C Φ w0 σ0){ops:Array Oper}{n:Nat}(au:zy n ops=true){rd:Option Nat}{Q:Exit→Act→World→Prop}:
 ∀(l done:List Nat) {S:St} {ρ ρ':Env} {a:Act} {w:World} {r:St×List PI},(done++l).Nodup→(∀p i q o j want,l=p++i::q→ops[i]?=some o→o.guard=some (j,want)→j∈done++p)→
  a.tmps.size=n→Good C w0 σ0 S ρ (wj ops done) a w→rV C ops l S=some r→PI.runs Φ r.2 ρ=some ρ'→
  (∀a' w',SameBut (xO ops) a a'→Good C w0 σ0 r.1 ρ' (wj ops (done++l)) a' w'→Q .normal a' w')→wpOpsIn (FR rd) 0 C.P ops Q l a w:=by
 simp only[zy,aq] at au;have bm:=oa au.1;intro l
 induction l with
 |nil=>
  intro done S ρ ρ' a w r _ _ aN h hr aj hQ;simp only[rV,aT] at hr;subst hr;rw[mZ aj] at hQ;simp only[wpOpsIn];exact hQ a w (.refl _ _) (by simpa using h)
 |cons i l ih=>
  intro done S ρ ρ' a w r LI lN aN h hr aj hQ;simp only[rV] at hr;split at hr
  case h_2=>cases hr
  rename_i o ho;simp only[ar,ax] at hr;obtain⟨r1,kj,q,hq,rfl⟩:=hr;simp only[p5,ar] at aj;obtain⟨ρ1,hρ1,hρ2⟩:=aj;have LJ:∀d,o.dst=some d→¬wj ops done d∧d<a.tmps.size:=by
   intro d hd;refine⟨fun⟨i',o',dO,gT,fH⟩=>?_,?_⟩
   ·
        have az:i'≠i:=by
         intro e;subst e;rw[Eh] at LI;exact LI.2.2 i' dO i' (eC ..) rfl
        exact FT.dst_once bm gT ho fH hd az
   ·have:=df.1 au.2 o (by
     have:=nf ho;simpa using this)
    simp only[hd,aq] at this;rw[aN];simpa [oK] using this.2
  have hj:∀j want t,o.guard=some (j,want)→(ops[j]?).bind (·.dst)=some t→wj ops done t:=by
   intro j want t hg ht;have:=lN [] i l o j want rfl ho hg;simp only[rL] at this;rw[ar] at ht;obtain⟨oj,h1,h2⟩:=ht;exact⟨j,oj,this,h1,h2⟩
  have kP:pM o.op=true:=by
   have:=df.1 au.2 o (by simpa using nf ho);simp only[aq] at this;exact this.1
  have main:=T8 (rd:=rd) (K:=wpOpsIn (FR rd) 0 C.P ops Q l) (Q:=Q) h hC aW hΦ hY kP LJ hj kj hρ1 (fun a' w' jK gH=>by
   have sI:=gH.size;refine ih (done++[i]) (by simpa using LI) (fun p i' q' o' j want e gT ahM=>?_) (sI.trans aN) ?_ hq hρ2 (fun a2 w2 s2 g2=>hQ a2 w2 ((gH.mono fun t e=>⟨o,by simpa using nf ho,e⟩).trans s2) (by simpa using g2))
   ·have:=lN (i::p) i' q' o' j want (by rw[e];rfl) gT ahM;simpa using this
   ·have:(fun u=>wj ops done u∨o.dst=some u)=wj ops (done++[i]):=by
     funext u;apply propext;constructor
     ·rintro(⟨i',o',h1,h2,h3⟩|h1)
      ·exact⟨i',o',by simp[h1],h2,h3⟩
      ·exact⟨i,o,by simp,ho,h1⟩
     ·rintro⟨i',o',h1,h2,h3⟩;rcases dg.1 h1 with h4|h4
      ·exact .inl ⟨i',o',h4,h2,h3⟩
      ·simp at h4;subst h4;rw[ho] at h2;cases h2;exact .inr h3
    rw[←this];exact jK)
  simp only[wpOpsIn,ho];split
  ·rename_i hw;rw[if_pos hw] at main;exact main
  ·rename_i hw;rw[if_neg hw] at main;exact⟨fun _ _=>trivial,main⟩
end
end Cx
namespace Cx
open Go Go.RowKit
def Tn (S:St):AgC→Bool
 |.dat _=>true
 |.obj j ver=>Nat.beq ver (S.ver j)
def AgC.zero:AgC→AgC
 |.dat t=>.dat t
 |.obj j _=>.obj j 0
def fX (S:St):Sh→Sh
 |.none=>.none
 |.dat t=>.dat t
 |.obj j ver=>bif Nat.beq ver (S.ver j) then .obj j 0 else .none
 |.ptr j ver off=>bif Nat.beq ver (S.ver j) then .ptr j 0 off else .none
 |.eptr j ver size off=>bif Nat.beq ver (S.ver j) then .eptr j 0 size off else .none
 |.opt _ _=>.none
 |.yv=>.yv
 |.fclo f caps=>bif caps.all (fun c=>Nat.beq c.2 (S.ver c.1)) then .fclo f (caps.map fun c=>(c.1,0)) else .none
 |.agg l=>bif l.all (Tn S) then .agg (l.map AgC.zero) else .none
def hZ (S:St):Ob→Ob
 |.box ag shs=>.box ag (shs.map (fX S))
 |ob=>ob
def St.norm (S:St):St:=⟨fun t=>fX S (S.r t),fun j=>hZ S (S.o j),fun _=>0⟩
def gZ:Sh→Sh→Sh
 |.dat a,.dat b=>bif Ty.sub a b then .dat b else bif Ty.sub b a then .dat a else .none
 |.obj j v,.obj k u=>bif Nat.beq j k&&Nat.beq v u then .obj j v else .none
 |.ptr j v o,.ptr k u p=>bif Nat.beq j k&&Nat.beq v u&&Nat.beq o p then .ptr j v o else .none
 |.eptr j v s o,.eptr k u t p=>bif Nat.beq j k&&Nat.beq v u&&Nat.beq s t&&Nat.beq o p then .eptr j v s o else .none
 |.yv,.yv=>.yv
 |.fclo f a,.fclo g b=>bif Nat.beq f g&&uf a b then .fclo f a else .none
 |_,_=>.none
def vA:List Sh→List Sh→Option (List Sh)
 |[],[]=>some []
 |a::aa,b::bs=>(vA aa bs).map (gZ a b::·)
 |_,_=>none
def l5:Ob→Ob→Ob
 |.fz a,.fz b=>bif Ty.beq a b then .fz a else .dead
 |.fbox a,.fbox b=>bif Ty.beq a b then .fbox a else .dead
 |.box ag aa,.box bg bs=>bif ag==bg then(match vA aa bs with|some cs=>.box ag cs|none=>.dead) else .dead
 |.row T e,.row U f=>bif Nat.beq T U&&Ty.beq e f then .row T e else .dead
 |.mp k e,.mp l f=>bif Ty.beq k l&&Ty.beq e f then .mp k e else .dead
 |.it k e,.it l f=>bif Ty.beq k l&&Ty.beq e f then .it k e else .dead
 |.tr,.tr=>.tr
 |_,_=>.dead
section
variable {C:Ctx} {S:St} {ρ:Env} {σ:Im} {own:Nat→Option Nat} {hv:Nat→Value} {w0:World} {σ0:Base} {A:Nat→Prop} {a:Act} {w:World} {gs:List (Nat×Bool)} {Φ:aJ} {dst:Nat}
theorem Hw {s:Sh}{v:Value}{d:D}(h:aF C S ρ σ hv s v d):aF C S.norm ρ σ hv (fX S s) v d∧∀gs s',fX S s≠.opt gs s':=by
 cases s with
 |none=>exact⟨trivial,fun _ _ e=>by cases e⟩
 |dat t=>exact⟨h,fun _ _ e=>by cases e⟩
 |obj j ver=>
  simp only[fX];cases hb:Nat.beq ver (S.ver j)
  ·exact⟨trivial,fun _ _ e=>by cases e⟩
  ·exact⟨⟨aU _,fun _=>h.2 (aw hb)⟩,fun _ _ e=>by cases e⟩
 |ptr j ver off=>
  simp only[fX];cases hb:Nat.beq ver (S.ver j)
  ·exact⟨trivial,fun _ _ e=>by cases e⟩
  ·exact⟨⟨aU _,fun _=>h.2 (aw hb)⟩,fun _ _ e=>by cases e⟩
 |eptr j ver size off=>
  simp only[fX];cases hb:Nat.beq ver (S.ver j)
  ·exact⟨trivial,fun _ _ e=>by cases e⟩
  ·exact⟨⟨aU _,fun _=>h.2 (aw hb)⟩,fun _ _ e=>by cases e⟩
 |opt gs s=>exact⟨trivial,fun _ _ e=>by cases e⟩
 |yv=>exact⟨h,fun _ _ e=>by cases e⟩
 |agg l=>
  simp only[fX];cases hb:l.all (Tn S)
  ·exact⟨trivial,fun _ _ e=>by cases e⟩
  ·refine⟨?_,fun _ _ e=>by cases e⟩;obtain⟨vs,ds,h1,h2,h3,h4,h5⟩:=h;refine⟨vs,ds,h1,h2,by simpa using h3,by simpa using h4,fun i c hi=>?_⟩;simp only[cl,ax] at hi;obtain⟨c0,hc,rfl⟩:=hi;have:=df.1 hb _ (jB hc);have h6:=h5 i c0 hc;cases c0 with
   |dat t=>exact h6
   |obj j ver=>exact⟨aU _,fun _=>h6.2 (aw this)⟩
 |fclo f caps=>
  simp only[fX];cases hb:caps.all (fun c=>Nat.beq c.2 (S.ver c.1))
  ·exact⟨trivial,fun _ _ e=>by cases e⟩
  ·refine⟨?_,fun _ _ e=>by cases e⟩;obtain⟨vs,h1,h2,h3⟩:=h;refine⟨vs,h1,by simpa using h2,fun i j ver hi=>?_⟩;simp only[cl,ax] at hi;obtain⟨⟨j',v'⟩,hc,e⟩:=hi;cases e;have:=df.1 hb _ (jB hc);exact⟨aU _,fun _=>(h3 i _ _ hc).2 (aw this)⟩
theorem Inv.weaken (h:Inv C S ρ σ own hv w0 σ0 A a w){S':St}{ρ':Env}(hr:∀t,aF C S' ρ' σ hv (S'.r t) (a.tmps.getD t undef) (ρ'.r t))(ho:∀j,bW C S' ρ' σ own hv w w0.heap.size j (S'.o j))
 (hn:∀t gs s,S'.r t≠.opt gs s) (ht:∀j,S'.o j=.tr→S.o j=.tr∧ρ'.o j=ρ.o j):Inv C S' ρ' σ own hv w0 σ0 (fun _=>False) a w:=
 ⟨h.defers,h.ok,h.le,h.old,h.newc,h.newm,h.below,h.bw,h.owns,hr,ho,fun t gs s e=>absurd e (hn t gs s),by
   obtain⟨t,fx,cx,h1,h5⟩:=h.frame;exact⟨t,fx,cx,h1,fun j hj=>by rw[(ht j hj).2];exact h5 j (ht j hj).1⟩⟩
theorem XI {ob:Ob}(h:hZ S ob=.tr):ob=.tr:=by
 cases ob<;>simp only[hZ] at h<;>first|rfl|cases h
theorem ami {x y:Ob}(h:l5 x y=.tr):x=.tr∧y=.tr:=by
 cases x<;>cases y<;>simp only[l5] at h<;>first
  |exact⟨rfl,rfl⟩
  |(cases h;done)
  |skip
 ·rename_i a b;cases hb:Ty.beq a b<;>rw[hb] at h<;>cases h
 ·rename_i a b;cases hb:Ty.beq a b<;>rw[hb] at h<;>cases h
 ·rename_i ag aa bg bs;cases hb:ag==bg<;>rw[hb] at h
  ·cases h
  ·simp only[cond_true] at h;split at h<;>cases h
 ·rename_i T e U f;cases hb:(Nat.beq T U&&Ty.beq e f)<;>rw[hb] at h<;>cases h
 ·rename_i T e U f;cases hb:(Ty.beq T U&&Ty.beq e f)<;>rw[hb] at h<;>cases h
 ·rename_i T e U f;cases hb:(Ty.beq T U&&Ty.beq e f)<;>rw[hb] at h<;>cases h
theorem Inv.norm (h:Inv C S ρ σ own hv w0 σ0 A a w):Inv C S.norm ρ σ own hv w0 σ0 (fun _=>False) a w:=by
 refine h.weaken (fun t=>(Hw (h.regs t)).1) (fun j=>?_) (fun t=>(Hw (h.regs t)).2) (fun j hj=>⟨XI hj,rfl⟩);have aX:=h.objs j;show bW C S.norm ρ σ own hv w w0.heap.size j (hZ S (S.o j));cases cI:S.o j with
 |box ag shs=>
  rw[cI] at aX;obtain⟨k,cs,T,ds,h1,h2,h3,h4,h5,h6,h7⟩:=aX;refine⟨k,cs,T,ds,h1,h2,h3,by simpa using h4,h5,by simpa using h6,fun i s hi=>?_⟩;simp only[cl,ax] at hi;obtain⟨s0,hs0,rfl⟩:=hi;have:=Hw (h7 i s0 hs0).2;exact⟨this.2,this.1⟩
 |_=>rw[cI] at aX;exact aX
theorem Ez {b:Bool}{s:Sh}{v:Value}{d:D}(hs:∀gs s',s≠.opt gs s')(h:b=true→aF C S ρ σ hv s v d):aF C S ρ σ hv (bif b then s else .none) v d∧∀gs s',(bif b then s else Sh.none)≠.opt gs s':=by
 cases b with
 |true=>exact⟨h rfl,hs⟩
 |false=>exact⟨trivial,fun _ _ e=>by cases e⟩
theorem XA {s u:Sh}{v:Value}{d:D}(h:aF C S ρ σ hv s v d):aF C S ρ σ hv (gZ s u) v d∧∀gs s',gZ s u≠.opt gs s':=by
 cases s<;>cases u<;>simp only[gZ]<;>first
  |exact⟨trivial,fun _ _ e=>by cases e⟩
  |exact Ez (fun _ _ e=>by cases e) (fun _=>h)
  |exact⟨h,fun _ _ e=>by cases e⟩
  |skip
 rename_i a b;cases h1:Ty.sub a b
 ·exact Ez (fun _ _ e=>by cases e) (fun _=>h)
 ·exact⟨Rep.sub h h1,fun _ _ e=>by cases e⟩
theorem XB {s u:Sh}{v:Value}{d:D}(h:aF C S ρ σ hv u v d):aF C S ρ σ hv (gZ s u) v d∧∀gs s',gZ s u≠.opt gs s':=by
 cases s<;>cases u<;>simp only[gZ]<;>first
  |exact⟨trivial,fun _ _ e=>by cases e⟩
  |exact⟨h,fun _ _ e=>by cases e⟩
  |skip
 ·rename_i a b;cases h1:Ty.sub a b
  ·exact Ez (fun _ _ e=>by cases e) (fun h2=>Rep.sub h h2)
  ·exact⟨h,fun _ _ e=>by cases e⟩
 all_goals
  refine Ez (fun _ _ e=>by cases e) (fun hb=>?_);simp only[aq] at hb
  first
   |(obtain⟨⟨⟨h1,h2⟩,h3⟩,h4⟩:=hb;rw[aw h1,aw h2,aw h3,aw h4];exact h)
   |(obtain⟨⟨h1,h2⟩,h3⟩:=hb;rw[aw h1,aw h2,aw h3];exact h)
   |(obtain⟨h1,h2⟩:=hb;rw[aw h1,aw h2];exact h)
   |(obtain⟨h1,h2⟩:=hb;rw[aw h1,KD _ _ h2];exact h)
theorem Nz:∀(aa bs cs:List Sh),vA aa bs=some cs→cs.length=aa.length∧cs.length=bs.length∧∀(i:Nat) (c:Sh),cs[i]?=some c→∃x y,aa[i]?=some x∧bs[i]?=some y∧c=gZ x y
 |[],[],cs,h=>by simp[vA] at h;subst h;simp
 |[],b::bs,cs,h=>by simp[vA] at h
 |a::aa,[],cs,h=>by simp[vA] at h
 |a::aa,b::bs,cs,h=>by
  simp only[vA,ax] at h;obtain⟨ds,hd,rfl⟩:=h;obtain⟨h1,h2,h3⟩:=Nz aa bs ds hd;refine⟨by simp[h1],by simp[h2],fun i c hi=>?_⟩;cases i with
  |zero=>simp at hi;exact⟨a,b,rfl,rfl,hi.symm⟩
  |succ i=>simp at hi;simpa using h3 i c hi
theorem amg {j B:Nat}{x y:Ob}(h:bW C S ρ σ own hv w B j x):bW C S ρ σ own hv w B j (l5 x y):=by
 cases x<;>cases y<;>simp only[l5]<;>first
  |trivial
  |(rename_i a b;cases Ty.beq a b;·trivial
    ·exact h)
  |skip
 ·rename_i ag aa bg bs;cases ag==bg
  ·trivial
  ·simp only[cond_true];split
   ·rename_i cs da;obtain⟨l1,l2,sv⟩:=Nz aa bs cs da;obtain⟨k,cells,T,ds,h1,h2,h3,h4,h5,h6,h7⟩:=h;refine⟨k,cells,T,ds,h1,h2,h3,by omega,h5,by omega,fun i s hi=>?_⟩;obtain⟨x,y,hx,hy,rfl⟩:=sv i s hi;have:=XA (u:=y) (h7 i x hx).2;exact⟨this.2,this.1⟩
   ·trivial
 ·rename_i T e U f;cases Nat.beq T U&&Ty.beq e f
  ·trivial
  ·exact h
 ·rename_i T e U f;cases Ty.beq T U&&Ty.beq e f
  ·trivial
  ·exact h
 ·rename_i T e U f;cases Ty.beq T U&&Ty.beq e f
  ·trivial
  ·exact h
theorem amh {j B:Nat}{x y:Ob}(h:bW C S ρ σ own hv w B j y):bW C S ρ σ own hv w B j (l5 x y):=by
 cases x<;>cases y<;>simp only[l5]<;>first
  |trivial
  |skip
 ·rename_i a b;cases hb:Ty.beq a b
  ·trivial
  ·rw[Ty.beq_eq _ _ hb];exact h
 ·rename_i a b;cases hb:Ty.beq a b
  ·trivial
  ·rw[Ty.beq_eq _ _ hb];exact h
 ·rename_i ag aa bg bs;cases ag==bg
  ·trivial
  ·simp only[cond_true];split
   ·rename_i cs da;obtain⟨l1,l2,sv⟩:=Nz aa bs cs da;obtain⟨k,cells,T,ds,h1,h2,h3,h4,h5,h6,h7⟩:=h;refine⟨k,cells,T,ds,h1,h2,h3,by omega,h5,by omega,fun i s hi=>?_⟩;obtain⟨x,y,hx,hy,rfl⟩:=sv i s hi;have:=XB (s:=x) (h7 i y hy).2;exact⟨this.2,this.1⟩
   ·trivial
 ·rename_i T e U f;cases hb:(Nat.beq T U&&Ty.beq e f)
  ·trivial
  ·simp only[aq] at hb;rw[aw hb.1,Ty.beq_eq _ _ hb.2];exact h
 ·rename_i T e U f;cases hb:(Ty.beq T U&&Ty.beq e f)
  ·trivial
  ·simp only[aq] at hb;rw[Ty.beq_eq _ _ hb.1,Ty.beq_eq _ _ hb.2];exact h
 ·rename_i T e U f;cases hb:(Ty.beq T U&&Ty.beq e f)
  ·trivial
  ·simp only[aq] at hb;rw[Ty.beq_eq _ _ hb.1,Ty.beq_eq _ _ hb.2];exact h
end
end Cx
namespace Cx
open Go Go.RowKit
section
variable {C:Ctx} {S T:St} {ρ ρ':Env} {σ:Im} {own:Nat→Option Nat} {hv:Nat→Value} {w0:World} {σ0:Base} {A:Nat→Prop} {a:Act} {w:World} {gs:List (Nat×Bool)} {Φ:aJ} {dst:Nat}
theorem Inv.env (h:Inv C S ρ σ own hv w0 σ0 (fun _=>False) a w)(hn:∀t gs s,S.r t≠.opt gs s)(hr:∀t,isNone (S.r t)=false→ρ'.r t=ρ.r t)(ho:∀j,mL (S.o j)=false→ρ'.o j=ρ.o j):
 Inv C S ρ' σ own hv w0 σ0 (fun _=>False) a w:=by
 refine h.weaken (fun t=>?_) (fun j=>?_) hn (fun j hj=>⟨hj,ho j (by rw[hj];rfl)⟩)
 ·cases hs:isNone (S.r t) with
  |true=>cases hc:S.r t<;>rw[hc] at hs<;>simp[isNone] at hs;trivial
  |false=>
   rw[hr t hs];exact aF.mono' (.refl σ) (.refl S hv) (hn t) (h.regs t)
 ·cases hs:mL (S.o j) with
  |true=>cases hc:S.o j<;>rw[hc] at hs<;>simp[mL] at hs;trivial
  |false=>exact(h.objs j).mono (.refl σ) (.refl S hv) rfl (ho j hs) (fun k hk=>⟨hk,rfl⟩)
end
end Cx
namespace Cx
open Go Go.RowKit
structure Snap where
 rs:List Sh
 os:List Ob
 deriving Inhabited
def cW:List Nat→List Ob→Nat→Ob
 |i::is,o::os,j=>bif Nat.beq i j then o else cW is os j
 |_,_,_=>.dead
def ct:Sh→Sh
 |.opt _ _=>.none
 |s=>s
def Snap.st (ids:List Nat)(s:Snap):St:=⟨fun t=>ct (s.rs.getD t .none),fun j=>cW ids s.os j,fun _=>0⟩
def St.snap (n:Nat)(ids:List Nat)(S:St):Snap:=⟨(List.range n).map fun t=>fX S (S.r t),ids.map fun j=>hZ S (S.o j)⟩
def Snap.beq (a b:Snap):Bool:=wu a.rs b.rs&&y2 a.os b.os
theorem Snap.beq_eq (a b:Snap)(h:a.beq b=true):a=b:=by
 cases a;cases b;simp only[Snap.beq,aq] at h;rw[Qf _ _ h.1,XO _ _ h.2]
def Snap.meet (a b:Snap):Snap:=⟨List.zipWith gZ a.rs b.rs,List.zipWith l5 a.os b.os⟩
theorem arW (s:Sh):∀gs s',ct s≠.opt gs s':=by
 intro gs s' e;cases s<;>simp[ct] at e
theorem Snap.noOpt (ids:List Nat)(s:Snap):∀t gs s',(s.st ids).r t≠.opt gs s':=fun t=>arW _
section
variable {C:Ctx} {S:St} {ρ:Env} {σ:Im} {own:Nat→Option Nat} {hv:Nat→Value} {w0:World} {σ0:Base} {A:Nat→Prop} {a:Act} {w:World} {n:Nat} {ids:List Nat}
theorem vt (f:Nat→Ob)(P:Ob→Prop)(hd:P .dead)(j:Nat)(hf:P (f j)):∀ids:List Nat,P (cW ids (ids.map f) j)
 |[]=>hd
 |i::is=>by
  simp only[eB,cW];cases hb:Nat.beq i j
  ·exact vt f P hd j hf is
  ·rw[aw hb];exact hf
theorem Jt {s:Sh}{v:Value}{d:D}(h:aF C S ρ σ hv s v d):aF C S ρ σ hv (ct s) v d:=by
 cases s<;>first|exact h|trivial
theorem Inv.snap (h:Inv C S ρ σ own hv w0 σ0 A a w)(n:Nat)(ids:List Nat):Inv C ((S.snap n ids).st ids) ρ σ own hv w0 σ0 (fun _=>False) a w:=by
 have h1:=h.norm;have hc:Compat S.norm hv ((S.snap n ids).st ids) hv:=⟨fun _=>aU _,fun _ _=>rfl⟩
 refine h1.weaken (fun t=>?_) (fun j=>?_) (Snap.noOpt _ _) (fun j hj=>⟨vt (fun j=>hZ S (S.o j)) (fun ob=>ob=.tr→hZ S (S.o j)=.tr) (fun e=>by cases e) j id ids hj,rfl⟩)
 ·refine aF.mono' (ρ:=ρ) (.refl σ) hc (Snap.noOpt _ _ t) ?_;show aF C S.norm ρ σ hv (ct (((List.range n).map fun t=>fX S (S.r t)).getD t .none)) _ _;refine Jt ?_;rw[aI,cl];by_cases ht:t<n
  ·rw[oI ht];exact h1.regs t
  ·rw[ls (by simpa using ht)];trivial
 ·have ho:=(h1.objs j).mono (.refl σ) hc (w:=w) (w':=w) rfl rfl (fun k hk=>⟨hk,rfl⟩);exact vt (fun j=>hZ S (S.o j)) (fun ob=>bW C _ ρ σ own hv w w0.heap.size j ob) trivial j ho ids
theorem Jx {f:Sh→Sh→Sh}:∀(x y:List Sh) (t:Nat),(List.zipWith f x y).getD t .none=.none∨∃s u,x.getD t .none=s∧y.getD t .none=u∧(List.zipWith f x y).getD t .none=f s u
 |[],_,t=>.inl (by simp)
 |_::_,[],t=>.inl (by simp)
 |a::aa,b::bs,0=>.inr ⟨a,b,rfl,rfl,rfl⟩
 |a::aa,b::bs,t+1=>by simpa using Jx (f:=f) aa bs t
theorem Hj {f:Ob→Ob→Ob}:∀(ids:List Nat) (x y:List Ob) (j:Nat),cW ids (List.zipWith f x y) j=.dead∨cW ids (List.zipWith f x y) j=f (cW ids x j) (cW ids y j)
 |[],_,_,_=>.inl rfl
 |_::_,[],_,_=>.inl rfl
 |_::_,_::_,[],_=>.inl rfl
 |i::is,a::aa,b::bs,j=>by
  simp only[List.zipWith_cons_cons,cW];cases Nat.beq i j
  ·exact Hj is aa bs j
  ·exact .inr rfl
theorem arU {s u:Sh}{v:Value}{d:D}(h:aF C S ρ σ hv (ct s) v d):aF C S ρ σ hv (ct (gZ s u)) v d:=by
 cases hs:s with
 |opt gs s'=>cases u<;>simp[gZ,ct,aF]
 |_=>rw[hs] at h;exact Jt (XA h).1
theorem arV {s u:Sh}{v:Value}{d:D}(h:aF C S ρ σ hv (ct u) v d):aF C S ρ σ hv (ct (gZ s u)) v d:=by
 cases hs:u with
 |opt gs s'=>cases s<;>simp[gZ,ct,aF]
 |_=>rw[hs] at h;exact Jt (XB h).1
theorem XC {x y:Snap}{j:Nat}(h:((x.meet y).st ids).o j=.tr):(x.st ids).o j=.tr∧(y.st ids).o j=.tr:=by
 change cW ids (List.zipWith l5 x.os y.os) j=.tr at h;rcases Hj (f:=l5) ids x.os y.os j with h0|h0
 ·rw[h0] at h;cases h
 ·rw[h0] at h;exact ami h
theorem Snap.meet_ok1 {x y:Snap}(h:Inv C (x.st ids) ρ σ own hv w0 σ0 A a w):Inv C ((x.meet y).st ids) ρ σ own hv w0 σ0 (fun _=>False) a w:=by
 have hc:Compat (x.st ids) hv ((x.meet y).st ids) hv:=⟨fun _=>aU _,fun _ _=>rfl⟩
 refine h.weaken (fun t=>?_) (fun j=>?_) (Snap.noOpt _ _) (fun j hj=>⟨(XC hj).1,rfl⟩)
 ·refine aF.mono' (ρ:=ρ) (.refl σ) hc (Snap.noOpt _ _ t) ?_;show aF C (x.st ids) ρ σ hv (ct ((List.zipWith gZ x.rs y.rs).getD t .none)) _ _;rcases Jx (f:=gZ) x.rs y.rs t with h0|⟨s,u,h1,h2,h3⟩
  ·rw[h0];trivial
  ·rw[h3];exact arU (by rw[←h1];exact h.regs t)
 ·refine bW.mono (S:=x.st ids) (ρ:=ρ) (own:=own) (hv:=hv) (.refl σ) hc (w:=w) rfl rfl (fun k hk=>⟨hk,rfl⟩) ?_;show bW C _ ρ σ own hv w w0.heap.size j (cW ids (List.zipWith l5 x.os y.os) j);rcases Hj (f:=l5) ids x.os y.os j with h0|h0
  ·rw[h0];trivial
  ·rw[h0];exact amg (h.objs j)
theorem Snap.meet_ok2 {x y:Snap}(h:Inv C (y.st ids) ρ σ own hv w0 σ0 A a w):Inv C ((x.meet y).st ids) ρ σ own hv w0 σ0 (fun _=>False) a w:=by
 have hc:Compat (y.st ids) hv ((x.meet y).st ids) hv:=⟨fun _=>aU _,fun _ _=>rfl⟩
 refine h.weaken (fun t=>?_) (fun j=>?_) (Snap.noOpt _ _) (fun j hj=>⟨(XC hj).2,rfl⟩)
 ·refine aF.mono' (ρ:=ρ) (.refl σ) hc (Snap.noOpt _ _ t) ?_;show aF C (y.st ids) ρ σ hv (ct ((List.zipWith gZ x.rs y.rs).getD t .none)) _ _;rcases Jx (f:=gZ) x.rs y.rs t with h0|⟨s,u,h1,h2,h3⟩
  ·rw[h0];trivial
  ·rw[h3];exact arV (by rw[←h2];exact h.regs t)
 ·refine bW.mono (S:=y.st ids) (ρ:=ρ) (own:=own) (hv:=hv) (.refl σ) hc (w:=w) rfl rfl (fun k hk=>⟨hk,rfl⟩) ?_;show bW C _ ρ σ own hv w w0.heap.size j (cW ids (List.zipWith l5 x.os y.os) j);rcases Hj (f:=l5) ids x.os y.os j with h0|h0
  ·rw[h0];trivial
  ·rw[h0];exact amh (h.objs j)
end
end Cx
namespace Cx
open Go Go.RowKit
def sS (C:Ctx)(S:St)(T:TypeId)(x:Operand):List Nat:=
 match gM S [] x,nV C.P T,C.P.info? T with
 |.ptr j _ off,some true,some inf=>(match S.o j with|.box _ shs=>AB ((shs.drop off).take inf.size)|_=>[])
 |_,_,_=>[]
def zz (C:Ctx)(S:St):ResultVar→Option (St×Ty×PE)
 |.tmp t=>(use C (S.fzs (dA S [] [.tmp t])) [] (.tmp t)).map fun x=>(S.fzs (dA S [] [.tmp t]),x.1,x.2)
 |.cell b T=>
  match CJ C (S.fzs (sS C S T (.tmp b))) [] 0 T (.tmp b) with
  |some (.dat ty,[.setR 0 e])=>some (S.fzs (sS C S T (.tmp b)),ty,e)
  |some (.obj j ver,[.setR _ _])=>
   bif Nat.beq ver (((S.fzs (sS C S T (.tmp b))).fz j).ver j) then
    match((S.fzs (sS C S T (.tmp b))).fz j).o j with
    |.fz ty=>some ((S.fzs (sS C S T (.tmp b))).fz j,ty,.o j)
    |_=>none
   else none
  |_=>none
def rF (C:Ctx):List ResultVar→St→Option (St×List Ty×List PE)
 |[],S=>some (S,[],[])
 |x::xs,S=>(zz C S x).bind fun r=>(rF C xs r.1).map fun q=>(q.1,r.2.1::q.2.1,r.2.2::q.2.2)
def aaC (C:Ctx)(fn:Func)(S:St)(res:Ty):Option PE:=
 (rF C fn.results.toList S).bind fun r=>
    match r.2.1,r.2.2 with
    |[ty],[e]=>bif Ty.sub ty res then some e else none
    |eL,es=>bif Ty.sub (.tup eL) res then some (.tup es) else none
def aaE (C:Ctx)(fn:Func)(S:St)(T:TypeId)(e:Ty):Option PE:=
 match fn.results.toList with
 |[.tmp t]=>
  match mc S [] t with
  |.obj j ver=>bif Nat.beq ver (S.ver j) then(match S.o j with|.row U f=>bif Nat.beq U T&&Ty.beq f e then some (.o j) else none|_=>none) else none
  |_=>none
 |[.cell b U]=>
  match CJ C S [] 0 U (.tmp b) with
  |some (.obj j ver,[.setR _ _])=>bif Nat.beq ver (S.ver j) then(match S.o j with|.row U f=>bif Nat.beq U T&&Ty.beq f e then some (.o j) else none|_=>none) else none
  |_=>none
 |_=>none
def He (S:St):Nat→List Sh→Bool
 |_,[]=>true
 |t,s::l=>rn s&&((pC s||isNone s||Sh.beq (S.r t) s)&&He S (t+1) l)
def M2 (S:St)(shs:List Sh)(obs:List (Nat×Ob)):Bool:=He S 0 shs&&obs.all fun x=>Ob.beq (S.o x.1) x.2
def P5 (eL:List Ty)(es:List PE)(res:Ty):Option PE:=
 match eL,es with
 |[ty],[e]=>bif Ty.sub ty res then some e else none
 |eL,es=>bif Ty.sub (.tup eL) res then some (.tup es) else none
def aaD (C:Ctx)(fn:Func)(S:St)(res:Ty)(shs:List Sh)(obs:List (Nat×Ob)):Option PE:=
 (rF C fn.results.toList S).bind fun r=>bif M2 r.1 shs obs then(P5 r.2.1 r.2.2 res).map fun e=>.tup (e::obs.map fun x=>.o x.1) else none
def we (C:Ctx)(fn:Func)(s:Sig)(S:St):Option PE:=
 match s.mode with
 |.ob shs obs=>aaD C fn S s.res shs obs
 |.dat=>aaC C fn S s.res
 |.it J=>match fn.results.toList,S.o J with|[],.tr=>some (.o J)|_,_=>none
 |.row T e=>aaE C fn S T e
def IW (P:Program)(tmps:Array Value)(w:World):ResultVar→Value→Prop
 |.tmp t,v=>v=tmps.getD t undef
 |.cell a T,v=>∃k,tmps.getD a undef=.pointer (some k)∧(loadVar T k).run P w=.ok v w
def IX (P:Program)(tmps:Array Value)(w:World):List ResultVar→List Value→Prop
 |[],[]=>True
 |x::xs,v::vs=>IW P tmps w x v∧IX P tmps w xs vs
 |_,_=>False
def sZ:List Value→Value
 |[v]=>v
 |vs=>.tuple vs.toArray
section
variable {C:Ctx} {S:St} {ρ:Env} {σ:Im} {own:Nat→Option Nat} {hv:Nat→Value} {w0:World} {σ0:Base} {A:Nat→Prop} {a:Act} {w:World} {gs:List (Nat×Bool)} {Φ:aJ} {dst:Nat}
theorem Xl {P:Program}{tmps:Array Value}{w:World}(f:ResultVar→Sem Value)(Vv:∀t,f (.tmp t)=pure (tmps.getD t undef))(GA:∀b T,f (.cell b T)=(do loadVar T (←asAddr (tmps.getD b undef)))):
 ∀(l:List ResultVar) (vs:List Value),IX P tmps w l vs→(l.mapM f).run P w=.ok vs w
 |[],[],_=>by simp[Sem.run_pure]
 |x::l,v::vs,h=>by
  obtain⟨hx,Ck⟩:=h;have ih:=Xl f Vv GA l vs Ck;rw[S5];have h1:(f x).run P w=.ok v w:=by
   cases x with
   |tmp t=>rw[Vv];simp only[IW] at hx;subst hx;simp[Sem.run_pure]
   |cell b T=>
    obtain⟨k,h1,h2⟩:=hx;rw[GA,h1];simp[asAddr,h2]
  simp[Sem.run_bind,h1,ih,Sem.run_pure,Result.andThen_ok]
theorem DK {P:Program}{fn:Func}{tmps:Array Value}{w:World}{vs:List Value}(h:IX P tmps w fn.results.toList vs):
 (results fn tmps).run P w=.ok (sZ vs) w:=by
 unfold results;rw[Array.mapM_eq_mapM_toList];simp only[Sem.run_bind];simp only[bind_map_left,map_eq_pure_bind,Sem.run_bind,bind_assoc,pure_bind];rw[Xl (tmps:=tmps) _ (fun t=>rfl) (fun b T=>rfl) _ _ h];simp only[Result.andThen_ok,Sem.run_pure];rcases vs with _|⟨v,_|⟨u,vs⟩⟩<;>simp[Sem.run_pure,sZ]
theorem Nq {o:Oper}{T:TypeId}{b:Nat}{v:Value}(ho:o.op=.load T (.tmp b))(hx:(execOp a.eval o).run C.P w=.ok (.value v) w):IW C.P a.tmps w (.cell b T) v:=by
 have he:a.eval (.tmp b)=a.tmps.getD b undef:=by simp[Act.eval]
 simp only[execOp,ho,Instr.loadAt,he] at hx;cases hp:a.tmps.getD b undef with
 |pointer p=>
  cases p with
  |none=>rw[hp] at hx;simp[Instr.sureAddr] at hx
  |some k=>
   rw[hp] at hx;refine⟨k,hp,?_⟩;simp[Instr.sureAddr] at hx;cases hr:(loadVar T k).run C.P w with
   |ok u w'=>rw[hr] at hx;simp at hx;rw[hx.1,hx.2]
   |halt u w'=>rw[hr] at hx;simp at hx
 |_=>rw[hp] at hx;simp[Instr.sureAddr] at hx
theorem aoE (h:Inv C S ρ σ own hv w0 σ0 A a w)(hC:CtxOK C σ0){x:ResultVar}{r:St×Ty×PE}(hr:zz C S x=some r):
 ∃σ' own' v,σ.le σ'∧Inv C r.1 ρ σ' own' hv w0 σ0 A a w∧IW C.P a.tmps w x v∧Rep C.cap σ' r.2.1 v (r.2.2.ev ρ):=by
 cases x with
 |tmp t=>
  simp only[zz,ax] at hr;obtain⟨y,hy,rfl⟩:=hr;obtain⟨σ1,dq,hle,h1⟩:=Inv.fzs (dA S [] [.tmp t]) h;refine⟨σ1,dq,a.tmps.getD t undef,hle,h1,rfl,?_⟩;have:=bZ (gs:=[]) h1 hC rfl hy;simpa [Act.eval] using this
 |cell b T=>
  simp only[zz] at hr;obtain⟨σ1,dq,hle,h1⟩:=Inv.fzs (sS C S T (.tmp b)) h;generalize Vd:S.fzs (sS C S T (.tmp b))=S1 at hr h1
  let o:Oper:={(default:Oper) with op:=.load T (.tmp b)}
  split at hr
  ·rename_i ty e hl;cases hr;have hq:=HP (Φ:=fun _ _=>none) (dst:=0) (gs:=[]) h1 hC rfl hl (o:=o) rfl;obtain⟨v,d,e1,e2,e3,e4⟩:=hq _ rfl;have hd:d=e.ev ρ:=by
        have:=congrArg (fun x:Env=>x.r 0) e1;simpa [Env.setR,aL] using this.symm
   subst hd;exact⟨σ1,dq,v,hle,h1,Nq rfl e2,e3⟩
  ·rename_i j ver t0 e0 hl;have hq:=HP (Φ:=fun _ _=>none) (dst:=0) (gs:=[]) h1 hC rfl hl (o:=o) rfl;obtain⟨v,d,e1,e2,e3,e4⟩:=hq _ rfl;cases hb:Nat.beq ver ((S1.fz j).ver j)<;>simp only[hb,cond_true,cond_false] at hr
   ·cases hr
   split at hr
   case h_2=>cases hr
   rename_i ty aV;cases hr;obtain⟨σ2,gJ,kO,h2⟩:=h1.fz j;refine⟨σ2,gJ,v,hle.trans kO,h2,Nq rfl e2,?_⟩;have ho:=h2.objs j;rw[aV] at ho;have dv:ver=S1.ver j:=by rw[aw hb,(F7 S1 j).1]
   rw[e3.2 dv];exact ho.2
  ·cases hr
theorem P4 (hC:CtxOK C σ0):∀(l:List ResultVar) {S:St} {σ:Im} {own:Nat→Option Nat} {r:St×List Ty×List PE},Inv C S ρ σ own hv w0 σ0 A a w→rF C l S=some r→
 ∃σ' own' vs,σ.le σ'∧Inv C r.1 ρ σ' own' hv w0 σ0 A a w∧IX C.P a.tmps w l vs∧vs.length=r.2.1.length∧r.2.2.length=r.2.1.length∧
  ∀(i:Nat) (t:Ty),r.2.1[i]?=some t→Rep C.cap σ' t (vs.getD i undef) ((PE.evs ρ r.2.2).getD i .none)
 |[],S,σ,own,r,h,hr=>by
  simp only[rF,aT] at hr;subst hr;exact⟨σ,own,[],.refl σ,h,trivial,rfl,rfl,fun i t e=>by simp at e⟩
 |x::l,S,σ,own,r,h,hr=>by
  simp only[rF,ar,ax] at hr;obtain⟨r1,h1,q,h2,rfl⟩:=hr;obtain⟨σ1,dq,v,hle,i1,hx,bE⟩:=aoE h hC h1;obtain⟨σ2,gJ,vs,kO,i2,Ck,kM,qX,lS⟩:=P4 hC l i1 h2;refine⟨σ2,gJ,v::vs,hle.trans kO,i2,⟨hx,Ck⟩,by simp[kM],by simp[qX],fun i t e=>?_⟩;cases i with
  |zero=>simp at e;subst e;simpa [PE.evs] using bE.mono kO
  |succ i=>simp at e;simpa [PE.evs] using lS i t e
def Ej (C:Ctx)(s:Sig)(σ:Im)(own:Nat→Option Nat)(w0 w:World)(tmps:Array Value)(d:D)(v:Value):Prop:=
 ∀shs obs,s.mode=.ob shs obs→∃hv dr os,d=.tup (dr::os)∧os.length=obs.length∧(∀k j,own k=some j→w0.heap.size≤k∧k<w.heap.size∧(∀o,σ.c k o=none)∧σ.m k=none)∧
  (∀(t:Nat) (sh:Sh),shs[t]?=some sh→pC sh=false→∀d,aF C (fa shs obs) (kU obs [] os) σ hv sh (tmps.getD t undef) d)∧(∀j,bW C (fa shs obs) (kU obs [] os) σ own hv w w0.heap.size j (dF obs j))∧Rep C.cap σ s.res v dr
theorem Ej.no {C:Ctx}{s:Sig}{σ:Im}{own:Nat→Option Nat}{w0 w:World}{tmps:Array Value}{d:D}{v:Value}(h:pE s.mode=false):Ej C s σ own w0 w tmps d v:=fun shs obs e=>by rw[e] at h;cases h
def JP (C:Ctx)(w0:World)(σ0:Base)(fn:Func)(s:Sig)(d:D)(a:Act)(w:World):Prop:=
 ∃v σ,(∃own t fx cx,FrOK σ own w0.heap.size σ0 w t fx cx∧(∀J,s.mode=.it J→d=t)∧Ej C s σ own w0 w a.tmps d v)∧(results fn a.tmps).run C.P w=.ok v w∧σ0.le σ∧σ.ok w∧Below σ0.B w0 w∧
  (∀k o x,σ.c k o=some x→σ0.c k o=some x∨w0.heap.size≤k)∧(∀k x,σ.m k=some x→σ0.m k=some x∨w0.heap.size≤k)∧nq C s σ w0 w v d
theorem Inv.fr (h:Inv C S ρ σ own hv w0 σ0 A a w){s:Sig}{d:D}{v:Value}(hm:∀J,s.mode≠.it J)(ho:pE s.mode=false):∃own t fx cx,FrOK σ own w0.heap.size σ0 w t fx cx∧(∀J,s.mode=.it J→d=t)∧Ej C s σ own w0 w a.tmps d v:=by
 obtain⟨t,fx,cx,h1,_⟩:=h.frame;exact⟨own,t,fx,cx,h1,fun J e=>absurd e (hm J),.no ho⟩
theorem aoD {cap:Nat→Option CSig}{eL:List Ty}{es:List PE}{res:Ty}{pe:PE}{vs:List Value}(hr:P5 eL es res=some pe)(kM:vs.length=eL.length)(qX:es.length=eL.length)
 (lS:∀(i:Nat) (t:Ty),eL[i]?=some t→Rep cap σ t (vs.getD i undef) ((PE.evs ρ es).getD i .none)):Rep cap σ res (sZ vs) (pe.ev ρ):=by
 have many:eL.length≠1→(bif Ty.sub (.tup eL) res then some (PE.tup es) else none)=some pe→Rep cap σ res (sZ vs) (pe.ev ρ):=by
  intro az hr;cases hb:Ty.sub (.tup eL) res<;>simp only[hb,cond_true,cond_false] at hr
  ·cases hr
  cases hr;have cf:sZ vs=Value.tuple vs.toArray:=by
   match vs,kM with
   |[],_=>rfl
   |[v],hl=>exact absurd hl.symm az
   |_::_::_,_=>rfl
  rw[cf];exact Rep.sub (Rep.tup _ _ _ (by rw[kM]) (by rw[PE.evs_eq,eN,qX]) lS) hb
 match eL,es,vs,kM,qX,lS,many,hr with
 |[ty],[e],[v],_,_,lS,_,hr=>
  simp only[P5] at hr;cases hb:Ty.sub ty res<;>simp only[hb,cond_true,cond_false] at hr
  ·cases hr
  cases hr;have:=lS 0 ty rfl;exact Rep.sub (by simpa [PE.evs,sZ] using this) hb
 |[],[],_,_,_,_,many,hr=>exact many (by simp) hr
 |_::_::_,_::_::_,_,_,_,_,many,hr=>exact many (by simp) hr
theorem WM:∀{l:List Sh} {k:Nat},He S k l=true→∀(t:Nat) (s:Sh),l[t]?=some s→pC s=false→rn s=true∧(s=.none∨S.r (k+t)=s)
 |[],k,_,t,s,h,_=>by simp at h
 |x::l,k,hk,t,s,h,hd=>by
  simp only[He,aq,jy] at hk;cases t with
  |zero=>
   simp at h;subst h;refine⟨hk.1,?_⟩;rcases hk.2.1 with(h1|h1)|h1
   ·rw[hd] at h1;cases h1
   ·left;cases x<;>first|rfl|cases h1
   ·exact .inr (Sh.beq_eq _ _ h1)
  |succ t=>
   simp at h;have:=WM hk.2.2 t s h hd
   rwa [tW,Ae 1 t] at this
theorem W3:∀{obs:List (Nat×Ob)},(obs.all fun x=>Ob.beq (S.o x.1) x.2)=true→∀j,dF obs j=.dead∨(S.o j=dF obs j∧l0 obs (obs.map fun x=>ρ.o x.1) j=ρ.o j)
 |[],_,j=>.inl rfl
 |x::obs,h,j=>by
  simp only[oG,aq] at h;simp only[dF,eB,l0];cases hb:Nat.beq x.1 j<;>simp only[cond_true,cond_false]
  ·exact W3 h.2 j
  ·rw[←aw hb];exact .inr ⟨Ob.beq_eq _ _ h.1,rfl⟩
theorem arT {ty:Ty}{eL:List Ty}{es:List PE}(h:∀ty e,eL=[ty]→es=[e]→False)(hl:es.length=eL.length):eL.length≠1:=by
 intro h1
 match eL,es with
 |[ty],[e]=>exact h ty e rfl rfl
 |[],_=>simp at h1
 |_::_::_,_=>simp at h1
 |[_],[]=>simp at hl
 |[_],_::_::_=>simp at hl
theorem aaF (h:Inv C S ρ σ own hv w0 σ0 A a w){T:TypeId}{e:Ty}{j ver:Nat}{v:Value}{d:D}(hc:aF C S ρ σ hv (.obj j ver) v d){pe:PE}
 (hr:(bif Nat.beq ver (S.ver j) then(match S.o j with|.row U f=>bif Nat.beq U T&&Ty.beq f e then some (PE.o j) else none|_=>none) else none)=some pe):
 ∃cells xs,pe.ev ρ=.list xs∧w.ownsRow w0.heap.size T e.size v xs.length cells∧dT C.cap σ e cells xs∧∀k,v.ownBlock=some k→(∀o,σ.c k o=none)∧σ.m k=none:=by
 cases hb:Nat.beq ver (S.ver j)<;>simp only[hb,cond_true,cond_false] at hr
 ·cases hr
 split at hr
 case h_2=>cases hr
 rename_i U f ho;cases fm:Nat.beq U T&&Ty.beq f e<;>simp only[fm,cond_true,cond_false] at hr
 ·cases hr
 cases hr;simp only[aq] at fm;have hU:=aw fm.1;have hf:=Ty.beq_eq _ _ fm.2;subst hU hf;have hj:=h.objs j;rw[ho] at hj;obtain⟨cells,xs,h1,h2,h3,h4⟩:=hj;have hv':=hc.2 (aw hb);subst hv';exact⟨cells,xs,h1,h2,h3,fun k hk=>(h.owns k j (h4 k hk)).2.2⟩
theorem aaB:∀(l:List ResultVar) {S:St} {r:St×List Ty×List PE},rF C l S=some r→r.1.ver=S.ver
 |[],S,r,h=>by simp only[rF,aT] at h;subst h;rfl
 |x::l,S,r,h=>by
  simp only[rF,ar,ax] at h;obtain⟨r1,h1,q,h2,rfl⟩:=h;rw[aaB l h2];cases x with
  |tmp t=>
   simp only[zz,ax] at h1;obtain⟨y,_,rfl⟩:=h1;exact(pj _ _).1
  |cell b T=>
   simp only[zz] at h1;split at h1
   ·cases h1;exact(pj _ _).1
   ·rename_i j ver t0 e0 _;cases hb:Nat.beq ver (((S.fzs (sS C S T (.tmp b))).fz j).ver j)<;>simp only[hb,cond_true,cond_false] at h1
    ·cases h1
    ·split at h1
     ·cases h1;rw[(F7 _ _).1];exact(pj _ _).1
     ·cases h1
   ·cases h1
theorem aoF (h:Inv C S ρ σ own hv w0 σ0 A a w)(hC:CtxOK C σ0)(dv:∀j,S.ver j=0){fn:Func}{s:Sig}{pe:PE}(hr:we C fn s S=some pe):JP C w0 σ0 fn s (pe.ev ρ) a w:=by
 unfold we at hr;split at hr
 ·rename_i shs obs hm;simp only[aaD,ar] at hr;obtain⟨r,aR,hr⟩:=hr;obtain⟨σ1,dq,vs,hle,h1,u7,kM,qX,lS⟩:=P4 hC _ h aR;cases hb:M2 r.1 shs obs<;>simp only[hb,cond_true,cond_false] at hr
  ·cases hr
  simp only[ax] at hr;obtain⟨e,he,rfl⟩:=hr;simp only[M2,aq] at hb;have bE:=aoD he kM qX lS;obtain⟨t,fx,cx,hf,_⟩:=h1.frame;have sq:Compat r.1 hv (fa shs obs) hv:=⟨fun j=>by rw[aaB _ aR,dv];exact np _,fun _ _=>rfl⟩
  have Mj:(PE.evs ρ (e::obs.map fun x=>.o x.1))=e.ev ρ::obs.map (fun x=>ρ.o x.1):=by simp[PE.evs_eq,D9,PE.ev]
  refine⟨_,σ1,⟨dq,t,fx,cx,hf,(fun J e=>by rw[hm] at e;cases e),fun ayJ ayg e'=>?_⟩,DK u7,h1.le,h1.ok,h1.below,h1.newc,h1.newm,by unfold nq;rw[hm];trivial⟩;rw[hm] at e';cases e';refine⟨hv,e.ev ρ,obs.map fun x=>ρ.o x.1,by simp only[PE.ev];rw[Mj],by simp,h1.owns,fun t sh hs hd d=>?_,fun j=>?_,bE⟩
  ·obtain⟨eI,e1⟩:=WM hb.1 t sh hs hd;rcases e1 with e1|e1
   ·subst e1;trivial
   ·rw[jD] at e1;have:=h1.regs t;rw[e1] at this;have eG:∀gs s',sh≠.opt gs s':=fun gs s' e=>by subst e;cases eI
    have:=aF.mono' (S':=fa shs obs) (ρ':=kU obs [] (obs.map fun x=>ρ.o x.1)) (.refl σ1) sq eG this;cases sh with
    |dat t=>cases hd
    |opt gs s=>cases eI
    |eptr j v o q=>cases eI
    |agg l=>cases eI
    |_=>exact this
  ·rcases W3 (ρ:=ρ) hb.2 j with e1|⟨e1,e2⟩
   ·rw[e1];trivial
   ·rw[←e1];exact(h1.objs j).mono (.refl σ1) sq rfl e2 (fun k hk=>⟨hk,rfl⟩)
 ·rename_i hm;simp only[aaC,ar] at hr;obtain⟨r,aR,hr⟩:=hr;obtain⟨σ1,dq,vs,hle,h1,u7,kM,qX,lS⟩:=P4 hC _ h aR;refine⟨_,σ1,h1.fr (fun J e=>by rw[hm] at e;cases e) (by rw[hm];rfl),DK u7,h.le.trans hle,h1.ok,h1.below,h1.newc,h1.newm,?_⟩;unfold nq;rw[hm];simp only;split at hr
  ·rename_i ty e e1 e2;rw[e1] at kM lS;rw[e2] at lS;cases hb:Ty.sub ty s.res<;>simp only[hb,cond_true,cond_false] at hr
   ·cases hr
   cases hr;obtain⟨v,rfl⟩:∃v,vs=[v]:=by
        match vs,kM with
        |[v],_=>exact⟨v,rfl⟩
   have:=lS 0 ty rfl;exact Rep.sub (by simpa [PE.evs,sZ] using this) hb
  ·rename_i az;cases hb:Ty.sub (.tup r.2.1) s.res<;>simp only[hb,cond_true,cond_false] at hr
   ·cases hr
   cases hr;have VU:=arT (ty:=.bool) az qX;have cf:sZ vs=Value.tuple vs.toArray:=by
        match vs,kM with
        |[],_=>rfl
        |[v],hl=>rw[←hl] at VU;exact absurd rfl VU
        |_::_::_,_=>rfl
   rw[cf];refine Rep.sub (Rep.tup _ _ _ (by rw[kM]) (by rw[PE.evs_eq,eN,qX]) lS) hb
 ·rename_i J hm;split at hr
  case h_2=>cases hr
  rename_i kl hJ;cases hr;obtain⟨t,fx,cx,h1,h2⟩:=h.frame;refine⟨_,σ,⟨own,t,fx,cx,h1,fun J' e=>?_,.no (by rw[hm];rfl)⟩,DK (vs:=[]) (by rw[kl];trivial),h.le,h.ok,h.below,h.newc,h.newm,by unfold nq;rw[hm];trivial⟩;exact(h2 J hJ).2
 ·rename_i T e hm;have key:∃v,(results fn a.tmps).run C.P w=.ok v w∧∃cells xs,pe.ev ρ=.list xs∧w.ownsRow w0.heap.size T e.size v xs.length cells∧dT C.cap σ e cells xs∧∀k,v.ownBlock=some k→(∀o,σ.c k o=none)∧σ.m k=none:=by
   unfold aaE at hr;split at hr
   ·rename_i t ht;split at hr
    case h_2=>cases hr
    rename_i j ver hs;have hc:=(m0 (gs:=[]) h rfl t).1;rw[hs] at hc;exact⟨_,DK (vs:=[a.tmps.getD t undef]) (by rw[ht];exact⟨rfl,trivial⟩),aaF h hc hr⟩
   ·rename_i b U hb;split at hr
    case h_2=>cases hr
    rename_i j ver t0 e0 hl;have hq:=HP (Φ:=fun _ _=>none) (dst:=0) (gs:=[]) h hC rfl hl (o:={(default:Oper) with op:=.load U (.tmp b)}) rfl;obtain⟨v,d,e1,e2,e3,e4⟩:=hq _ rfl;exact⟨_,DK (vs:=[v]) (by rw[hb];exact⟨Nq rfl e2,trivial⟩),aaF h e3 hr⟩
   ·cases hr
  obtain⟨v,h1,h2⟩:=key;refine⟨v,σ,h.fr (fun J e=>by rw[hm] at e;cases e) (by rw[hm];rfl),h1,h.le,h.ok,h.below,h.newc,h.newm,?_⟩;unfold nq;rw[hm];exact h2
theorem jz.drop {σ:Im}{B D:Nat}:∀{ds:List Deferred},({target:=.collected D,args:=#[]}:Deferred)∉ds→jz σ B ds→jz (σ.drop D) B ds
 |[],_,_=>trivial
 |x::ds,hn,⟨⟨D',h1,h2,h3⟩,h⟩=>by
  simp only[cG,not_or] at hn;refine⟨⟨D',h1,?_,h3⟩,jz.drop hn.2 h⟩;have:D'≠D:=fun e=>hn.1 (by rw[h1,e]);simp[Im.drop,this,h2]
theorem Inv.shut (h:Inv C S ρ σ own hv w0 σ0 A a w)(lL:σ0.fin){x:Deferred}{ds:List Deferred}(hd:a.defers=x::ds):
 ∃D,x.target=.collected D∧w.heap[D]?=some (.deferred (some []))∧Inv C S ρ (σ.drop D) own hv w0 σ0 A {a with defers:=ds} (w.putObj D (.deferred none)):=by
 have mB:=h.defers;rw[hd] at mB;obtain⟨⟨D,rfl,hm,hB,Ma⟩,qT⟩:=mB;have hD:w.heap[D]?=some (.deferred (some [])):=by
  rcases h.ok.m D _ hm with⟨h1,_⟩|⟨_,h2⟩
  ·exact absurd rfl h1
  ·exact h2
 have gH:∀k,k≠D→(w.putObj D (.deferred none)).heap[k]?=w.heap[k]?:=fun k hk=>World.putObj_heap_other hk;have bt:∀k j,own k=some j→k≠D:=fun k j hk e=>by subst e;rw[(h.owns k j hk).2.2.2] at hm;cases hm
 have hR:Im.leR C.cap σ (σ.drop D):=⟨fun r=>r.drop hm,fun _ _ _ e=>e⟩
 have BA:∀k x,(σ.drop D).m k=some x→k≠D∧σ.m k=some x:=by
  intro k x hx;simp only[Im.drop] at hx;split at hx
  ·cases hx
  ·rename_i az;exact⟨az,hx⟩
 refine⟨D,rfl,hD,qT.drop Ma,⟨fun k o v hc=>?_,fun k es hc=>?_⟩,⟨h.le.c,fun k es hc=>?_⟩,h.old,h.newc,fun k es hc=>h.newm k es (BA k es hc).2,h.below.trans ⟨rfl,rfl,rfl,by simp,fun k hk=>gH k (by have:=h.bw;omega)⟩,h.bw,fun k j hk=>?_,fun t=>?_,fun j=>?_,h.opts,?_⟩
 ·have h1:=h.ok.c k o v hc;have az:k≠D:=fun e=>by subst e;simp[World.cell?,hD] at h1
  rw[World.cell?_of_block (gH k az)];exact h1
 ·exact(h.ok.m k es (BA k es hc).2).keep (gH k (BA k es hc).1)
 ·have az:k≠D:=fun e=>by
   subst e;have:=h.le.m _ _ hc;rw[hm] at this;cases this;have:=h.old lL _ hc;omega
  simp[Im.drop,az,h.le.m k es hc]
 ·obtain⟨g1,g2,g3,g4⟩:=h.owns k j hk;exact⟨g1,by simpa using g2,g3,by simp only[Im.drop];split<;>first|rfl|exact g4⟩
 ·exact aF.monoR hR (.refl S hv) (fun _ _ _=>rfl) (fun gs s e=>(h.opts t gs s e).2) (h.regs t)
 ·exact(h.objs j).monoR hR (.refl S hv) rfl rfl (fun k hk=>⟨hk,gH k (bt k j hk)⟩)
 ·obtain⟨t,fx,cx,hf,ht⟩:=h.frame;exact⟨t,fx,cx,⟨σ0.keep _ _ _ _ _ hf.F ⟨rfl,rfl,rfl,by simp,fun k hk=>by omega⟩ (fun k hk=>gH k fun e=>by subst e;exact hf.d k hm hB hk),hf.own,hf.c,fun k x hx=>hf.m k x (BA k x hx).2,fun k hx=>hf.d k (BA k _ hx).2⟩,ht⟩
def oM (C:Ctx)(w0:World)(σ0:Base)(fn:Func)(s:Sig)(d:D)(tmps:Array Value):List Deferred→World→Prop
 |[],w=>JP C w0 σ0 fn s d {tmps:=tmps,defers:=[]} w
 |x::ds,w=>∃D,x.target=.collected D∧w.heap[D]?=some (.deferred (some []))∧oM C w0 σ0 fn s d tmps ds (w.putObj D (.deferred none))
theorem Inv.retD (hC:CtxOK C σ0)(dv:∀j,S.ver j=0)(lL:σ0.fin){fn:Func}{s:Sig}{pe:PE}(hr:we C fn s S=some pe):∀(ds:List Deferred) {σ:Im} {a:Act} {w:World},Inv C S ρ σ own hv w0 σ0 A a w→a.defers=ds→oM C w0 σ0 fn s (pe.ev ρ) a.tmps ds w
 |[],σ,a,w,h,hd=>by
  have e:a={tmps:=a.tmps,defers:=[]}:=by cases a;simp only at hd;subst hd;rfl
  rw[e] at h;exact aoF h hC dv hr
 |x::ds,σ,a,w,h,hd=>by
  obtain⟨D,h1,h2,h3⟩:=h.shut lL hd;exact⟨D,h1,h2,Inv.retD hC dv lL hr ds (a:={a with defers:=ds}) h3 rfl⟩
end
end Cx
namespace Cx
open Go Go.RowKit
def kC (C:Ctx)(f:Nat)(cts ys:List Ty)(ds xs:List D):Prop:=
 ∀(σ:Im) (w:World) (yv:Value) (vs:List Value) (F:D→(Nat→Prop)→(Nat→Prop)→World→Prop) (fx cx:Nat→Prop) (m:Nat),σ.ok w→CtxOK C σ→na C σ cts vs ds→m≤xs.length→
  (∀t fx cx w,F t fx cx w→∀k,fx k→k<w.heap.size)→(∀t fx cx w,F t fx cx w→∀k,cx k→fx k)→
  (∀t fx cx w w',F t fx cx w→Below 0 w w'→(∀k,fx k→w'.heap[k]?=w.heap[k]?)→F t fx cx w')→
  F (.list []) fx cx w→(∀k o x,σ.c k o=some x→¬cx k)→(∀k x,σ.m k=some x→¬cx k)→
  (∀(i:Nat) (fx cx:Nat→Prop) (w1:World) (σ1:Im) (args:List Value) (ds':List D),i≤m→xs[i]?=some (.tup ds')→F (.list (xs.take i)) fx cx w1→σ1.ok w1→na C σ1 ys args ds'→
    (∀k o x,σ1.c k o=some x→¬cx k)→(∀k x,σ1.m k=some x→¬cx k)→
    (∀k o x,σ1.c k o=some x→σ.c k o=some x∨w.heap.size≤k)→(∀k x,σ1.m k=some x→σ.m k=some x∨w.heap.size≤k)→
    Tj C.P yv args w1 fun u w2=>u=.bool (decide (i<m))∧Below 0 w1 w2∧(∀k,k<w1.heap.size→¬cx k→w2.heap[k]?=w1.heap[k]?)∧
     ∃lF jd,F (.list (xs.take (i+1))) lF jd w2∧(∀k,lF k→k<w1.heap.size→fx k∨(∃o x,σ1.c k o=some x)∨(∃x,σ1.m k=some x∧x≠cL))∧(∀k,jd k→k<w1.heap.size→cx k))→
  Calls C.P f (#[yv]++vs.toArray) w fun e w'=>(∃v,e=.returned v)∧∃fx cx,F (.list (xs.take (m+1))) fx cx w'
def fA (C:Ctx)(Φ:aJ):Prop:=∀f cs ys,C.cap f=some cs→lW cs.args cs.res=some ys→(∃fn,C.P.funcs[f]?=some fn∧fn.body.isSome=true∧(fn.name== "runtime.NumGoroutine")=false)∧
 ∀ds d,Φ f ds=some d→∃xs,d=.list xs∧(∀x,x∈xs→∃ds',x=.tup ds'∧ds'.length=ys.length)∧kC C f cs.caps ys ds xs
section
variable {C:Ctx} {S:St} {ρ:Env} {σ:Im} {own:Nat→Option Nat} {hv:Nat→Value} {w0:World} {σ0:Base} {A:Nat→Prop} {a:Act} {w:World}
theorem Inv.mono_regs (h:Inv C S ρ σ own hv w0 σ0 A a w){τ:Im}(hle:σ.le τ)(t:Nat):aF C S ρ τ hv (S.r t) (a.tmps.getD t undef) (ρ.r t):=
 aF.mono hle (.refl S hv) (fun _ _ _=>rfl) (fun gs s e=>(h.opts t gs s e).2) (h.regs t)
theorem Inv.joinIm (h:Inv C S ρ σ own hv w0 σ0 A a w){τ:Im}(hτ:τ.ok w)(hd:∀k,τ.m k≠some cL)(hoc:∀k o v,τ.c k o=some v→own k=none)(hom:∀k v,τ.m k=some v→own k=none)
 (dz:∀k o v,τ.c k o=some v→σ.c k o=some v∨w0.heap.size≤k) (cR:∀k v,τ.m k=some v→σ.m k=some v∨w0.heap.size≤k)
 (dB:∀t fx cx,FrOK σ own w0.heap.size σ0 w t fx cx→(∀k o v,τ.c k o=some v→¬cx k)∧∀k v,τ.m k=some v→¬cx k):Inv C S ρ (σ.plus τ) own hv w0 σ0 A a w where
 defers:=h.defers.mono (Im.plus_le1 σ τ)
 ok:=Im.plus_ok h.ok hτ
 le:=h.le.trans (Im.plus_le1 σ τ)
 old:=h.old
 newc:=fun k o x e=>(Im.plus_c e).elim (h.newc k o x) fun e=>(dz k o x e).elim (h.newc k o x) .inr
 newm:=fun k x e=>(Im.plus_m e).elim (h.newm k x) fun e=>(cR k x e).elim (h.newm k x) .inr
 below:=h.below
 bw:=h.bw
 owns:=fun k j hk=>by
  obtain⟨g1,g2,g3,g4⟩:=h.owns k j hk;refine⟨g1,g2,fun o=>?_,?_⟩
  ·cases e:(σ.plus τ).c k o with
   |none=>rfl
   |some x=>
    rcases Im.plus_c e with e|e
    ·rw[g3 o] at e;cases e
    ·rw[hoc k o x e] at hk;cases hk
  ·cases e:(σ.plus τ).m k with
   |none=>rfl
   |some x=>
    rcases Im.plus_m e with e|e
    ·rw[g4] at e;cases e
    ·rw[hom k x e] at hk;cases hk
 regs:=h.mono_regs (Im.plus_le1 σ τ)
 objs:=fun j=>(h.objs j).mono (Im.plus_le1 σ τ) (.refl S hv) rfl rfl fun k hk=>⟨hk,rfl⟩
 opts:=h.opts
 frame:=by
  obtain⟨t,fx,cx,hf,ht⟩:=h.frame;obtain⟨h1,h2⟩:=dB t fx cx hf;exact⟨t,fx,cx,⟨hf.F,hf.own,fun k o x e=>(Im.plus_c e).elim (hf.c k o x) (h1 k o x),fun k x e=>(Im.plus_m e).elim (hf.m k x) (h2 k x),fun k e=>(Im.plus_m e).elim (hf.d k) fun e=>absurd e (hd k)⟩,ht⟩
theorem Inv.keep (h:Inv C S ρ σ own hv w0 σ0 A a w){w':World}{X:Nat→Prop}(hb:Below 0 w w')(hX:∀k,X k→w'.heap[k]?=w.heap[k]?)(h0:∀k,k<w0.heap.size→X k)(ho:∀k j,own k=some j→X k)(hc:∀k o v,σ.c k o=some v→X k)(hm:∀k v,σ.m k=some v→X k)
 (dB:∀t fx cx,FrOK σ own w0.heap.size σ0 w t fx cx→∀k,fx k→X k):Inv C S ρ σ own hv w0 σ0 A a w' where
 defers:=h.defers
 ok:=⟨fun k o v e=>by rw[World.cell?_of_block (hX k (hc k o v e))];exact h.ok.c k o v e,fun k v e=>(h.ok.m k v e).keep (hX k (hm k v e))⟩
 le:=h.le
 old:=h.old
 newc:=h.newc
 newm:=h.newm
 below:=h.below.trans ⟨hb.os,hb.tape,hb.output,hb.size,fun k hk=>hX k (h0 k (qj hk h.bw))⟩
 bw:=h.bw
 owns:=fun k j hk=>let⟨g1,g2,g3⟩:=h.owns k j hk;⟨g1,qj g2 hb.size,g3⟩
 regs:=h.regs
 objs:=fun j=>(h.objs j).mono (.refl σ) (.refl S hv) rfl rfl fun k hk=>⟨hk,hX k (ho k j hk)⟩
 opts:=h.opts
 frame:=by
  obtain⟨t,fx,cx,hf,ht⟩:=h.frame;exact⟨t,fx,cx,⟨σ0.keep _ _ _ _ _ hf.F hb fun k hk=>hX k (dB t fx cx hf k hk),hf.own,hf.c,hf.m,hf.d⟩,ht⟩
end
def Base.rnd (σ0:Base)(σ:Im)(own:Nat→Option Nat)(w:World)(t:D)(X:Nat→Prop):Base:=
 {σ with
  B:=σ0.B
  fin:=False
  F:=fun t' fx cx w'=>t'=t∧(∀k,fx k↔(k<w.heap.size∧own k=none∧σ.m k≠some cL∧¬X k))∧(∀k,cx k↔(fx k∧(∀o,σ.c k o=none)∧σ.m k=none))∧w.heap.size≤w'.heap.size∧∀k,fx k→w'.heap[k]?=w.heap[k]?
  lt:=fun t' fx cx w' h k hk=>qj ((h.2.1 k).1 hk).1 h.2.2.2.1
  sub:=fun t' fx cx w' h k hk=>((h.2.2.1 k).1 hk).1
  keep:=fun t' fx cx w' jw h hb hs=>⟨h.1,h.2.1,h.2.2.1,gy h.2.2.2.1 hb.size,fun k hk=>(hs k hk).trans (h.2.2.2.2 k hk)⟩}
section
variable {C:Ctx} {S S':St} {ρ ρ':Env} {σ σ':Im} {own own':Nat→Option Nat} {hv hv':Nat→Value} {w0:World} {σ0:Base} {A A':Nat→Prop} {a a':Act} {w w':World} {X:Nat→Prop}
theorem Inv.toRnd (h:Inv C S ρ σ own hv w0 σ0 A a w){t:D}(ht:∀j,S.o j=.tr→(∃ys,C.yl=some (j,ys))∧ρ.o j=t):Inv C S ρ σ own hv w0 (σ0.rnd σ own w t X) A a w:=by
 refine⟨h.defers,h.ok,.refl σ,(fun hf=>hf.elim),(fun _ _ _ e=>.inl e),(fun _ _ e=>.inl e),h.below,h.bw,h.owns,h.regs,h.objs,h.opts,t,fun k=>k<w.heap.size∧own k=none∧σ.m k≠some cL∧¬X k,fun k=>(k<w.heap.size∧own k=none∧σ.m k≠some cL∧¬X k)∧(∀o,σ.c k o=none)∧σ.m k=none,
  ⟨⟨rfl,fun _=>.rfl,fun _=>.rfl,aU _,fun _ _=>rfl⟩,fun k j hk hf=>?_,fun k o x e hc=>?_,fun k x e hc=>?_,fun k e _ hf=>hf.2.2.1 e⟩,ht⟩
 ·have:=hf.2.1;rw[hk] at this;cases this
 ·have:=hc.2.1 o;rw[e] at this;cases this
 ·have:=hc.2.2;rw[e] at this;cases this
theorem Inv.markSame {w1:World}(h:σ.ok w1)(h':σ'.ok w')(hle:σ.le σ'){k:Nat}(hk:σ.m k=some cL):w'.heap[k]?=w1.heap[k]?:=by
 have e1:w1.heap[k]?=some (.deferred (some [])):=by
  rcases h.m k _ hk with⟨h1,_⟩|⟨_,h2⟩
  ·exact absurd rfl h1
  ·exact h2
 have e2:w'.heap[k]?=some (.deferred (some [])):=by
  rcases h'.m k _ (hle.m k _ hk) with⟨h1,_⟩|⟨_,h2⟩
  ·exact absurd rfl h1
  ·exact h2
 rw[e1,e2]
theorem Inv.rndSame {w1:World}{t:D}(au:σ.ok w1)(h':Inv C S' ρ' σ' own' hv' w0 (σ0.rnd σ own w1 t X) A' a' w'){k:Nat}(hk:k<w1.heap.size)(ho:own k=none)(hX:¬X k):w'.heap[k]?=w1.heap[k]?:=by
 by_cases hd:σ.m k=some cL
 ·exact Inv.markSame au h'.ok h'.le hd
 ·obtain⟨t',fx,cx,hf,_⟩:=h'.frame;obtain⟨_,f2,_,_,f5⟩:=hf.F;exact f5 k ((f2 k).2 ⟨hk,ho,hd,hX⟩)
theorem Inv.rndBelow {w1:World}{t:D}(h:Inv C S ρ σ own hv w0 σ0 A a w1)(h':Inv C S' ρ' σ' own' hv' w0 (σ0.rnd σ own w1 t X) A' a' w'):Below 0 w1 w':=by
 obtain⟨t',fx,cx,hf,_⟩:=h'.frame;obtain⟨_,_,_,f4,_⟩:=hf.F;exact⟨h'.below.os.trans h.below.os.symm,h'.below.tape.trans h.below.tape.symm,h'.below.output.trans h.below.output.symm,f4,fun k hk=>by omega⟩
theorem Inv.rndOwn {w1:World}{t:D}(h':Inv C S' ρ' σ' own' hv' w0 (σ0.rnd σ own w1 t X) A' a' w'){k j:Nat}(hk:own' k=some j)(hX:¬X k):(∃i,own k=some i)∨w1.heap.size≤k:=by
 obtain⟨t',fx,cx,hf,_⟩:=h'.frame;obtain⟨_,f2,_,_,_⟩:=hf.F;cases e:own k with
 |some i=>exact .inl ⟨i,rfl⟩
 |none=>
  refine .inr (S8 fun af=>?_);by_cases hd:σ.m k=some cL
  ·have:=(h'.owns k j hk).2.2.2;rw[h'.le.m k _ hd] at this;cases this
  ·exact hf.own k j hk ((f2 k).2 ⟨af,e,hd,hX⟩)
theorem Inv.rndC {w1:World}{t:D}(h':Inv C S' ρ' σ' own' hv' w0 (σ0.rnd σ own w1 t X) A' a' w'){k:Nat}(hk:(∃o x,σ'.c k o=some x)∨∃x,σ'.m k=some x)(hX:¬X k):(∃o x,σ.c k o=some x)∨(∃x,σ.m k=some x)∨(∃i,own k=some i)∨w1.heap.size≤k:=by
 obtain⟨t',fx,cx,hf,_⟩:=h'.frame;obtain⟨_,f2,f3,_,_⟩:=hf.F;cases e:own k with
 |some i=>exact .inr (.inr (.inl ⟨i,rfl⟩))
 |none=>
  by_cases hm:∃x,σ.m k=some x
  ·exact .inr (.inl hm)
  by_cases hc:∃o x,σ.c k o=some x
  ·exact .inl hc
  refine .inr (.inr (.inr (S8 fun af=>?_)));have VQ:σ.m k=none:=by
   cases e2:σ.m k with
   |none=>rfl
   |some x=>exact absurd ⟨x,e2⟩ hm
  have fV:cx k:=(f3 k).2 ⟨(f2 k).2 ⟨af,e,by rw[VQ];simp,hX⟩,fun o=>by
   cases e2:σ.c k o with
   |none=>rfl
   |some x=>exact absurd ⟨o,x,e2⟩ hc,VQ⟩
  rcases hk with⟨o,x,hk⟩|⟨x,hk⟩
  ·exact hf.c k o x hk fV
  ·exact hf.m k x hk fV
theorem Inv.ofRnd {w1:World}(h:Inv C S ρ σ own hv w0 σ0 A a w1){t:D}{fx cx:Nat→Prop}(dB:FrOK σ own w0.heap.size σ0 w1 t fx cx)(hX:∀k,fx k→¬X k)(h':Inv C S' ρ' σ' own' hv' w0 (σ0.rnd σ own w1 t X) A' a' w'):
 Inv C S' ρ' σ' own' hv' w0 σ0 A' a' w':=by
 have hb:=h.rndBelow h';have jI:=h';obtain⟨t',lF,jd,hf,ht⟩:=jI.frame;obtain⟨f1,f2,f3,f4,f5⟩:=hf.F;have af:=σ0.lt _ _ _ _ dB.F;have bT:=σ0.sub _ _ _ _ dB.F
 have V0:∀k,fx k→own k=none:=fun k hk=>by
  cases e:own k with
  |none=>rfl
  |some j=>exact absurd hk (dB.own k j e)
 have kg:∀k,cx k→¬((∃o x,σ'.c k o=some x)∨∃x,σ'.m k=some x):=fun k hk hc=>by
  have h1:=bT k hk;rcases Inv.rndC h' hc (hX k h1) with⟨o,x,e⟩|⟨x,e⟩|⟨j,e⟩|e
  ·exact dB.c k o x e hk
  ·exact dB.m k x e hk
  ·exact dB.own k j e h1
  ·have:=af k h1;omega
 refine⟨h'.defers,h'.ok,h.le.trans h'.le,h.old,fun k o x e=>(h'.newc k o x e).elim (h.newc k o x) .inr,fun k x e=>(h'.newm k x e).elim (h.newm k x) .inr,h'.below,h'.bw,h'.owns,h'.regs,h'.objs,h'.opts,t,fx,cx,
  ⟨σ0.keep _ _ _ _ _ dB.F hb fun k hk=>Inv.rndSame h.ok h' (af k hk) (V0 k hk) (hX k hk),fun k j hk gS=>?_,fun k o x e hc=>kg k hc (.inl ⟨o,x,e⟩),fun k x e hc=>kg k hc (.inr ⟨x,e⟩),fun k e hB gS=>?_⟩,fun j hj=>⟨(ht j hj).1,by rw[(ht j hj).2,f1]⟩⟩
 ·rcases Inv.rndOwn h' hk (hX k gS) with⟨i,e⟩|e
  ·exact dB.own k i e gS
  ·have:=af k gS;omega
 ·by_cases hd:σ.m k=some cL
  ·exact dB.d k hd hB gS
  ·exact hf.d k e hB ((f2 k).2 ⟨af k gS,V0 k gS,hd,hX k gS⟩)
theorem Inv.restore (h:Inv C S ρ σ own hv w0 σ0 A a w)(hn:∀t gs s,S.r t≠.opt gs s)(hd:jz σ w0.heap.size a'.defers)(hr:∀t,isNone (S.r t)=false→a'.tmps.getD t undef=a.tmps.getD t undef∧ρ'.r t=ρ.r t)(ho:∀j,mL (S.o j)=false→ρ'.o j=ρ.o j):
 Inv C S ρ' σ own hv w0 σ0 (fun _=>False) a' w:=by
 refine⟨hd,h.ok,h.le,h.old,h.newc,h.newm,h.below,h.bw,h.owns,fun t=>?_,fun j=>?_,fun t gs s e=>absurd e (hn t gs s),?_⟩
 ·cases hs:isNone (S.r t) with
  |true=>cases hc:S.r t<;>rw[hc] at hs<;>simp[isNone] at hs;trivial
  |false=>
   rw[(hr t hs).1,(hr t hs).2];exact aF.mono' (.refl σ) (.refl S hv) (hn t) (h.regs t)
 ·cases hs:mL (S.o j) with
  |true=>cases hc:S.o j<;>rw[hc] at hs<;>simp[mL] at hs;trivial
  |false=>exact(h.objs j).mono (.refl σ) (.refl S hv) rfl (ho j hs) (fun k hk=>⟨hk,rfl⟩)
 ·obtain⟨t,fx,cx,h1,h2⟩:=h.frame;exact⟨t,fx,cx,h1,fun j hj=>⟨(h2 j hj).1,by rw[ho j (by rw[hj];rfl)];exact(h2 j hj).2⟩⟩
theorem jz.mem {σ:Im}{B:Nat}:∀{ds:List Deferred} {d:Deferred},d∈ds→jz σ B ds→∃D,d={target:=.collected D,args:=#[]}∧σ.m D=some cL
 |x::ds,d,hm,⟨⟨D,h1,h2,_⟩,h⟩=>by
  rcases cG.1 hm with e|e
  ·subst e;exact⟨D,h1,h2⟩
  ·exact jz.mem e h
def Im.mark (σ:Im)(D:Nat):Im:=⟨σ.c,fun k=>if k=D then some cL else σ.m k⟩
theorem Ur (w:World)(o1 o2:Obj):Below w.heap.size w ((w.alloc o1).alloc o2):=(((Below.refl _ w).alloc (aU _) o1).alloc (by simp) o2)
theorem Inv.enter (h:Inv C S ρ σ own hv w0 σ0 A a w)(r:Loop):
 Inv C S ρ (σ.mark w.heap.size) own hv w0 σ0 A {a with defers:={target:=.collected w.heap.size,args:=#[]}::a.defers} ((w.alloc (.deferred (some []))).alloc (.loop r)):=by
 have hD:((w.alloc (.deferred (some []))).alloc (.loop r)).heap[w.heap.size]?=some (.deferred (some [])):=(Below.heap_alloc _ _ _ (by simp)).trans (World.alloc_heap_new w _);have hle:σ.le (σ.mark w.heap.size):=by
  refine⟨fun _ _ _ e=>e,fun k x e=>?_⟩;have:k≠w.heap.size:=by have:=h.ltm e;omega
  simp[Im.mark,this,e]
 have uX:∀k x,(σ.mark w.heap.size).m k=some x→σ.m k=some x∨(k=w.heap.size∧x=cL):=by
  intro k x e;simp only[Im.mark] at e;split at e
  ·rename_i e2;cases e;exact .inr ⟨e2,rfl⟩
  ·exact .inl e
 have hb:=Ur w (.deferred (some [])) (.loop r);have au:(σ.mark w.heap.size).ok ((w.alloc (.deferred (some []))).alloc (.loop r)):=by
  have h1:=h.ok.below hb;refine⟨h1.c,fun k x e=>?_⟩;rcases uX k x e with e|⟨rfl,rfl⟩
  ·exact h1.m k x e
  ·exact .inr ⟨rfl,hD⟩
 have hw:=h.world hle au hb (fun _ _ _ e=>.inl e) (fun k x e=>(uX k x e).imp id fun e=>by omega);have mB:=hw.defers;refine⟨⟨⟨_,rfl,by simp[Im.mark],h.below.size,fun hm=>?_⟩,mB⟩,hw.ok,hw.le,hw.old,hw.newc,hw.newm,hw.below,hw.bw,hw.owns,hw.regs,hw.objs,hw.opts,hw.frame⟩;obtain⟨D,e1,e2⟩:=jz.mem hm h.defers;have:D=w.heap.size:=by cases e1;rfl
 subst this;have:=h.ltm e2;omega
end
end Cx
