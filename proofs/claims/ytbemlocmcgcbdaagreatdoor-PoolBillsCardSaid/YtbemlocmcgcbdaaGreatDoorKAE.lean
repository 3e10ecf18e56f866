/-
  Shared texts of this claim.
-/
import Derived.Test.YtbemlocmcgcbdaaGreatDoorKAD
import Derived.Tactics
import Derived.RangeFuncIn
import Derived.OrdersIn
import Derived.RangeFuncRecord
set_option linter.defProp false
set_option linter.unusedSimpArgs false
set_option linter.unusedVariables false
namespace Cx
open Go Go.RowKit
def tF:Op->Bool
 |.defer _=>false
 |_=>true
def FR (rd:Option Nat):Fence:={Fence.wide with round:=rd}
def ace {rd:Option Nat}{n:Nat}{P:Program}{f:FuncId}{args:Array Value}{w:World}{R:Ending->World->Prop}(h:Calls P f args w R):CallsIn (FR rd) n P f args w R:=
 (callsIn_wide (n:=n)).2 h
def aiv {rd:Option Nat}{n:Nat}{P:Program}{o:Oper}{a:Act}{w:World}{K:Act->World->Prop}{Q:Exit->Act->World->Prop}(bp:tF o.op=true)(h:o.wp P a w K Q):o.wpIn (FR rd) n P a w K Q:=by
 refine⟨λ_ _=>trivial,?_⟩;rw[Oper.semAt_eq _ _ _ (λc e=>by rw[e] at bp;cases bp)];unfold Oper.wp at h;generalize (execOp a.eval o).run P w=x at h;have fH:∀{p:Prop},((FR rd).depth.isSome=true->p):=λe=>by cases e
 cases x with
 |ok v w'=>
  cases v with
  |value v=>exact h
  |skip=>exact h
  |defer d=>exact h
  |enter f args=>
   refine⟨fH,(ace h).mono λe ll hh=>?_⟩;cases e<;>exact hh
  |row row args=>
   refine⟨fH,λc cs _=>?_⟩;obtain⟨v,w2,h1,h2⟩:=h c cs;exact⟨v,w2,h1,stepsIn_wide.2 h2⟩
  |_=>exact h.elim
 |halt v w'=>
  cases v with
  |panic v=>exact h
  |_=>exact h.elim
structure SameBut (D:Nat->Prop) (a a':Act):Prop where
 size:a'.tmps.size=a.tmps.size
 get:∀t,¬D t->a'.tmps.getD t undef=a.tmps.getD t undef
def SameBut.refl (D:Nat->Prop)(a:Act):SameBut D a a:=⟨rfl,λ_ _=>rfl⟩
def SameBut.trans {D:Nat->Prop}{a b c:Act}(h:SameBut D a b)(k:SameBut D b c):SameBut D a c:=⟨k.size.trans h.size,λt ht=>(k.get t ht).trans (h.get t ht)⟩
def SameBut.mono {D D':Nat->Prop}{a b:Act}(h:SameBut D a b)(hd:∀t,D t->D' t):SameBut D' a b:=⟨h.size,λt ht=>h.get t λe=>ht (hd t e)⟩
def SameBut.put (a:Act)(d:Option Tmp)(v:Value)(ds:List Deferred):SameBut (λt=>d=some t) a ({a with defers:=ds}.put d v):=by
 refine⟨size_put _ _ _,λt ht=>?_⟩;cases d with
 |none=>rfl
 |some u=>
  have:t≠u:=λe=>ht (by rw[e]);rw[IU];simp[this]
def Oper.wp_same {P:Program}{o:Oper}{a:Act}{w:World}{K:Act->World->Prop}{Q:Exit->Act->World->Prop}(h:o.wp P a w (λa' w'=>SameBut (λt=>o.dst=some t) a a'->K a' w') Q):o.wp P a w K Q:=by
 unfold Oper.wp at h ⊢;generalize (execOp a.eval o).run P w=x at h ⊢;cases x with
 |ok v w'=>
  cases v with
  |value v=>exact h (SameBut.put a _ _ a.defers)
  |skip=>exact h (SameBut.put a _ _ a.defers)
  |defer d=>exact h (SameBut.put a _ _ _)
  |enter f args=>
   refine Calls.mono h λe ll hh=>?_;cases e with
   |returned v=>exact hh (SameBut.put a _ _ a.defers)
   |panicked c=>exact hh
   |outgrown=>exact hh
  |row row args=>exact Rows.mono h λv ll hh=>hh (SameBut.put a _ _ a.defers)
  |_=>exact h
 |halt v w'=>
  cases v with
  |panic v=>exact h
  |_=>exact h
def YOK (P:Program)(v:Value)(args:List Value)(w:World)(R:Value->World->Prop):Prop:=
 ∀(rd:Option Nat) (o:Oper) (a:Act) (x:Operand) (aa:Array Operand) (ts:Array TypeId) (K:Act->World->Prop) (Q:Exit->Act->World->Prop),
  o.op=.call {callee:=.value x,args:=aa,argTypes:=ts}->a.eval x=v->aa.toList.map a.eval=args->(∀u w',R u w'->K (a.put o.dst u) w')->o.wpIn (FR rd) 0 P a w K Q
def nF:Nat:=1000000009
def ur (C:Ctx)(Z:aO)(w0:World)(σ0:Base):Prop:=∀J ys,C.yl=some (J,ys)->σ0.B=0/\(∀t fx cx w,σ0.F t fx cx w->∃xs,t=.list xs)/\
 ∀(xs ds':List D) (d:D),Z nF [.list (xs++[.tup ds'])]=some d->∀(fx cx:Nat->Prop) (w1:World) (σ1:Im) (args:List Value),σ0.F (.list xs) fx cx w1->σ1.ok w1->qw C σ1 ys args ds'->
  (∀k o x,σ1.c k o=some x->¬cx k)->(∀k x,σ1.m k=some x->¬cx k)->
  (∀k o x,σ1.c k o=some x->σ0.c k o=some x\/w0.heap.size<=k)->(∀k x,σ1.m k=some x->σ0.m k=some x\/w0.heap.size<=k)->
  YOK C.P C.yv args w1 λu w2=>∃b,d=.v (.bool b)/\u=.bool b/\Below 0 w1 w2/\(∀k,k<w1.heap.size->¬cx k->w2.heap[k]?=w1.heap[k]?)/\
   ∃ot kK,σ0.F (.list (xs++[.tup ds'])) ot kK w2/\(∀k,ot k->k<w1.heap.size->fx k\/(∃o x,σ1.c k o=some x)\/(∃x,σ1.m k=some x/\x≠cw))/\(∀k,kK k->k<w1.heap.size->cx k)
def O5 (gs:List (Nat×Bool))(J:Nat)(x:PE):PE:=
 match gs with
 |[]=>.app (.o J) (.lst [x])
 |_=>.pick (.nt (.imp gs (.con (.v (.bool false))))) (.app (.o J) (.lst [x])) (.o J)
def Lc (C:Ctx)(S:St)(ops:Array Oper)(o:Oper):Option (St×List PI):=
 match o.dst,o.op,C.yl with
 |some dst,.call {callee:=.value (.tmp t),args:=args,..},some (J,ys)=>
  (Cy S ops o).bind λgs=>
    match sc S gs t with
    |.yv=>
     match(S.fzs (ej S gs args.toList)).o J with
     |.tr=>
      (sl C (S.fzs (ej S gs args.toList)) gs args.toList).bind λu=>
        bif Ty.subs u.1 ys then some ((S.fzs (ej S gs args.toList)).setR dst (uI gs (.dat .bool)),[.setO J (O5 gs J (.tup u.2)),.call gs dst nF [.o J]]) else none
     |_=>none
    |_=>none
 |_,_,_=>none
def yK (C:Ctx)(S:St)(ops:Array Oper)(o:Oper):Option (St×List PI):=
 match Lc C S ops o with
 |some r=>some r
 |none=>E9 C S ops o
section
variable {C:Ctx} {S:St} {O:Env} {V:Im} {own:Nat->Option Nat} {hv:Nat->Value} {w0:World} {σ0:Base} {A:Nat->Prop} {a:Act} {w:World} {gs:List (Nat×Bool)} {Z:aO} {dst:Nat}
def aBc (gs:List (Nat×Bool))(J:Nat)(x:PE)(O:Env):(O5 gs J x).ev O=if holds gs O=true then .list ((O.o J).l++[x.ev O]) else O.o J:=by
 cases gs with
 |nil=>simp[O5,PE.ev,PE.evs,holds,D.l_list]
 |cons g gs=>
  simp only[O5,PE.ev,PE.evs,D.b_bool,D.l_list,Pr,Bool.not_not];cases holds (g::gs) O<;>rfl
def Inv.yielded (h:Inv C S O V own hv w0 σ0 A a w)(hB:σ0.B=0){J:Nat}{ys:List Ty}(hJ:C.yl=some (J,ys))(LH:S.o J=.tr){w2:World}(hb:Below 0 w w2){t:D}{fx cx:Nat->Prop}(hf:FrOK V own w0.heap.size σ0 w t fx cx)
 (hs:∀k,k<w.heap.size->¬cx k->w2.heap[k]?=w.heap[k]?) {t':D} {ot kK:Nat->Prop} (hF:σ0.F t' ot kK w2)
 (h1:∀k,ot k->k<w.heap.size->fx k\/(∃o x,V.c k o=some x)\/(∃x,V.m k=some x/\x≠cw)) (h2:∀k,kK k->k<w.heap.size->cx k):Inv C S (O.setO J t') V own hv w0 σ0 A a w2:=by
 have cK:=σ0.sub _ _ _ _ hf.F;have cI:∀k o x,V.c k o=some x->w2.heap[k]?=w.heap[k]?:=λk o x e=>hs k (h.lt e) (hf.c k o x e);have CR:∀k x,V.m k=some x->w2.heap[k]?=w.heap[k]?:=λk x e=>hs k (h.ltm e) (hf.m k x e);have SR:∀k j,own k=some j->w2.heap[k]?=w.heap[k]?:=λk j e=>hs k (h.owns k j e).2.1 λhc=>hf.own k j e (cK k hc)
 refine⟨h.defers,⟨λk o v e=>by rw[World.cell?_of_block (cI k o v e)];exact h.ok.c k o v e,λk x e=>(h.ok.m k x e).keep (CR k x e),h.ok.fz cI⟩,h.le,h.old,h.newc,h.newm,h.below.trans (hb.mono (by omega)),h.bw,
  λk j e=>let⟨g1,g2,g3⟩:=h.owns k j e;⟨g1,ly g2 hb.size,g3⟩,λu=>aG.mono (S:=S) (O:=O) (O':=O.setO J t') (.refl V) (.refl S hv) (d:=O.r u) (λ_ _ _=>rfl) (λgs s e=>(h.opts u gs s e).2) (h.regs u),λj=>?_,h.opts,
  t',ot,kK,⟨hF,λk j e hk=>?_,λk o x e hc=>hf.c k o x e (h2 k hc (h.lt e)),λk x e hc=>hf.m k x e (h2 k hc (h.ltm e)),λk e RQ hk=>?_⟩,λj hj=>?_⟩
 .by_cases CN:j=J
  .subst CN;rw[LH];trivial
  .exact(h.objs j).mono (.refl V) (.refl S hv) rfl (by simp[Env.setO,bJ _ _ CN]) (λk e=>⟨e,SR k j e⟩)
 .obtain⟨_,g2,g3,g4⟩:=h.owns k j e;rcases h1 k hk g2 with e1|⟨o,x,e1⟩|⟨x,e1,_⟩
  .exact hf.own k j e e1
  .rw[g3 o] at e1;cases e1
  .rw[g4] at e1;cases e1
 .rcases h1 k hk (h.ltm e) with e1|⟨o,x,e1⟩|⟨x,e1,e2⟩
  .exact hf.d k e RQ e1
  .have c1:=h.ok.c k o x e1;rcases h.ok.m k _ e with⟨m1,_⟩|⟨_,m2⟩|⟨m3,_⟩
   .exact m1 rfl
   .simp[World.cell?,m2] at c1
   .exact xn m3.symm
  .rw[e] at e1;cases e1;exact e2 rfl
 .obtain⟨_,_,_,_,ht⟩:=h.frame;obtain⟨⟨ys',e1⟩,_⟩:=ht j hj;rw[hJ] at e1;cases e1;exact⟨⟨_,hJ⟩,aS _ _ _⟩
def anv {rd:Option Nat}(h:Good C w0 σ0 S O A a w)(hC:CtxOK C σ0)(hY:ur C Z w0 σ0){ops:Array Oper}{o:Oper}(ht:∀d,o.dst=some d->¬A d/\d<a.tmps.size)
 (hj:∀j want t,o.guard=some (j,want)->(ops[j]?).bind (·.dst)=some t->A t) {r:St×List PI} (hr:Lc C S ops o=some r) {O':Env} (aq:PI.runs Z r.2 O=some O')
 {K:Act->World->Prop} {Q:Exit->Act->World->Prop} (hK:∀a' w',Good C w0 σ0 r.1 O' (λu=>A u\/o.dst=some u) a' w'->SameBut (λt=>o.dst=some t) a a'->K a' w'):
 if Region.wanted o (yielded ops a.tmps) then o.wpIn (FR rd) 0 C.P a w K Q else K (a.put o.dst undef) w:=by
 unfold Lc at hr;split at hr
 case h_2=>cases hr
 rename_i _ _ dst t args ts J ys hd eG mj;simp only[az] at hr;obtain⟨gs,eF,hr⟩:=hr;split at hr
 case h_2=>cases hr
 rename_i GF;split at hr
 case h_2=>cases hr
 rename_i LH;simp only[az] at hr;obtain⟨u,hu,hr⟩:=hr;cases cK:Ty.subs u.1 ys<;>simp only[cK,zyy,zyx] at hr
 .cases hr
 cases hr;have CK:=adC h eF hj;rw[adD h eF];obtain⟨V,own,hv,i⟩:=h;obtain⟨σ1,dH,hle,i1⟩:=Inv.fzs (ej S gs args.toList) i;obtain⟨t1,t2⟩:=ht dst hd;have lI:(λu=>A u\/o.dst=some u)=(λu=>A u\/u=dst):=by funext u;rw[hd];simp[eq_comm]
 rw[lI] at hK;simp only[PI.runs,PI.run,sB,aBc,az] at aq;cases hh:holds gs O with
 |false=>
  simp only[hh,AT,if_false] at aq ⊢;have e1:O.setO J (O.o J)=O:=by
   cases O with|mk r o=>simp only[Env.setO];congr 1;funext x;rw[fq];split<;>simp_all
  rw[e1,hh] at aq;obtain⟨ρ1,e2,e3⟩:=aq;cases e2;cases e3;cases gs with
  |nil=>simp[holds] at hh
  |cons g bN=>
   have Gi:=i1.passed t1 t2 CK hh (s:=.dat .bool) (λ_ _ e=>by cases e) (O.r dst);have e4:O.setR dst (O.r dst)=O:=by
        cases O with|mk r o=>simp only[Env.setR];congr 1;funext x;rw[fq];split<;>simp_all
   rw[e4] at Gi;rw[hd];exact hK _ _ ⟨_,_,_,Gi⟩ (by rw[hd];exact SameBut.put a (some dst) undef a.defers)
 |true=>
  simp only[hh,if_true] at aq ⊢;have ju:=I0 i1 hC hh hu cK;obtain⟨tr,fx,cx,hf,uT⟩:=i1.frame;obtain⟨_,hρJ⟩:=uT J LH;obtain⟨hB,asy,TA⟩:=hY J ys mj;obtain⟨xs,rfl⟩:=asy _ _ _ _ hf.F;rw[hρJ] at aq;simp only[D.l_list,PE.ev] at aq;obtain⟨ρ1,e2,e3⟩:=aq;cases e3;have hh2:holds gs (O.setO J (.list (xs++[.tup (PE.evs O u.2)])))=true:=hh;rw[hh2] at e2;simp only[zyy,PE.evs,PE.ev,Env.setO,aS,aB] at e2;obtain⟨d,e4,e5⟩:=e2;have hy:=TA xs (PE.evs O u.2) d e4 fx cx w σ1 (args.toList.map a.eval) hf.F i1.ok ju hf.c hf.m i1.newc i1.newm;have cD:a.eval (.tmp t)=C.yv:=by
   have:=(sd i hh t).1;rw[GF] at this;have h9:a.tmps.getD t undef=C.yv:=this;simpa [Act.eval] using h9
  refine hy rd o a (.tmp t) args ts K Q eG cD rfl λv w2 ru=>?_;obtain⟨b,rfl,rfl,hb,hs,ot,kK,hF,h1,h2⟩:=ru;have i2:=i1.yielded hB mj LH hb hf hs hF h1 h2;refine hK _ _ ?_ (SameBut.put a _ _ a.defers);rw[hd,<-e5];change Good C w0 σ0 _ ((O.setO J (.list (xs++[.tup (PE.evs O u.2)]))).setR dst (.v (.bool b))) _ _ _;have hh3:holds gs ((O.setO J (.list (xs++[.tup (PE.evs O u.2)]))).setR dst (.v (.bool b)))=true:=by
   rw[Gf (t:=dst) λg hm e=>t1 (by rw[<-e];exact CK g hm)];exact hh2
  cases gs with
  |nil=>exact⟨_,_,_,i2.setReg t1 (s:=.dat .bool) (.bool b) t2 (λ_ _ e=>by cases e)⟩
  |cons g bN=>
   refine⟨_,_,_,i2.setReg t1 (s:=.opt (g::bN) (.dat .bool)) ⟨λ_=>.bool b,λe=>absurd (hh3.symm.trans e) (by decide)⟩ t2 (λgs s e=>?_)⟩;cases e;exact⟨CK,λ_ _ e=>by cases e⟩
def acx {rd:Option Nat}(h:Good C w0 σ0 S O A a w)(hC:CtxOK C σ0)(bh:dJ C)(hΦ:dj C Z)(hY:ur C Z w0 σ0){ops:Array Oper}{o:Oper}(bp:tF o.op=true)(ht:∀d,o.dst=some d->¬A d/\d<a.tmps.size)
 (hj:∀j want t,o.guard=some (j,want)->(ops[j]?).bind (·.dst)=some t->A t) {r:St×List PI} (hr:yK C S ops o=some r) {O':Env} (aq:PI.runs Z r.2 O=some O')
 {K:Act->World->Prop} {Q:Exit->Act->World->Prop} (hK:∀a' w',Good C w0 σ0 r.1 O' (λu=>A u\/o.dst=some u) a' w'->SameBut (λt=>o.dst=some t) a a'->K a' w'):
 if Region.wanted o (yielded ops a.tmps) then o.wpIn (FR rd) 0 C.P a w K Q else K (a.put o.dst undef) w:=by
 unfold yK at hr;split at hr
 .rename_i q hq;cases hr;exact anv h hC hY ht hj hq aq hK
 .have:=anu (K:=λa' w'=>SameBut (λt=>o.dst=some t) a a'->K a' w') (Q:=Q) h hC bh hΦ ht hj hr aq (λa' w' g _ hs=>hK a' w' g hs);split
  .rename_i hw;rw[if_pos hw] at this;exact aiv bp (Oper.wp_same this)
  .rename_i hw;rw[if_neg hw] at this;exact this (SameBut.put a _ _ a.defers)
end
def vO (C:Ctx)(ops:Array Oper):List Nat->St->Option (St×List PI)
 |[],S=>some (S,[])
 |i::l,S=>
  match ops[i]? with
  |some o=>(yK C S ops o).bind λr=>(vO C ops l r.1).map λq=>(q.1,r.2++q.2)
  |none=>none
def DX (n:Nat)(ops:Array Oper):Bool:=
 kA (ops.toList.filterMap (·.dst))&&ops.toList.all λo=>tF o.op&&match o.dst with|some d=>Nat.blt d n|none=>true
section
variable {C:Ctx} {S:St} {O:Env} {V:Im} {own:Nat->Option Nat} {hv:Nat->Value} {w0:World} {σ0:Base} {A:Nat->Prop} {a:Act} {w:World} {gs:List (Nat×Bool)} {Z:aO} {dst:Nat}
def AB (ops:Array Oper)(done:List Nat):Nat->Prop:=λt=>∃i o,i∈done/\ops[i]?=some o/\o.dst=some t
def Lb.dst_once {ops:Array Oper}(bp:(ops.toList.filterMap (·.dst)).Nodup){i j:Nat}{o o':Oper}{d:Nat}(hi:ops[i]?=some o)(hj:ops[j]?=some o')(hd:o.dst=some d)(gy:o'.dst=some d)(ay:i≠j):False:=by
 have key:∀(l:List Oper),(l.filterMap (·.dst)).Nodup->∀(i j:Nat) (o o':Oper),l[i]?=some o->l[j]?=some o'->o.dst=some d->o'.dst=some d->i=j:=by
  intro l
  induction l with
  |nil=>intro _ i j o o' hi;simp at hi
  |cons x l ih=>
   intro bp i j o o' hi hj hd gy;have cV:∀(k:Nat) (y:Oper),l[k]?=some y->y.dst=some d->d∈l.filterMap (·.dst):=λk y hk hy=>A3.2 ⟨y,j9 hk,hy⟩;cases hx:x.dst with
   |none=>
    rw[List.filterMap_cons_none hx] at bp;cases i with
    |zero=>simp at hi;subst hi;rw[hx] at hd;cases hd
    |succ i=>
     cases j with
     |zero=>simp at hj;subst hj;rw[hx] at gy;cases gy
     |succ j=>simp at hi hj;rw[ih bp i j o o' hi hj hd gy]
   |some y=>
    rw[List.filterMap_cons_some hx,qE] at bp;cases i with
    |zero=>
     simp at hi;subst hi;rw[hx] at hd;cases hd;cases j with
     |zero=>rfl
     |succ j=>simp at hj;exact absurd (cV j o' hj gy) bp.1
    |succ i=>
     cases j with
     |zero=>
      simp at hj;subst hj;rw[hx] at gy;cases gy;simp at hi;exact absurd (cV i o hi hd) bp.1
     |succ j=>simp at hi hj;rw[ih bp.2 i j o o' hi hj hd gy]
 exact ay (key ops.toList bp i j o o' (by simpa using hi) (by simpa using hj) hd gy)
def Ci (ops:Array Oper):Nat->Prop:=λt=>∃o,o∈ops.toList/\o.dst=some t
def Lb (hC:CtxOK C σ0)(bh:dJ C)(hΦ:dj C Z)(hY:ur C Z w0 σ0){ops:Array Oper}{n:Nat}(ax:DX n ops=true){rd:Option Nat}{Q:Exit->Act->World->Prop}:
 ∀(l done:List Nat) {S:St} {O O':Env} {a:Act} {w:World} {r:St×List PI},(done++l).Nodup->(∀p i q o j want,l=p++i::q->ops[i]?=some o->o.guard=some (j,want)->j∈done++p)->
  a.tmps.size=n->Good C w0 σ0 S O (AB ops done) a w->vO C ops l S=some r->PI.runs Z r.2 O=some O'->
  (∀a' w',SameBut (Ci ops) a a'->Good C w0 σ0 r.1 O' (AB ops (done++l)) a' w'->Q .normal a' w')->wpOpsIn (FR rd) 0 C.P ops Q l a w:=by
 simp only[DX,au] at ax;have bp:=rH ax.1;intro l
 induction l with
 |nil=>
  intro done S O O' a w r _ _ aJ h hr aq hQ;simp only[vO,bj] at hr;subst hr;rw[vq aq] at hQ;simp only[wpOpsIn];exact hQ a w (.refl _ _) (by simpa using h)
 |cons i l ih=>
  intro done S O O' a w r R9 oC aJ h hr aq hQ;simp only[vO] at hr;split at hr
  case h_2=>cases hr
  rename_i o ho;simp only[az,aB] at hr;obtain⟨r1,kS,q,hq,rfl⟩:=hr;simp only[tY,az] at aq;obtain⟨ρ1,hρ1,hρ2⟩:=aq;have Sa:∀d,o.dst=some d->¬AB ops done d/\d<a.tmps.size:=by
   intro d hd;refine⟨λ⟨i',o',dB,jc,gy⟩=>?_,?_⟩
   ·
        have ay:i'≠i:=by
         intro e;subst e;rw[Jg] at R9;exact R9.2.2 i' dB i' (fQ ..) rfl
        exact Lb.dst_once bp jc ho gy hd ay
   .have:=cM.1 ax.2 o (by
     have:=qy ho;simpa using this)
    simp only[hd,au] at this;rw[aJ];simpa [qF] using this.2
  have hj:∀j want t,o.guard=some (j,want)->(ops[j]?).bind (·.dst)=some t->AB ops done t:=by
   intro j want t hg ht;have:=oC [] i l o j want rfl ho hg;simp only[vD] at this;rw[az] at ht;obtain⟨oj,h1,h2⟩:=ht;exact⟨j,oj,this,h1,h2⟩
  have nf:tF o.op=true:=by
   have:=cM.1 ax.2 o (by simpa using qy ho);simp only[au] at this;exact this.1
  have main:=acx (rd:=rd) (K:=wpOpsIn (FR rd) 0 C.P ops Q l) (Q:=Q) h hC bh hΦ hY nf Sa hj kS hρ1 (λa' w' lL iK=>by
   have wC:=iK.size;refine ih (done++[i]) (by simpa using R9) (λp i' q' o' j want e jc ar1=>?_) (wC.trans aJ) ?_ hq hρ2 (λa2 w2 s2 g2=>hQ a2 w2 ((iK.mono λt e=>⟨o,by simpa using qy ho,e⟩).trans s2) (by simpa using g2))
   .have:=oC (i::p) i' q' o' j want (by rw[e];rfl) jc ar1;simpa using this
   .have:(λu=>AB ops done u\/o.dst=some u)=AB ops (done++[i]):=by
     funext u;apply propext;constructor
     .rintro(⟨i',o',h1,h2,h3⟩|h1)
      .exact⟨i',o',by simp[h1],h2,h3⟩
      .exact⟨i,o,by simp,ho,h1⟩
     .rintro⟨i',o',h1,h2,h3⟩;rcases dZ.1 h1 with h4|h4
      .exact .inl ⟨i',o',h4,h2,h3⟩
      .simp at h4;subst h4;rw[ho] at h2;cases h2;exact .inr h3
    rw[<-this];exact lL)
  simp only[wpOpsIn,ho];split
  .rename_i hw;rw[if_pos hw] at main;exact main
  .rename_i hw;rw[if_neg hw] at main;exact⟨λ_ _=>trivial,main⟩
end
def abF (S:St):AgC->Bool
 |.dat _=>true
 |.obj j ver=>Nat.beq ver (S.ver j)
def AgC.zero:AgC->AgC
 |.dat t=>.dat t
 |.obj j _=>.obj j 0
def iN (S:St):Sh->Sh
 |.none=>.none
 |.dat t=>.dat t
 |.obj j ver=>bif Nat.beq ver (S.ver j) then .obj j 0 else .none
 |.ptr j ver off=>bif Nat.beq ver (S.ver j) then .ptr j 0 off else .none
 |.eptr j ver size off=>bif Nat.beq ver (S.ver j) then .eptr j 0 size off else .none
 |.opt _ _=>.none
 |.yv=>.yv
 |.fclo f caps=>bif caps.all (λc=>Nat.beq c.2 (S.ver c.1)) then .fclo f (caps.map λc=>(c.1,0)) else .none
 |.agg l=>bif l.all (abF S) then .agg (l.map AgC.zero) else .none
def jU (S:St):Ob->Ob
 |.box ag shs=>.box ag (shs.map (iN S))
 |ob=>ob
def St.norm (S:St):St:=⟨λt=>iN S (S.r t),λj=>jU S (S.o j),λ_=>0⟩
def jT:Sh->Sh->Sh
 |.dat a,.dat b=>bif Ty.sub a b then .dat b else bif Ty.sub b a then .dat a else .none
 |.obj j v,.obj k u=>bif Nat.beq j k&&Nat.beq v u then .obj j v else .none
 |.ptr j v o,.ptr k u p=>bif Nat.beq j k&&Nat.beq v u&&Nat.beq o p then .ptr j v o else .none
 |.eptr j v s o,.eptr k u t p=>bif Nat.beq j k&&Nat.beq v u&&Nat.beq s t&&Nat.beq o p then .eptr j v s o else .none
 |.yv,.yv=>.yv
 |.fclo f a,.fclo g b=>bif Nat.beq f g&&yn a b then .fclo f a else .none
 |_,_=>.none
def zR:List Sh->List Sh->Option (List Sh)
 |[],[]=>some []
 |a::aa,b::bs=>(zR aa bs).map (jT a b::·)
 |_,_=>none
def oS:Ob->Ob->Ob
 |.fz a,.fz b=>bif Ty.beq a b then .fz a else .dead
 |.fbox a,.fbox b=>bif Ty.beq a b then .fbox a else .dead
 |.box ag aa,.box bg bs=>bif ag==bg then(match zR aa bs with|some cs=>.box ag cs|none=>.dead) else .dead
 |.row T e,.row U f=>bif Nat.beq T U&&Ty.beq e f then .row T e else .dead
 |.mp k e,.mp l f=>bif Ty.beq k l&&Ty.beq e f then .mp k e else .dead
 |.it k e,.it l f=>bif Ty.beq k l&&Ty.beq e f then .it k e else .dead
 |.tr,.tr=>.tr
 |_,_=>.dead
section
variable {C:Ctx} {S:St} {O:Env} {V:Im} {own:Nat->Option Nat} {hv:Nat->Value} {w0:World} {σ0:Base} {A:Nat->Prop} {a:Act} {w:World} {gs:List (Nat×Bool)} {Z:aO} {dst:Nat}
def MV {s:Sh}{v:Value}{d:D}(h:aG C S O V hv s v d):aG C S.norm O V hv (iN S s) v d/\∀gs s',iN S s≠.opt gs s':=by
 cases s with
 |none=>exact⟨trivial,λ_ _ e=>by cases e⟩
 |dat t=>exact⟨h,λ_ _ e=>by cases e⟩
 |obj j ver=>
  simp only[iN];cases hb:Nat.beq ver (S.ver j)
  .exact⟨trivial,λ_ _ e=>by cases e⟩
  .exact⟨⟨aZ _,λ_=>h.2 (aD hb)⟩,λ_ _ e=>by cases e⟩
 |ptr j ver off=>
  simp only[iN];cases hb:Nat.beq ver (S.ver j)
  .exact⟨trivial,λ_ _ e=>by cases e⟩
  .exact⟨⟨aZ _,λ_=>h.2 (aD hb)⟩,λ_ _ e=>by cases e⟩
 |eptr j ver size off=>
  simp only[iN];cases hb:Nat.beq ver (S.ver j)
  .exact⟨trivial,λ_ _ e=>by cases e⟩
  .exact⟨⟨aZ _,λ_=>h.2 (aD hb)⟩,λ_ _ e=>by cases e⟩
 |opt gs s=>exact⟨trivial,λ_ _ e=>by cases e⟩
 |yv=>exact⟨h,λ_ _ e=>by cases e⟩
 |agg l=>
  simp only[iN];cases hb:l.all (abF S)
  .exact⟨trivial,λ_ _ e=>by cases e⟩
  .refine⟨?_,λ_ _ e=>by cases e⟩;obtain⟨vs,ds,h1,h2,h3,h4,h5⟩:=h;refine⟨vs,ds,h1,h2,by simpa using h3,by simpa using h4,λi c hi=>?_⟩;simp only[cq,aB] at hi;obtain⟨c0,hc,rfl⟩:=hi;have:=cM.1 hb _ (j9 hc);have h6:=h5 i c0 hc;cases c0 with
   |dat t=>exact h6
   |obj j ver=>exact⟨aZ _,λ_=>h6.2 (aD this)⟩
 |fclo f caps=>
  simp only[iN];cases hb:caps.all (λc=>Nat.beq c.2 (S.ver c.1))
  .exact⟨trivial,λ_ _ e=>by cases e⟩
  .refine⟨?_,λ_ _ e=>by cases e⟩;obtain⟨vs,h1,h2,h3⟩:=h;refine⟨vs,h1,by simpa using h2,λi j ver hi=>?_⟩;simp only[cq,aB] at hi;obtain⟨⟨j',v'⟩,hc,e⟩:=hi;cases e;have:=cM.1 hb _ (j9 hc);exact⟨aZ _,λ_=>(h3 i _ _ hc).2 (aD this)⟩
def Inv.weaken (h:Inv C S O V own hv w0 σ0 A a w){S':St}{O':Env}(hr:∀t,aG C S' O' V hv (S'.r t) (a.tmps.getD t undef) (O'.r t))(ho:∀j,cf C S' O' V own hv w w0.heap.size j (S'.o j))
 (hn:∀t gs s,S'.r t≠.opt gs s) (ht:∀j,S'.o j=.tr->S.o j=.tr/\O'.o j=O.o j):Inv C S' O' V own hv w0 σ0 (λ_=>False) a w:=
 ⟨h.defers,h.ok,h.le,h.old,h.newc,h.newm,h.below,h.bw,h.owns,hr,ho,λt gs s e=>absurd e (hn t gs s),by
   obtain⟨t,fx,cx,h1,h5⟩:=h.frame;exact⟨t,fx,cx,h1,λj hj=>by rw[(ht j hj).2];exact h5 j (ht j hj).1⟩⟩
def agE {ob:Ob}(h:jU S ob=.tr):ob=.tr:=by
 cases ob<;>simp only[jU] at h<;>first|rfl|cases h
def axj {x y:Ob}(h:oS x y=.tr):x=.tr/\y=.tr:=by
 cases x<;>cases y<;>simp only[oS] at h<;>first
  |exact⟨rfl,rfl⟩
  |(cases h;done)
  |skip
 .rename_i a b;cases hb:Ty.beq a b<;>rw[hb] at h<;>cases h
 .rename_i a b;cases hb:Ty.beq a b<;>rw[hb] at h<;>cases h
 .rename_i ag aa bg bs;cases hb:ag==bg<;>rw[hb] at h
  .cases h
  .simp only[zyy] at h;split at h<;>cases h
 .rename_i T e U f;cases hb:(Nat.beq T U&&Ty.beq e f)<;>rw[hb] at h<;>cases h
 .rename_i T e U f;cases hb:(Ty.beq T U&&Ty.beq e f)<;>rw[hb] at h<;>cases h
 .rename_i T e U f;cases hb:(Ty.beq T U&&Ty.beq e f)<;>rw[hb] at h<;>cases h
def Inv.norm (h:Inv C S O V own hv w0 σ0 A a w):Inv C S.norm O V own hv w0 σ0 (λ_=>False) a w:=by
 refine h.weaken (λt=>(MV (h.regs t)).1) (λj=>?_) (λt=>(MV (h.regs t)).2) (λj hj=>⟨agE hj,rfl⟩);have bt:=h.objs j;show cf C S.norm O V own hv w w0.heap.size j (jU S (S.o j));cases cQ:S.o j with
 |box ag shs=>
  rw[cQ] at bt;obtain⟨k,cs,T,ds,h1,h2,h3,h4,h5,h6,h7⟩:=bt;refine⟨k,cs,T,ds,h1,h2,h3,by simpa using h4,h5,by simpa using h6,λi s hi=>?_⟩;simp only[cq,aB] at hi;obtain⟨s0,hs0,rfl⟩:=hi;have:=MV (h7 i s0 hs0).2;exact⟨this.2,this.1⟩
 |_=>rw[cQ] at bt;exact bt
def JE {b:Bool}{s:Sh}{v:Value}{d:D}(hs:∀gs s',s≠.opt gs s')(h:b=true->aG C S O V hv s v d):aG C S O V hv (bif b then s else .none) v d/\∀gs s',(bif b then s else Sh.none)≠.opt gs s':=by
 cases b with
 |true=>exact⟨h rfl,hs⟩
 |false=>exact⟨trivial,λ_ _ e=>by cases e⟩
def agt {s u:Sh}{v:Value}{d:D}(h:aG C S O V hv s v d):aG C S O V hv (jT s u) v d/\∀gs s',jT s u≠.opt gs s':=by
 cases s<;>cases u<;>simp only[jT]<;>first
  |exact⟨trivial,λ_ _ e=>by cases e⟩
  |exact JE (λ_ _ e=>by cases e) (λ_=>h)
  |exact⟨h,λ_ _ e=>by cases e⟩
  |skip
 rename_i a b;cases h1:Ty.sub a b
 .exact JE (λ_ _ e=>by cases e) (λ_=>h)
 .exact⟨Rep.sub h h1,λ_ _ e=>by cases e⟩
def agu {s u:Sh}{v:Value}{d:D}(h:aG C S O V hv u v d):aG C S O V hv (jT s u) v d/\∀gs s',jT s u≠.opt gs s':=by
 cases s<;>cases u<;>simp only[jT]<;>first
  |exact⟨trivial,λ_ _ e=>by cases e⟩
  |exact⟨h,λ_ _ e=>by cases e⟩
  |skip
 .rename_i a b;cases h1:Ty.sub a b
  .exact JE (λ_ _ e=>by cases e) (λh2=>Rep.sub h h2)
  .exact⟨h,λ_ _ e=>by cases e⟩
 all_goals
  refine JE (λ_ _ e=>by cases e) (λhb=>?_);simp only[au] at hb
  first
   |(obtain⟨⟨⟨h1,h2⟩,h3⟩,h4⟩:=hb;rw[aD h1,aD h2,aD h3,aD h4];exact h)
   |(obtain⟨⟨h1,h2⟩,h3⟩:=hb;rw[aD h1,aD h2,aD h3];exact h)
   |(obtain⟨h1,h2⟩:=hb;rw[aD h1,aD h2];exact h)
   |(obtain⟨h1,h2⟩:=hb;rw[aD h1,QS _ _ h2];exact h)
def Ur:∀(aa bs cs:List Sh),zR aa bs=some cs->cs.length=aa.length/\cs.length=bs.length/\∀(i:Nat) (c:Sh),cs[i]?=some c->∃x y,aa[i]?=some x/\bs[i]?=some y/\c=jT x y
 |[],[],cs,h=>by simp[zR] at h;subst h;simp
 |[],b::bs,cs,h=>by simp[zR] at h
 |a::aa,[],cs,h=>by simp[zR] at h
 |a::aa,b::bs,cs,h=>by
  simp only[zR,aB] at h;obtain⟨ds,hd,rfl⟩:=h;obtain⟨h1,h2,h3⟩:=Ur aa bs ds hd;refine⟨by simp[h1],by simp[h2],λi c hi=>?_⟩;cases i with
  |zero=>simp at hi;exact⟨a,b,rfl,rfl,hi.symm⟩
  |succ i=>simp at hi;simpa using h3 i c hi
def axh {j B:Nat}{x y:Ob}(h:cf C S O V own hv w B j x):cf C S O V own hv w B j (oS x y):=by
 cases x<;>cases y<;>simp only[oS]<;>first
  |trivial
  |(rename_i a b;cases Ty.beq a b;·trivial
    .exact h)
  |skip
 .rename_i ag aa bg bs;cases ag==bg
  .trivial
  .simp only[zyy];split
   .rename_i cs cI;obtain⟨l1,l2,rl⟩:=Ur aa bs cs cI;obtain⟨k,cells,T,ds,h1,h2,h3,h4,h5,h6,h7⟩:=h;refine⟨k,cells,T,ds,h1,h2,h3,by omega,h5,by omega,λi s hi=>?_⟩;obtain⟨x,y,hx,hy,rfl⟩:=rl i s hi;have:=agt (u:=y) (h7 i x hx).2;exact⟨this.2,this.1⟩
   .trivial
 .rename_i T e U f;cases Nat.beq T U&&Ty.beq e f
  .trivial
  .exact h
 .rename_i T e U f;cases Ty.beq T U&&Ty.beq e f
  .trivial
  .exact h
 .rename_i T e U f;cases Ty.beq T U&&Ty.beq e f
  .trivial
  .exact h
def axi {j B:Nat}{x y:Ob}(h:cf C S O V own hv w B j y):cf C S O V own hv w B j (oS x y):=by
 cases x<;>cases y<;>simp only[oS]<;>first
  |trivial
  |skip
 .rename_i a b;cases hb:Ty.beq a b
  .trivial
  .rw[Ty.beq_eq _ _ hb];exact h
 .rename_i a b;cases hb:Ty.beq a b
  .trivial
  .rw[Ty.beq_eq _ _ hb];exact h
 .rename_i ag aa bg bs;cases ag==bg
  .trivial
  .simp only[zyy];split
   .rename_i cs cI;obtain⟨l1,l2,rl⟩:=Ur aa bs cs cI;obtain⟨k,cells,T,ds,h1,h2,h3,h4,h5,h6,h7⟩:=h;refine⟨k,cells,T,ds,h1,h2,h3,by omega,h5,by omega,λi s hi=>?_⟩;obtain⟨x,y,hx,hy,rfl⟩:=rl i s hi;have:=agu (s:=x) (h7 i y hy).2;exact⟨this.2,this.1⟩
   .trivial
 .rename_i T e U f;cases hb:(Nat.beq T U&&Ty.beq e f)
  .trivial
  .simp only[au] at hb;rw[aD hb.1,Ty.beq_eq _ _ hb.2];exact h
 .rename_i T e U f;cases hb:(Ty.beq T U&&Ty.beq e f)
  .trivial
  .simp only[au] at hb;rw[Ty.beq_eq _ _ hb.1,Ty.beq_eq _ _ hb.2];exact h
 .rename_i T e U f;cases hb:(Ty.beq T U&&Ty.beq e f)
  .trivial
  .simp only[au] at hb;rw[Ty.beq_eq _ _ hb.1,Ty.beq_eq _ _ hb.2];exact h
end
section
variable {C:Ctx} {S T:St} {O O':Env} {V:Im} {own:Nat->Option Nat} {hv:Nat->Value} {w0:World} {σ0:Base} {A:Nat->Prop} {a:Act} {w:World} {gs:List (Nat×Bool)} {Z:aO} {dst:Nat}
def Inv.env (h:Inv C S O V own hv w0 σ0 (λ_=>False) a w)(hn:∀t gs s,S.r t≠.opt gs s)(hr:∀t,isNone (S.r t)=false->O'.r t=O.r t)(ho:∀j,pZ (S.o j)=false->O'.o j=O.o j):
 Inv C S O' V own hv w0 σ0 (λ_=>False) a w:=by
 refine h.weaken (λt=>?_) (λj=>?_) hn (λj hj=>⟨hj,ho j (by rw[hj];rfl)⟩)
 .cases hs:isNone (S.r t) with
  |true=>cases hc:S.r t<;>rw[hc] at hs<;>simp[isNone] at hs;trivial
  |false=>
   rw[hr t hs];exact aG.mono' (.refl V) (.refl S hv) (hn t) (h.regs t)
 .cases hs:pZ (S.o j) with
  |true=>cases hc:S.o j<;>rw[hc] at hs<;>simp[pZ] at hs;trivial
  |false=>exact(h.objs j).mono (.refl V) (.refl S hv) rfl (ho j hs) (λk hk=>⟨hk,rfl⟩)
end
structure Snap where
 rs:List Sh
 os:List Ob
 deriving Inhabited
def dq:List Nat->List Ob->Nat->Ob
 |i::is,o::os,j=>bif Nat.beq i j then o else dq is os j
 |_,_,_=>.dead
def cG:Sh->Sh
 |.opt _ _=>.none
 |s=>s
def Snap.st (ids:List Nat)(s:Snap):St:=⟨λt=>cG (s.rs.getD t .none),λj=>dq ids s.os j,λ_=>0⟩
def St.snap (n:Nat)(ids:List Nat)(S:St):Snap:=⟨(List.range n).map λt=>iN S (S.r t),ids.map λj=>jU S (S.o j)⟩
def Snap.beq (a b:Snap):Bool:=AF a.rs b.rs&&Dh a.os b.os
def Snap.beq_eq (a b:Snap)(h:a.beq b=true):a=b:=by
 cases a;cases b;simp only[Snap.beq,au] at h;rw[XI _ _ h.1,agL _ _ h.2]
def Snap.meet (a b:Snap):Snap:=⟨List.zipWith jT a.rs b.rs,List.zipWith oS a.os b.os⟩
def aD1 (s:Sh):∀gs s',cG s≠.opt gs s':=by
 intro gs s' e;cases s<;>simp[cG] at e
def Snap.noOpt (ids:List Nat)(s:Snap):∀t gs s',(s.st ids).r t≠.opt gs s':=λt=>aD1 _
section
variable {C:Ctx} {S:St} {O:Env} {V:Im} {own:Nat->Option Nat} {hv:Nat->Value} {w0:World} {σ0:Base} {A:Nat->Prop} {a:Act} {w:World} {n:Nat} {ids:List Nat}
def zM (f:Nat->Ob)(P:Ob->Prop)(hd:P .dead)(j:Nat)(hf:P (f j)):∀ids:List Nat,P (dq ids (ids.map f) j)
 |[]=>hd
 |i::is=>by
  simp only[iy,dq];cases hb:Nat.beq i j
  .exact zM f P hd j hf is
  .rw[aD hb];exact hf
def Pl {s:Sh}{v:Value}{d:D}(h:aG C S O V hv s v d):aG C S O V hv (cG s) v d:=by
 cases s<;>first|exact h|trivial
def Inv.snap (h:Inv C S O V own hv w0 σ0 A a w)(n:Nat)(ids:List Nat):Inv C ((S.snap n ids).st ids) O V own hv w0 σ0 (λ_=>False) a w:=by
 have h1:=h.norm;have hc:Compat S.norm hv ((S.snap n ids).st ids) hv:=⟨λ_=>aZ _,λ_ _=>rfl⟩
 refine h1.weaken (λt=>?_) (λj=>?_) (Snap.noOpt _ _) (λj hj=>⟨zM (λj=>jU S (S.o j)) (λob=>ob=.tr->jU S (S.o j)=.tr) (λe=>by cases e) j id ids hj,rfl⟩)
 .refine aG.mono' (O:=O) (.refl V) hc (Snap.noOpt _ _ t) ?_;show aG C S.norm O V hv (cG (((List.range n).map λt=>iN S (S.r t)).getD t .none)) _ _;refine Pl ?_;rw[aH,cq];by_cases ht:t<n
  .rw[sy ht];exact h1.regs t
  .rw[j7 (by simpa using ht)];trivial
 .have ho:=(h1.objs j).mono (.refl V) hc (w:=w) (w':=w) rfl rfl (λk hk=>⟨hk,rfl⟩);exact zM (λj=>jU S (S.o j)) (λob=>cf C _ O V own hv w w0.heap.size j ob) trivial j ho ids
def Po {f:Sh->Sh->Sh}:∀(x y:List Sh) (t:Nat),(List.zipWith f x y).getD t .none=.none\/∃s u,x.getD t .none=s/\y.getD t .none=u/\(List.zipWith f x y).getD t .none=f s u
 |[],_,t=>.inl (by simp)
 |_::_,[],t=>.inl (by simp)
 |a::aa,b::bs,0=>.inr ⟨a,b,rfl,rfl,rfl⟩
 |a::aa,b::bs,t+1=>by simpa using Po (f:=f) aa bs t
def MH {f:Ob->Ob->Ob}:∀(ids:List Nat) (x y:List Ob) (j:Nat),dq ids (List.zipWith f x y) j=.dead\/dq ids (List.zipWith f x y) j=f (dq ids x j) (dq ids y j)
 |[],_,_,_=>.inl rfl
 |_::_,[],_,_=>.inl rfl
 |_::_,_::_,[],_=>.inl rfl
 |i::is,a::aa,b::bs,j=>by
  simp only[List.zipWith_cons_cons,dq];cases Nat.beq i j
  .exact MH is aa bs j
  .exact .inr rfl
def aDZ {s u:Sh}{v:Value}{d:D}(h:aG C S O V hv (cG s) v d):aG C S O V hv (cG (jT s u)) v d:=by
 cases hs:s with
 |opt gs s'=>cases u<;>simp[jT,cG,aG]
 |_=>rw[hs] at h;exact Pl (agt h).1
def aD0 {s u:Sh}{v:Value}{d:D}(h:aG C S O V hv (cG u) v d):aG C S O V hv (cG (jT s u)) v d:=by
 cases hs:u with
 |opt gs s'=>cases s<;>simp[jT,cG,aG]
 |_=>rw[hs] at h;exact Pl (agu h).1
def agv {x y:Snap}{j:Nat}(h:((x.meet y).st ids).o j=.tr):(x.st ids).o j=.tr/\(y.st ids).o j=.tr:=by
 change dq ids (List.zipWith oS x.os y.os) j=.tr at h;rcases MH (f:=oS) ids x.os y.os j with h0|h0
 .rw[h0] at h;cases h
 .rw[h0] at h;exact axj h
def Snap.meet_ok1 {x y:Snap}(h:Inv C (x.st ids) O V own hv w0 σ0 A a w):Inv C ((x.meet y).st ids) O V own hv w0 σ0 (λ_=>False) a w:=by
 have hc:Compat (x.st ids) hv ((x.meet y).st ids) hv:=⟨λ_=>aZ _,λ_ _=>rfl⟩
 refine h.weaken (λt=>?_) (λj=>?_) (Snap.noOpt _ _) (λj hj=>⟨(agv hj).1,rfl⟩)
 .refine aG.mono' (O:=O) (.refl V) hc (Snap.noOpt _ _ t) ?_;show aG C (x.st ids) O V hv (cG ((List.zipWith jT x.rs y.rs).getD t .none)) _ _;rcases Po (f:=jT) x.rs y.rs t with h0|⟨s,u,h1,h2,h3⟩
  .rw[h0];trivial
  .rw[h3];exact aDZ (by rw[<-h1];exact h.regs t)
 .refine cf.mono (S:=x.st ids) (O:=O) (own:=own) (hv:=hv) (.refl V) hc (w:=w) rfl rfl (λk hk=>⟨hk,rfl⟩) ?_;show cf C _ O V own hv w w0.heap.size j (dq ids (List.zipWith oS x.os y.os) j);rcases MH (f:=oS) ids x.os y.os j with h0|h0
  .rw[h0];trivial
  .rw[h0];exact axh (h.objs j)
def Snap.meet_ok2 {x y:Snap}(h:Inv C (y.st ids) O V own hv w0 σ0 A a w):Inv C ((x.meet y).st ids) O V own hv w0 σ0 (λ_=>False) a w:=by
 have hc:Compat (y.st ids) hv ((x.meet y).st ids) hv:=⟨λ_=>aZ _,λ_ _=>rfl⟩
 refine h.weaken (λt=>?_) (λj=>?_) (Snap.noOpt _ _) (λj hj=>⟨(agv hj).2,rfl⟩)
 .refine aG.mono' (O:=O) (.refl V) hc (Snap.noOpt _ _ t) ?_;show aG C (y.st ids) O V hv (cG ((List.zipWith jT x.rs y.rs).getD t .none)) _ _;rcases Po (f:=jT) x.rs y.rs t with h0|⟨s,u,h1,h2,h3⟩
  .rw[h0];trivial
  .rw[h3];exact aD0 (by rw[<-h2];exact h.regs t)
 .refine cf.mono (S:=y.st ids) (O:=O) (own:=own) (hv:=hv) (.refl V) hc (w:=w) rfl rfl (λk hk=>⟨hk,rfl⟩) ?_;show cf C _ O V own hv w w0.heap.size j (dq ids (List.zipWith oS x.os y.os) j);rcases MH (f:=oS) ids x.os y.os j with h0|h0
  .rw[h0];trivial
  .rw[h0];exact axi (h.objs j)
end
def wS (C:Ctx)(S:St)(T:TypeId)(x:Operand):List Nat:=
 match gN S [] x,ry C.P T,C.P.info? T with
 |.ptr j _ off,some true,some inf=>(match S.o j with|.box _ shs=>EZ ((shs.drop off).take inf.size)|_=>[])
 |_,_,_=>[]
def DY (C:Ctx)(S:St):ResultVar->Option (St×Ty×PE)
 |.tmp t=>(use C (S.fzs (ej S [] [.tmp t])) [] (.tmp t)).map λx=>(S.fzs (ej S [] [.tmp t]),x.1,x.2)
 |.cell b T=>
  match G5 C (S.fzs (wS C S T (.tmp b))) [] 0 T (.tmp b) with
  |some (.dat ty,[.setR 0 e])=>some (S.fzs (wS C S T (.tmp b)),ty,e)
  |some (.obj j ver,[.setR _ _])=>
   bif Nat.beq ver (((S.fzs (wS C S T (.tmp b))).fz j).ver j) then
    match((S.fzs (wS C S T (.tmp b))).fz j).o j with
    |.fz ty=>some ((S.fzs (wS C S T (.tmp b))).fz j,ty,.o j)
    |_=>none
   else none
  |_=>none
def vp (C:Ctx):List ResultVar->St->Option (St×List Ty×List PE)
 |[],S=>some (S,[],[])
 |x::xs,S=>(DY C S x).bind λr=>(vp C xs r.1).map λq=>(q.1,r.2.1::q.2.1,r.2.2::q.2.2)
def ajT (C:Ctx)(fn:Func)(S:St)(res:Ty):Option PE:=
 (vp C fn.results.toList S).bind λr=>
    match r.2.1,r.2.2 with
    |[ty],[e]=>bif Ty.sub ty res then some e else none
    |fP,es=>bif Ty.sub (.tup fP) res then some (.tup es) else none
def ajV (C:Ctx)(fn:Func)(S:St)(T:TypeId)(e:Ty):Option PE:=
 match fn.results.toList with
 |[.tmp t]=>
  match sc S [] t with
  |.obj j ver=>bif Nat.beq ver (S.ver j) then(match S.o j with|.row U f=>bif Nat.beq U T&&Ty.beq f e then some (.o j) else none|_=>none) else none
  |_=>none
 |[.cell b U]=>
  match G5 C S [] 0 U (.tmp b) with
  |some (.obj j ver,[.setR _ _])=>bif Nat.beq ver (S.ver j) then(match S.o j with|.row U f=>bif Nat.beq U T&&Ty.beq f e then some (.o j) else none|_=>none) else none
  |_=>none
 |_=>none
def MA (S:St):Nat->List Sh->Bool
 |_,[]=>true
 |t,s::l=>vd s&&((pY s||isNone s||Sh.beq (S.r t) s)&&MA S (t+1) l)
def TK (S:St)(shs:List Sh)(obs:List (Nat×Ob)):Bool:=MA S 0 shs&&obs.all λx=>Ob.beq (S.o x.1) x.2
def Xw (fP:List Ty)(es:List PE)(res:Ty):Option PE:=
 match fP,es with
 |[ty],[e]=>bif Ty.sub ty res then some e else none
 |fP,es=>bif Ty.sub (.tup fP) res then some (.tup es) else none
def ajU (C:Ctx)(fn:Func)(S:St)(res:Ty)(shs:List Sh)(obs:List (Nat×Ob)):Option PE:=
 (vp C fn.results.toList S).bind λr=>bif TK r.1 shs obs then(Xw r.2.1 r.2.2 res).map λe=>.tup (e::obs.map λx=>.o x.1) else none
def az4 (C:Ctx)(fn:Func)(S:St)(l:List RC):Option PE:=none
def AA (C:Ctx)(fn:Func)(s:Sig)(S:St):Option PE:=
 match s.mode with
 |.ob shs obs=>ajU C fn S s.res shs obs
 |.dat=>ajT C fn S s.res
 |.rows l=>az4 C fn S l
 |.it J=>match fn.results.toList,S.o J with|[],.tr=>some (.o J)|_,_=>none
 |.row T e=>ajV C fn S T e
def OF (P:Program)(tmps:Array Value)(w:World):ResultVar->Value->Prop
 |.tmp t,v=>v=tmps.getD t undef
 |.cell a T,v=>∃k,tmps.getD a undef=.pointer (some k)/\(loadVar T k).run P w=.ok v w
def OG (P:Program)(tmps:Array Value)(w:World):List ResultVar->List Value->Prop
 |[],[]=>True
 |x::xs,v::vs=>OF P tmps w x v/\OG P tmps w xs vs
 |_,_=>False
def wY:List Value->Value
 |[v]=>v
 |vs=>.tuple vs.toArray
section
variable {C:Ctx} {S:St} {O:Env} {V:Im} {own:Nat->Option Nat} {hv:Nat->Value} {w0:World} {σ0:Base} {A:Nat->Prop} {a:Act} {w:World} {gs:List (Nat×Bool)} {Z:aO} {dst:Nat}
def agd {P:Program}{tmps:Array Value}{w:World}(f:ResultVar->Sem Value)(hf1:∀t,f (.tmp t)=pure (tmps.getD t undef))(hf2:∀b T,f (.cell b T)=(do loadVar T (<-asAddr (tmps.getD b undef)))):
 ∀(l:List ResultVar) (vs:List Value),OG P tmps w l vs->(l.mapM f).run P w=.ok vs w
 |[],[],_=>by simp[Sem.run_pure]
 |x::l,v::vs,h=>by
  obtain⟨hx,GD⟩:=h;have ih:=agd f hf1 hf2 l vs GD;rw[abg];have h1:(f x).run P w=.ok v w:=by
   cases x with
   |tmp t=>rw[hf1];simp only[OF] at hx;subst hx;simp[Sem.run_pure]
   |cell b T=>
    obtain⟨k,h1,h2⟩:=hx;rw[hf2,h1];simp[asAddr,h2]
  simp[Sem.run_bind,h1,ih,Sem.run_pure,Result.andThen_ok]
def IG {P:Program}{fn:Func}{tmps:Array Value}{w:World}{vs:List Value}(h:OG P tmps w fn.results.toList vs):
 (results fn tmps).run P w=.ok (wY vs) w:=by
 unfold results;rw[Array.mapM_eq_mapM_toList];simp only[Sem.run_bind];simp only[bind_map_left,map_eq_pure_bind,Sem.run_bind,bind_assoc,pure_bind];rw[agd (tmps:=tmps) _ (λt=>rfl) (λb T=>rfl) _ _ h];simp only[Result.andThen_ok,Sem.run_pure];rcases vs with _|⟨v,_|⟨u,vs⟩⟩<;>simp[Sem.run_pure,wY]
def Ul {o:Oper}{T:TypeId}{b:Nat}{v:Value}(ho:o.op=.load T (.tmp b))(hx:(execOp a.eval o).run C.P w=.ok (.value v) w):OF C.P a.tmps w (.cell b T) v:=by
 have he:a.eval (.tmp b)=a.tmps.getD b undef:=by simp[Act.eval]
 simp only[execOp,ho,Instr.loadAt,he] at hx;cases hp:a.tmps.getD b undef with
 |pointer p=>
  cases p with
  |none=>rw[hp] at hx;simp[Instr.sureAddr] at hx
  |some k=>
   rw[hp] at hx;refine⟨k,hp,?_⟩;simp[Instr.sureAddr] at hx;cases hr:(loadVar T k).run C.P w with
   |ok u w'=>rw[hr] at hx;simp at hx;rw[hx.1,hx.2]
   |halt u w'=>rw[hr] at hx;simp at hx
 |_=>rw[hp] at hx;simp[Instr.sureAddr] at hx
def az2 (h:Inv C S O V own hv w0 σ0 A a w)(hC:CtxOK C σ0){x:ResultVar}{r:St×Ty×PE}(hr:DY C S x=some r):
 ∃V' own' v,V.le V'/\Inv C r.1 O V' own' hv w0 σ0 A a w/\OF C.P a.tmps w x v/\Rep C.cap V' r.2.1 v (r.2.2.ev O):=by
 cases x with
 |tmp t=>
  simp only[DY,aB] at hr;obtain⟨y,hy,rfl⟩:=hr;obtain⟨σ1,dH,hle,h1⟩:=Inv.fzs (ej S [] [.tmp t]) h;refine⟨σ1,dH,a.tmps.getD t undef,hle,h1,rfl,?_⟩;have:=cu (gs:=[]) h1 hC rfl hy;simpa [Act.eval] using this
 |cell b T=>
  simp only[DY] at hr;obtain⟨σ1,dH,hle,h1⟩:=Inv.fzs (wS C S T (.tmp b)) h;generalize hS1:S.fzs (wS C S T (.tmp b))=S1 at hr h1
  let o:Oper:={(default:Oper) with op:=.load T (.tmp b)}
  split at hr
  .rename_i ty e hl;cases hr;have hq:=Nk (Z:=λ_ _=>none) (dst:=0) (gs:=[]) h1 hC rfl hl (o:=o) rfl;obtain⟨v,d,e1,e2,e3,e4⟩:=hq _ rfl;have hd:d=e.ev O:=by
        have:=congrArg (λx:Env=>x.r 0) e1;simpa [Env.setR,aS] using this.symm
   subst hd;exact⟨σ1,dH,v,hle,h1,Ul rfl e2,e3⟩
  .rename_i j ver t0 e0 hl;have hq:=Nk (Z:=λ_ _=>none) (dst:=0) (gs:=[]) h1 hC rfl hl (o:=o) rfl;obtain⟨v,d,e1,e2,e3,e4⟩:=hq _ rfl;cases hb:Nat.beq ver ((S1.fz j).ver j)<;>simp only[hb,zyy,zyx] at hr
   .cases hr
   split at hr
   case h_2=>cases hr
   rename_i ty br;cases hr;obtain⟨σ2,jC,iJ,h2⟩:=h1.fz j;refine⟨σ2,jC,v,hle.trans iJ,h2,Ul rfl e2,?_⟩;have ho:=h2.objs j;rw[br] at ho;have dR:ver=S1.ver j:=by rw[aD hb,(Ls S1 j).1]
   rw[e3.2 dR];exact ho.2
  .cases hr
def Xv (hC:CtxOK C σ0):∀(l:List ResultVar) {S:St} {V:Im} {own:Nat->Option Nat} {r:St×List Ty×List PE},Inv C S O V own hv w0 σ0 A a w->vp C l S=some r->
 ∃V' own' vs,V.le V'/\Inv C r.1 O V' own' hv w0 σ0 A a w/\OG C.P a.tmps w l vs/\vs.length=r.2.1.length/\r.2.2.length=r.2.1.length/\
  ∀(i:Nat) (t:Ty),r.2.1[i]?=some t->Rep C.cap V' t (vs.getD i undef) ((PE.evs O r.2.2).getD i .none)
 |[],S,V,own,r,h,hr=>by
  simp only[vp,bj] at hr;subst hr;exact⟨V,own,[],.refl V,h,trivial,rfl,rfl,λi t e=>by simp at e⟩
 |x::l,S,V,own,r,h,hr=>by
  simp only[vp,az,aB] at hr;obtain⟨r1,h1,q,h2,rfl⟩:=hr;obtain⟨σ1,dH,v,hle,i1,hx,bK⟩:=az2 h hC h1;obtain⟨σ2,jC,vs,iJ,i2,GD,kP,rq,oK⟩:=Xv hC l i1 h2;refine⟨σ2,jC,v::vs,hle.trans iJ,i2,⟨hx,GD⟩,by simp[kP],by simp[rq],λi t e=>?_⟩;cases i with
  |zero=>simp at e;subst e;simpa [PE.evs] using bK.mono iJ
  |succ i=>simp at e;simpa [PE.evs] using oK i t e
def Jo (C:Ctx)(s:Sig)(V:Im)(own:Nat->Option Nat)(w0 w:World)(tmps:Array Value)(d:D)(v:Value):Prop:=
 ∀shs obs,s.mode=.ob shs obs->∃hv dr os,d=.tup (dr::os)/\os.length=obs.length/\(∀k j,own k=some j->w0.heap.size<=k/\k<w.heap.size/\(∀o,V.c k o=none)/\V.m k=none)/\
  (∀(t:Nat) (sh:Sh),shs[t]?=some sh->pY sh=false->∀d,aG C (fh shs obs) (lV obs [] os) V hv sh (tmps.getD t undef) d)/\(∀j,cf C (fh shs obs) (lV obs [] os) V own hv w w0.heap.size j (ei obs j))/\Rep C.cap V s.res v dr
def Jo.no {C:Ctx}{s:Sig}{V:Im}{own:Nat->Option Nat}{w0 w:World}{tmps:Array Value}{d:D}{v:Value}(h:wL s.mode=false):Jo C s V own w0 w tmps d v:=λshs obs e=>by rw[e] at h;cases h
def PV (C:Ctx)(w0:World)(σ0:Base)(fn:Func)(s:Sig)(d:D)(a:Act)(w:World):Prop:=
 ∃v V,(∃own t fx cx,FrOK V own w0.heap.size σ0 w t fx cx/\(∀J,s.mode=.it J->d=t)/\Jo C s V own w0 w a.tmps d v)/\(results fn a.tmps).run C.P w=.ok v w/\σ0.le V/\V.ok w/\Below σ0.B w0 w/\
  (∀k o x,V.c k o=some x->σ0.c k o=some x\/w0.heap.size<=k)/\(∀k x,V.m k=some x->σ0.m k=some x\/w0.heap.size<=k)/\nL C s V w0 w v d
def Inv.fr (h:Inv C S O V own hv w0 σ0 A a w){s:Sig}{d:D}{v:Value}(hm:∀J,s.mode≠.it J)(ho:wL s.mode=false):∃own t fx cx,FrOK V own w0.heap.size σ0 w t fx cx/\(∀J,s.mode=.it J->d=t)/\Jo C s V own w0 w a.tmps d v:=by
 obtain⟨t,fx,cx,h1,_⟩:=h.frame;exact⟨own,t,fx,cx,h1,λJ e=>absurd e (hm J),.no ho⟩
def az1 {cap:Nat->Option CSig}{fP:List Ty}{es:List PE}{res:Ty}{pe:PE}{vs:List Value}(hr:Xw fP es res=some pe)(kP:vs.length=fP.length)(rq:es.length=fP.length)
 (oK:∀(i:Nat) (t:Ty),fP[i]?=some t->Rep cap V t (vs.getD i undef) ((PE.evs O es).getD i .none)):Rep cap V res (wY vs) (pe.ev O):=by
 have many:fP.length≠1->(bif Ty.sub (.tup fP) res then some (PE.tup es) else none)=some pe->Rep cap V res (wY vs) (pe.ev O):=by
  intro ay hr;cases hb:Ty.sub (.tup fP) res<;>simp only[hb,zyy,zyx] at hr
  .cases hr
  cases hr;have cD:wY vs=Value.tuple vs.toArray:=by
   match vs,kP with
   |[],_=>rfl
   |[v],hl=>exact absurd hl.symm ay
   |_::_::_,_=>rfl
  rw[cD];exact Rep.sub (Rep.tup _ _ _ (by rw[kP]) (by rw[PE.evs_eq,dX,rq]) oK) hb
 match fP,es,vs,kP,rq,oK,many,hr with
 |[ty],[e],[v],_,_,oK,_,hr=>
  simp only[Xw] at hr;cases hb:Ty.sub ty res<;>simp only[hb,zyy,zyx] at hr
  .cases hr
  cases hr;have:=oK 0 ty rfl;exact Rep.sub (by simpa [PE.evs,wY] using this) hb
 |[],[],_,_,_,_,many,hr=>exact many (by simp) hr
 |_::_::_,_::_::_,_,_,_,_,many,hr=>exact many (by simp) hr
def afC:∀{l:List Sh} {k:Nat},MA S k l=true->∀(t:Nat) (s:Sh),l[t]?=some s->pY s=false->vd s=true/\(s=.none\/S.r (k+t)=s)
 |[],k,_,t,s,h,_=>by simp at h
 |x::l,k,hk,t,s,h,hd=>by
  simp only[MA,au,j5] at hk;cases t with
  |zero=>
   simp at h;subst h;refine⟨hk.1,?_⟩;rcases hk.2.1 with(h1|h1)|h1
   .rw[hd] at h1;cases h1
   .left;cases x<;>first|rfl|cases h1
   .exact .inr (Sh.beq_eq _ _ h1)
  |succ t=>
   simp at h;have:=afC hk.2.2 t s h hd
   rwa [sA,Es 1 t] at this
def af1:∀{obs:List (Nat×Ob)},(obs.all λx=>Ob.beq (S.o x.1) x.2)=true->∀j,ei obs j=.dead\/(S.o j=ei obs j/\oR obs (obs.map λx=>O.o x.1) j=O.o j)
 |[],_,j=>.inl rfl
 |x::obs,h,j=>by
  simp only[sv,au] at h;simp only[ei,iy,oR];cases hb:Nat.beq x.1 j<;>simp only[zyy,zyx]
  .exact af1 h.2 j
  .rw[<-aD hb];exact .inr ⟨Ob.beq_eq _ _ h.1,rfl⟩
def aDY {ty:Ty}{fP:List Ty}{es:List PE}(h:∀ty e,fP=[ty]->es=[e]->False)(hl:es.length=fP.length):fP.length≠1:=by
 intro h1
 match fP,es with
 |[ty],[e]=>exact h ty e rfl rfl
 |[],_=>simp at h1
 |_::_::_,_=>simp at h1
 |[_],[]=>simp at hl
 |[_],_::_::_=>simp at hl
def ajW (h:Inv C S O V own hv w0 σ0 A a w){T:TypeId}{e:Ty}{j ver:Nat}{v:Value}{d:D}(hc:aG C S O V hv (.obj j ver) v d){pe:PE}
 (hr:(bif Nat.beq ver (S.ver j) then(match S.o j with|.row U f=>bif Nat.beq U T&&Ty.beq f e then some (PE.o j) else none|_=>none) else none)=some pe):
 ∃cells xs,pe.ev O=.list xs/\w.ownsRow w0.heap.size T e.size v xs.length cells/\du C.cap V e cells xs/\∀k,v.ownBlock=some k->(∀o,V.c k o=none)/\V.m k=none:=by
 cases hb:Nat.beq ver (S.ver j)<;>simp only[hb,zyy,zyx] at hr
 .cases hr
 split at hr
 case h_2=>cases hr
 rename_i U f ho;cases dA:Nat.beq U T&&Ty.beq f e<;>simp only[dA,zyy,zyx] at hr
 .cases hr
 cases hr;simp only[au] at dA;have hU:=aD dA.1;have hf:=Ty.beq_eq _ _ dA.2;subst hU hf;have hj:=h.objs j;rw[ho] at hj;obtain⟨cells,xs,h1,h2,h3,h4⟩:=hj;have hv':=hc.2 (aD hb);subst hv';exact⟨cells,xs,h1,h2,h3,λk hk=>(h.owns k j (h4 k hk)).2.2⟩
def ajS:∀(l:List ResultVar) {S:St} {r:St×List Ty×List PE},vp C l S=some r->r.1.ver=S.ver
 |[],S,r,h=>by simp only[vp,bj] at h;subst h;rfl
 |x::l,S,r,h=>by
  simp only[vp,az,aB] at h;obtain⟨r1,h1,q,h2,rfl⟩:=h;rw[ajS l h2];cases x with
  |tmp t=>
   simp only[DY,aB] at h1;obtain⟨y,_,rfl⟩:=h1;exact(sU _ _).1
  |cell b T=>
   simp only[DY] at h1;split at h1
   .cases h1;exact(sU _ _).1
   .rename_i j ver t0 e0 _;cases hb:Nat.beq ver (((S.fzs (wS C S T (.tmp b))).fz j).ver j)<;>simp only[hb,zyy,zyx] at h1
    .cases h1
    .split at h1
     .cases h1;rw[(Ls _ _).1];exact(sU _ _).1
     .cases h1
   .cases h1
def az3 (h:Inv C S O V own hv w0 σ0 A a w)(hC:CtxOK C σ0)(dR:∀j,S.ver j=0){fn:Func}{s:Sig}{pe:PE}(hr:AA C fn s S=some pe):PV C w0 σ0 fn s (pe.ev O) a w:=by
 unfold AA at hr;split at hr
 .rename_i shs obs hm;simp only[ajU,az] at hr;obtain⟨r,aP,hr⟩:=hr;obtain⟨σ1,dH,vs,hle,h1,zq,kP,rq,oK⟩:=Xv hC _ h aP;cases hb:TK r.1 shs obs<;>simp only[hb,zyy,zyx] at hr
  .cases hr
  simp only[aB] at hr;obtain⟨e,he,rfl⟩:=hr;simp only[TK,au] at hb;have bK:=az1 he kP rq oK;obtain⟨t,fx,cx,hf,_⟩:=h1.frame;have v8:Compat r.1 hv (fh shs obs) hv:=⟨λj=>by rw[ajS _ aP,dR];exact kf _,λ_ _=>rfl⟩
  have SR:(PE.evs O (e::obs.map λx=>.o x.1))=e.ev O::obs.map (λx=>O.o x.1):=by simp[PE.evs_eq,I9,PE.ev]
  refine⟨_,σ1,⟨dH,t,fx,cx,hf,(λJ e=>by rw[hm] at e;cases e),λaLg aKJ e'=>?_⟩,IG zq,h1.le,h1.ok,h1.below,h1.newc,h1.newm,by unfold nL;rw[hm];trivial⟩;rw[hm] at e';cases e';refine⟨hv,e.ev O,obs.map λx=>O.o x.1,by simp only[PE.ev];rw[SR],by simp,h1.owns,λt sh hs hd d=>?_,λj=>?_,bK⟩
  .obtain⟨fJ,e1⟩:=afC hb.1 t sh hs hd;rcases e1 with e1|e1
   .subst e1;trivial
   .rw[ke] at e1;have:=h1.regs t;rw[e1] at this;have fH:∀gs s',sh≠.opt gs s':=λgs s' e=>by subst e;cases fJ
    have:=aG.mono' (S':=fh shs obs) (O':=lV obs [] (obs.map λx=>O.o x.1)) (.refl σ1) v8 fH this;cases sh with
    |dat t=>cases hd
    |opt gs s=>cases fJ
    |eptr j v o q=>cases fJ
    |agg l=>cases fJ
    |_=>exact this
  .rcases af1 (O:=O) hb.2 j with e1|⟨e1,e2⟩
   .rw[e1];trivial
   .rw[<-e1];exact(h1.objs j).mono (.refl σ1) v8 rfl e2 (λk hk=>⟨hk,rfl⟩)
 .rename_i hm;simp only[ajT,az] at hr;obtain⟨r,aP,hr⟩:=hr;obtain⟨σ1,dH,vs,hle,h1,zq,kP,rq,oK⟩:=Xv hC _ h aP;refine⟨_,σ1,h1.fr (λJ e=>by rw[hm] at e;cases e) (by rw[hm];rfl),IG zq,h.le.trans hle,h1.ok,h1.below,h1.newc,h1.newm,?_⟩;unfold nL;rw[hm];simp only;split at hr
  .rename_i ty e e1 e2;rw[e1] at kP oK;rw[e2] at oK;cases hb:Ty.sub ty s.res<;>simp only[hb,zyy,zyx] at hr
   .cases hr
   cases hr;obtain⟨v,rfl⟩:∃v,vs=[v]:=by
        match vs,kP with
        |[v],_=>exact⟨v,rfl⟩
   have:=oK 0 ty rfl;exact Rep.sub (by simpa [PE.evs,wY] using this) hb
  .rename_i ay;cases hb:Ty.sub (.tup r.2.1) s.res<;>simp only[hb,zyy,zyx] at hr
   .cases hr
   cases hr;have SA:=aDY (ty:=.bool) ay rq;have cD:wY vs=Value.tuple vs.toArray:=by
        match vs,kP with
        |[],_=>rfl
        |[v],hl=>rw[<-hl] at SA;exact absurd rfl SA
        |_::_::_,_=>rfl
   rw[cD];refine Rep.sub (Rep.tup _ _ _ (by rw[kP]) (by rw[PE.evs_eq,dX,rq]) oK) hb
 .cases hr
 .rename_i J hm;split at hr
  case h_2=>cases hr
  rename_i ky hJ;cases hr;obtain⟨t,fx,cx,h1,h2⟩:=h.frame;refine⟨_,V,⟨own,t,fx,cx,h1,λJ' e=>?_,.no (by rw[hm];rfl)⟩,IG (vs:=[]) (by rw[ky];trivial),h.le,h.ok,h.below,h.newc,h.newm,by unfold nL;rw[hm];trivial⟩;exact(h2 J hJ).2
 .rename_i T e hm;have key:∃v,(results fn a.tmps).run C.P w=.ok v w/\∃cells xs,pe.ev O=.list xs/\w.ownsRow w0.heap.size T e.size v xs.length cells/\du C.cap V e cells xs/\∀k,v.ownBlock=some k->(∀o,V.c k o=none)/\V.m k=none:=by
   unfold ajV at hr;split at hr
   .rename_i t ht;split at hr
    case h_2=>cases hr
    rename_i j ver hs;have hc:=(sd (gs:=[]) h rfl t).1;rw[hs] at hc;exact⟨_,IG (vs:=[a.tmps.getD t undef]) (by rw[ht];exact⟨rfl,trivial⟩),ajW h hc hr⟩
   .rename_i b U hb;split at hr
    case h_2=>cases hr
    rename_i j ver t0 e0 hl;have hq:=Nk (Z:=λ_ _=>none) (dst:=0) (gs:=[]) h hC rfl hl (o:={(default:Oper) with op:=.load U (.tmp b)}) rfl;obtain⟨v,d,e1,e2,e3,e4⟩:=hq _ rfl;exact⟨_,IG (vs:=[v]) (by rw[hb];exact⟨Ul rfl e2,trivial⟩),ajW h e3 hr⟩
   .cases hr
  obtain⟨v,h1,h2⟩:=key;refine⟨v,V,h.fr (λJ e=>by rw[hm] at e;cases e) (by rw[hm];rfl),h1,h.le,h.ok,h.below,h.newc,h.newm,?_⟩;unfold nL;rw[hm];exact h2
def lq.drop {V:Im}{B D:Nat}:∀{ds:List Deferred},({target:=.collected D,args:=#[]}:Deferred)∉ds->lq V B ds->lq (V.drop D) B ds
 |[],_,_=>trivial
 |x::ds,hn,⟨⟨D',h1,h2,h3⟩,h⟩=>by
  simp only[cv,not_or] at hn;refine⟨⟨D',h1,?_,h3⟩,lq.drop hn.2 h⟩;have:D'≠D:=λe=>hn.1 (by rw[h1,e]);simp[Im.drop,this,h2]
def Inv.shut (h:Inv C S O V own hv w0 σ0 A a w)(km:σ0.fin){x:Deferred}{ds:List Deferred}(hd:a.defers=x::ds):
 ∃D,x.target=.collected D/\w.heap[D]?=some (.deferred (some []))/\Inv C S O (V.drop D) own hv w0 σ0 A {a with defers:=ds} (w.putObj D (.deferred none)):=by
 have pO:=h.defers;rw[hd] at pO;obtain⟨⟨D,rfl,hm,hB,SF⟩,jO⟩:=pO;have hD:w.heap[D]?=some (.deferred (some [])):=by
  rcases h.ok.m D _ hm with⟨h1,_⟩|⟨_,h2⟩|⟨h3,_⟩
  .exact absurd rfl h1
  .exact h2
  .exact absurd h3.symm xn
 have iK:∀k,k≠D->(w.putObj D (.deferred none)).heap[k]?=w.heap[k]?:=λk hk=>World.putObj_heap_other hk;have bB:∀k j,own k=some j->k≠D:=λk j hk e=>by subst e;rw[(h.owns k j hk).2.2.2] at hm;cases hm
 have hR:Im.leR C.cap V (V.drop D):=⟨λr=>r.drop hm,λ_ _ _ e=>e⟩
 have CH:∀k x,(V.drop D).m k=some x->k≠D/\V.m k=some x:=by
  intro k x hx;simp only[Im.drop] at hx;split at hx
  .cases hx
  .rename_i ay;exact⟨ay,hx⟩
 refine⟨D,rfl,hD,jO.drop SF,⟨λk o v hc=>?_,λk es hc=>?_,h.ok.fz λk o v hc=>iK k λe=>by subst e;have h1:=h.ok.c k o v hc;simp[World.cell?,hD] at h1⟩,⟨h.le.c,λk es hc=>?_⟩,h.old,h.newc,λk es hc=>h.newm k es (CH k es hc).2,h.below.trans ⟨rfl,rfl,rfl,by simp,λk hk=>iK k (by have:=h.bw;omega)⟩,h.bw,λk j hk=>?_,λt=>?_,λj=>?_,h.opts,?_⟩
 .have h1:=h.ok.c k o v hc;have ay:k≠D:=λe=>by subst e;simp[World.cell?,hD] at h1
  rw[World.cell?_of_block (iK k ay)];exact h1
 .exact(h.ok.m k es (CH k es hc).2).keep (iK k (CH k es hc).1)
 .have ay:k≠D:=λe=>by
   subst e;have:=h.le.m _ _ hc;rw[hm] at this;cases this;have:=h.old km _ hc;omega
  simp[Im.drop,ay,h.le.m k es hc]
 .obtain⟨g1,g2,g3,g4⟩:=h.owns k j hk;exact⟨g1,by simpa using g2,g3,by simp only[Im.drop];split<;>first|rfl|exact g4⟩
 .exact aG.monoR hR (.refl S hv) (λ_ _ _=>rfl) (λgs s e=>(h.opts t gs s e).2) (h.regs t)
 .exact(h.objs j).monoR hR (.refl S hv) rfl rfl (λk hk=>⟨hk,iK k (bB k j hk)⟩)
 .obtain⟨t,fx,cx,hf,ht⟩:=h.frame;exact⟨t,fx,cx,⟨σ0.keep _ _ _ _ _ hf.F ⟨rfl,rfl,rfl,by simp,λk hk=>by omega⟩ (λk hk=>iK k λe=>by subst e;exact hf.d k hm hB hk),hf.own,hf.c,λk x hx=>hf.m k x (CH k x hx).2,λk hx=>hf.d k (CH k _ hx).2⟩,ht⟩
def sC (C:Ctx)(w0:World)(σ0:Base)(fn:Func)(s:Sig)(d:D)(tmps:Array Value):List Deferred->World->Prop
 |[],w=>PV C w0 σ0 fn s d {tmps:=tmps,defers:=[]} w
 |x::ds,w=>∃D,x.target=.collected D/\w.heap[D]?=some (.deferred (some []))/\sC C w0 σ0 fn s d tmps ds (w.putObj D (.deferred none))
def Inv.retD (hC:CtxOK C σ0)(dR:∀j,S.ver j=0)(km:σ0.fin){fn:Func}{s:Sig}{pe:PE}(hr:AA C fn s S=some pe):∀(ds:List Deferred) {V:Im} {a:Act} {w:World},Inv C S O V own hv w0 σ0 A a w->a.defers=ds->sC C w0 σ0 fn s (pe.ev O) a.tmps ds w
 |[],V,a,w,h,hd=>by
  have e:a={tmps:=a.tmps,defers:=[]}:=by cases a;simp only at hd;subst hd;rfl
  rw[e] at h;exact az3 h hC dR hr
 |x::ds,V,a,w,h,hd=>by
  obtain⟨D,h1,h2,h3⟩:=h.shut km hd;exact⟨D,h1,h2,Inv.retD hC dR km hr ds (a:={a with defers:=ds}) h3 rfl⟩
end
def mE (C:Ctx)(f:Nat)(cts ys:List Ty)(ds xs:List D):Prop:=
 ∀(V:Im) (w:World) (yv:Value) (vs:List Value) (F:D->(Nat->Prop)->(Nat->Prop)->World->Prop) (fx cx:Nat->Prop) (m:Nat),V.ok w->CtxOK C V->qw C V cts vs ds->m<=xs.length->
  (∀t fx cx w,F t fx cx w->∀k,fx k->k<w.heap.size)->(∀t fx cx w,F t fx cx w->∀k,cx k->fx k)->
  (∀t fx cx w w',F t fx cx w->Below 0 w w'->(∀k,fx k->w'.heap[k]?=w.heap[k]?)->F t fx cx w')->
  F (.list []) fx cx w->(∀k o x,V.c k o=some x->¬cx k)->(∀k x,V.m k=some x->¬cx k)->
  (∀(i:Nat) (fx cx:Nat->Prop) (w1:World) (σ1:Im) (args:List Value) (ds':List D),i<=m->xs[i]?=some (.tup ds')->F (.list (xs.take i)) fx cx w1->σ1.ok w1->qw C σ1 ys args ds'->
    (∀k o x,σ1.c k o=some x->¬cx k)->(∀k x,σ1.m k=some x->¬cx k)->
    (∀k o x,σ1.c k o=some x->V.c k o=some x\/w.heap.size<=k)->(∀k x,σ1.m k=some x->V.m k=some x\/w.heap.size<=k)->
    YOK C.P yv args w1 λu w2=>u=.bool (decide (i<m))/\Below 0 w1 w2/\(∀k,k<w1.heap.size->¬cx k->w2.heap[k]?=w1.heap[k]?)/\
     ∃ot kK,F (.list (xs.take (i+1))) ot kK w2/\(∀k,ot k->k<w1.heap.size->fx k\/(∃o x,σ1.c k o=some x)\/(∃x,σ1.m k=some x/\x≠cw))/\(∀k,kK k->k<w1.heap.size->cx k))->
  Calls C.P f (#[yv]++vs.toArray) w λe w'=>(∃v,e=.returned v)/\∃fx cx,F (.list (xs.take (m+1))) fx cx w'
def gR (C:Ctx)(Z:aO):Prop:=∀f cs ys,C.cap f=some cs->oO cs.args cs.res=some ys->(∃fn,C.P.funcs[f]?=some fn/\fn.body.isSome=true/\(fn.name== "runtime.NumGoroutine")=false)/\
 ∀ds d,Z f ds=some d->∃xs,d=.list xs/\(∀x,x∈xs->∃ds',x=.tup ds'/\ds'.length=ys.length)/\mE C f cs.caps ys ds xs
section
variable {C:Ctx} {S:St} {O:Env} {V:Im} {own:Nat->Option Nat} {hv:Nat->Value} {w0:World} {σ0:Base} {A:Nat->Prop} {a:Act} {w:World}
def Inv.mono_regs (h:Inv C S O V own hv w0 σ0 A a w){τ:Im}(hle:V.le τ)(t:Nat):aG C S O τ hv (S.r t) (a.tmps.getD t undef) (O.r t):=
 aG.mono hle (.refl S hv) (λ_ _ _=>rfl) (λgs s e=>(h.opts t gs s e).2) (h.regs t)
def Inv.joinIm (h:Inv C S O V own hv w0 σ0 A a w){τ:Im}(hτ:τ.ok w)(hd:∀k,τ.m k≠some cw)(hoc:∀k o v,τ.c k o=some v->own k=none)(hom:∀k v,τ.m k=some v->own k=none)
 (dD:∀k o v,τ.c k o=some v->V.c k o=some v\/w0.heap.size<=k) (cY:∀k v,τ.m k=some v->V.m k=some v\/w0.heap.size<=k)
 (eE:∀t fx cx,FrOK V own w0.heap.size σ0 w t fx cx->(∀k o v,τ.c k o=some v->¬cx k)/\∀k v,τ.m k=some v->¬cx k):Inv C S O (V.plus τ) own hv w0 σ0 A a w where
 defers:=h.defers.mono (Im.plus_le1 V τ)
 ok:=Im.plus_ok h.ok hτ
 le:=h.le.trans (Im.plus_le1 V τ)
 old:=h.old
 newc:=λk o x e=>(Im.plus_c e).elim (h.newc k o x) λe=>(dD k o x e).elim (h.newc k o x) .inr
 newm:=λk x e=>(Im.plus_m e).elim (h.newm k x) λe=>(cY k x e).elim (h.newm k x) .inr
 below:=h.below
 bw:=h.bw
 owns:=λk j hk=>by
  obtain⟨g1,g2,g3,g4⟩:=h.owns k j hk;refine⟨g1,g2,λo=>?_,?_⟩
  .cases e:(V.plus τ).c k o with
   |none=>rfl
   |some x=>
    rcases Im.plus_c e with e|e
    .rw[g3 o] at e;cases e
    .rw[hoc k o x e] at hk;cases hk
  .cases e:(V.plus τ).m k with
   |none=>rfl
   |some x=>
    rcases Im.plus_m e with e|e
    .rw[g4] at e;cases e
    .rw[hom k x e] at hk;cases hk
 regs:=h.mono_regs (Im.plus_le1 V τ)
 objs:=λj=>(h.objs j).mono (Im.plus_le1 V τ) (.refl S hv) rfl rfl λk hk=>⟨hk,rfl⟩
 opts:=h.opts
 frame:=by
  obtain⟨t,fx,cx,hf,ht⟩:=h.frame;obtain⟨h1,h2⟩:=eE t fx cx hf;exact⟨t,fx,cx,⟨hf.F,hf.own,λk o x e=>(Im.plus_c e).elim (hf.c k o x) (h1 k o x),λk x e=>(Im.plus_m e).elim (hf.m k x) (h2 k x),λk e=>(Im.plus_m e).elim (hf.d k) λe=>absurd e (hd k)⟩,ht⟩
def Inv.keep (h:Inv C S O V own hv w0 σ0 A a w){w':World}{X:Nat->Prop}(hb:Below 0 w w')(hX:∀k,X k->w'.heap[k]?=w.heap[k]?)(h0:∀k,k<w0.heap.size->X k)(ho:∀k j,own k=some j->X k)(hc:∀k o v,V.c k o=some v->X k)(hm:∀k v,V.m k=some v->X k)
 (eE:∀t fx cx,FrOK V own w0.heap.size σ0 w t fx cx->∀k,fx k->X k):Inv C S O V own hv w0 σ0 A a w' where
 defers:=h.defers
 ok:=⟨λk o v e=>by rw[World.cell?_of_block (hX k (hc k o v e))];exact h.ok.c k o v e,λk v e=>(h.ok.m k v e).keep (hX k (hm k v e)),h.ok.fz λk o v e=>hX k (hc k o v e)⟩
 le:=h.le
 old:=h.old
 newc:=h.newc
 newm:=h.newm
 below:=h.below.trans ⟨hb.os,hb.tape,hb.output,hb.size,λk hk=>hX k (h0 k (ly hk h.bw))⟩
 bw:=h.bw
 owns:=λk j hk=>let⟨g1,g2,g3⟩:=h.owns k j hk;⟨g1,ly g2 hb.size,g3⟩
 regs:=h.regs
 objs:=λj=>(h.objs j).mono (.refl V) (.refl S hv) rfl rfl λk hk=>⟨hk,hX k (ho k j hk)⟩
 opts:=h.opts
 frame:=by
  obtain⟨t,fx,cx,hf,ht⟩:=h.frame;exact⟨t,fx,cx,⟨σ0.keep _ _ _ _ _ hf.F hb λk hk=>hX k (eE t fx cx hf k hk),hf.own,hf.c,hf.m,hf.d⟩,ht⟩
end
def Base.rnd (σ0:Base)(V:Im)(own:Nat->Option Nat)(w:World)(t:D)(X:Nat->Prop):Base:=
 {V with
  B:=σ0.B
  fin:=False
  F:=λt' fx cx w'=>t'=t/\(∀k,fx k↔(k<w.heap.size/\own k=none/\V.m k≠some cw/\¬X k))/\(∀k,cx k↔(fx k/\(∀o,V.c k o=none)/\V.m k=none))/\w.heap.size<=w'.heap.size/\∀k,fx k->w'.heap[k]?=w.heap[k]?
  lt:=λt' fx cx w' h k hk=>ly ((h.2.1 k).1 hk).1 h.2.2.2.1
  sub:=λt' fx cx w' h k hk=>((h.2.2.1 k).1 hk).1
  keep:=λt' fx cx w' ll h hb hs=>⟨h.1,h.2.1,h.2.2.1,fb h.2.2.2.1 hb.size,λk hk=>(hs k hk).trans (h.2.2.2.2 k hk)⟩}
section
variable {C:Ctx} {S S':St} {O O':Env} {V V':Im} {own own':Nat->Option Nat} {hv hv':Nat->Value} {w0:World} {σ0:Base} {A A':Nat->Prop} {a a':Act} {w w':World} {X:Nat->Prop}
def Inv.toRnd (h:Inv C S O V own hv w0 σ0 A a w){t:D}(ht:∀j,S.o j=.tr->(∃ys,C.yl=some (j,ys))/\O.o j=t):Inv C S O V own hv w0 (σ0.rnd V own w t X) A a w:=by
 refine⟨h.defers,h.ok,.refl V,(λhf=>hf.elim),(λ_ _ _ e=>.inl e),(λ_ _ e=>.inl e),h.below,h.bw,h.owns,h.regs,h.objs,h.opts,t,λk=>k<w.heap.size/\own k=none/\V.m k≠some cw/\¬X k,λk=>(k<w.heap.size/\own k=none/\V.m k≠some cw/\¬X k)/\(∀o,V.c k o=none)/\V.m k=none,
  ⟨⟨rfl,λ_=>.rfl,λ_=>.rfl,aZ _,λ_ _=>rfl⟩,λk j hk hf=>?_,λk o x e hc=>?_,λk x e hc=>?_,λk e _ hf=>hf.2.2.1 e⟩,ht⟩
 .have:=hf.2.1;rw[hk] at this;cases this
 .have:=hc.2.1 o;rw[e] at this;cases this
 .have:=hc.2.2;rw[e] at this;cases this
def Inv.markSame {w1:World}(h:V.ok w1)(h':V'.ok w')(hle:V.le V'){k:Nat}(hk:V.m k=some cw):w'.heap[k]?=w1.heap[k]?:=by
 have e1:w1.heap[k]?=some (.deferred (some [])):=by
  rcases h.m k _ hk with⟨h1,_⟩|⟨_,h2⟩|⟨h3,_⟩
  .exact absurd rfl h1
  .exact h2
  .exact absurd h3.symm xn
 have e2:w'.heap[k]?=some (.deferred (some [])):=by
  rcases h'.m k _ (hle.m k _ hk) with⟨h1,_⟩|⟨_,h2⟩|⟨h3,_⟩
  .exact absurd rfl h1
  .exact h2
  .exact absurd h3.symm xn
 rw[e1,e2]
def Inv.rndSame {w1:World}{t:D}(ax:V.ok w1)(h':Inv C S' O' V' own' hv' w0 (σ0.rnd V own w1 t X) A' a' w'){k:Nat}(hk:k<w1.heap.size)(ho:own k=none)(hX:¬X k):w'.heap[k]?=w1.heap[k]?:=by
 by_cases hd:V.m k=some cw
 .exact Inv.markSame ax h'.ok h'.le hd
 .obtain⟨t',fx,cx,hf,_⟩:=h'.frame;obtain⟨_,f2,_,_,f5⟩:=hf.F;exact f5 k ((f2 k).2 ⟨hk,ho,hd,hX⟩)
def Inv.rndBelow {w1:World}{t:D}(h:Inv C S O V own hv w0 σ0 A a w1)(h':Inv C S' O' V' own' hv' w0 (σ0.rnd V own w1 t X) A' a' w'):Below 0 w1 w':=by
 obtain⟨t',fx,cx,hf,_⟩:=h'.frame;obtain⟨_,_,_,f4,_⟩:=hf.F;exact⟨h'.below.os.trans h.below.os.symm,h'.below.tape.trans h.below.tape.symm,h'.below.output.trans h.below.output.symm,f4,λk hk=>by omega⟩
def Inv.rndOwn {w1:World}{t:D}(h':Inv C S' O' V' own' hv' w0 (σ0.rnd V own w1 t X) A' a' w'){k j:Nat}(hk:own' k=some j)(hX:¬X k):(∃i,own k=some i)\/w1.heap.size<=k:=by
 obtain⟨t',fx,cx,hf,_⟩:=h'.frame;obtain⟨_,f2,_,_,_⟩:=hf.F;cases e:own k with
 |some i=>exact .inl ⟨i,rfl⟩
 |none=>
  refine .inr (Nat.le_of_not_lt λaf=>?_);by_cases hd:V.m k=some cw
  .have:=(h'.owns k j hk).2.2.2;rw[h'.le.m k _ hd] at this;cases this
  .exact hf.own k j hk ((f2 k).2 ⟨af,e,hd,hX⟩)
def Inv.rndC {w1:World}{t:D}(h':Inv C S' O' V' own' hv' w0 (σ0.rnd V own w1 t X) A' a' w'){k:Nat}(hk:(∃o x,V'.c k o=some x)\/∃x,V'.m k=some x)(hX:¬X k):(∃o x,V.c k o=some x)\/(∃x,V.m k=some x)\/(∃i,own k=some i)\/w1.heap.size<=k:=by
 obtain⟨t',fx,cx,hf,_⟩:=h'.frame;obtain⟨_,f2,f3,_,_⟩:=hf.F;cases e:own k with
 |some i=>exact .inr (.inr (.inl ⟨i,rfl⟩))
 |none=>
  by_cases hm:∃x,V.m k=some x
  .exact .inr (.inl hm)
  by_cases hc:∃o x,V.c k o=some x
  .exact .inl hc
  refine .inr (.inr (.inr (Nat.le_of_not_lt λaf=>?_)));have hmn:V.m k=none:=by
   cases e2:V.m k with
   |none=>rfl
   |some x=>exact absurd ⟨x,e2⟩ hm
  have dO:cx k:=(f3 k).2 ⟨(f2 k).2 ⟨af,e,by rw[hmn];simp,hX⟩,λo=>by
   cases e2:V.c k o with
   |none=>rfl
   |some x=>exact absurd ⟨o,x,e2⟩ hc,hmn⟩
  rcases hk with⟨o,x,hk⟩|⟨x,hk⟩
  .exact hf.c k o x hk dO
  .exact hf.m k x hk dO
def Inv.ofRnd {w1:World}(h:Inv C S O V own hv w0 σ0 A a w1){t:D}{fx cx:Nat->Prop}(eE:FrOK V own w0.heap.size σ0 w1 t fx cx)(hX:∀k,fx k->¬X k)(h':Inv C S' O' V' own' hv' w0 (σ0.rnd V own w1 t X) A' a' w'):
 Inv C S' O' V' own' hv' w0 σ0 A' a' w':=by
 have hb:=h.rndBelow h';have lG:=h';obtain⟨t',ot,kK,hf,ht⟩:=lG.frame;obtain⟨f1,f2,f3,f4,f5⟩:=hf.F;have af:=σ0.lt _ _ _ _ eE.F;have cK:=σ0.sub _ _ _ _ eE.F
 have SP:∀k,fx k->own k=none:=λk hk=>by
  cases e:own k with
  |none=>rfl
  |some j=>exact absurd hk (eE.own k j e)
 have mh:∀k,cx k->¬((∃o x,V'.c k o=some x)\/∃x,V'.m k=some x):=λk hk hc=>by
  have h1:=cK k hk;rcases Inv.rndC h' hc (hX k h1) with⟨o,x,e⟩|⟨x,e⟩|⟨j,e⟩|e
  .exact eE.c k o x e hk
  .exact eE.m k x e hk
  .exact eE.own k j e h1
  .have:=af k h1;omega
 refine⟨h'.defers,h'.ok,h.le.trans h'.le,h.old,λk o x e=>(h'.newc k o x e).elim (h.newc k o x) .inr,λk x e=>(h'.newm k x e).elim (h.newm k x) .inr,h'.below,h'.bw,h'.owns,h'.regs,h'.objs,h'.opts,t,fx,cx,
  ⟨σ0.keep _ _ _ _ _ eE.F hb λk hk=>Inv.rndSame h.ok h' (af k hk) (SP k hk) (hX k hk),λk j hk mW=>?_,λk o x e hc=>mh k hc (.inl ⟨o,x,e⟩),λk x e hc=>mh k hc (.inr ⟨x,e⟩),λk e hB mW=>?_⟩,λj hj=>⟨(ht j hj).1,by rw[(ht j hj).2,f1]⟩⟩
 .rcases Inv.rndOwn h' hk (hX k mW) with⟨i,e⟩|e
  .exact eE.own k i e mW
  .have:=af k mW;omega
 .by_cases hd:V.m k=some cw
  .exact eE.d k hd hB mW
  .exact hf.d k e hB ((f2 k).2 ⟨af k mW,SP k mW,hd,hX k mW⟩)
def Inv.restore (h:Inv C S O V own hv w0 σ0 A a w)(hn:∀t gs s,S.r t≠.opt gs s)(hd:lq V w0.heap.size a'.defers)(hr:∀t,isNone (S.r t)=false->a'.tmps.getD t undef=a.tmps.getD t undef/\O'.r t=O.r t)(ho:∀j,pZ (S.o j)=false->O'.o j=O.o j):
 Inv C S O' V own hv w0 σ0 (λ_=>False) a' w:=by
 refine⟨hd,h.ok,h.le,h.old,h.newc,h.newm,h.below,h.bw,h.owns,λt=>?_,λj=>?_,λt gs s e=>absurd e (hn t gs s),?_⟩
 .cases hs:isNone (S.r t) with
  |true=>cases hc:S.r t<;>rw[hc] at hs<;>simp[isNone] at hs;trivial
  |false=>
   rw[(hr t hs).1,(hr t hs).2];exact aG.mono' (.refl V) (.refl S hv) (hn t) (h.regs t)
 .cases hs:pZ (S.o j) with
  |true=>cases hc:S.o j<;>rw[hc] at hs<;>simp[pZ] at hs;trivial
  |false=>exact(h.objs j).mono (.refl V) (.refl S hv) rfl (ho j hs) (λk hk=>⟨hk,rfl⟩)
 .obtain⟨t,fx,cx,h1,h2⟩:=h.frame;exact⟨t,fx,cx,h1,λj hj=>⟨(h2 j hj).1,by rw[ho j (by rw[hj];rfl)];exact(h2 j hj).2⟩⟩
def lq.mem {V:Im}{B:Nat}:∀{ds:List Deferred} {d:Deferred},d∈ds->lq V B ds->∃D,d={target:=.collected D,args:=#[]}/\V.m D=some cw
 |x::ds,d,hm,⟨⟨D,h1,h2,_⟩,h⟩=>by
  rcases cv.1 hm with e|e
  .subst e;exact⟨D,h1,h2⟩
  .exact lq.mem e h
def Im.mark (V:Im)(D:Nat):Im:=⟨V.c,λk=>if k=D then some cw else V.m k⟩
def ac0 (w:World)(o1 o2:Obj):Below w.heap.size w ((w.alloc o1).alloc o2):=(((Below.refl _ w).alloc (aZ _) o1).alloc (by simp) o2)
def Inv.enter (h:Inv C S O V own hv w0 σ0 A a w)(r:Loop):
 Inv C S O (V.mark w.heap.size) own hv w0 σ0 A {a with defers:={target:=.collected w.heap.size,args:=#[]}::a.defers} ((w.alloc (.deferred (some []))).alloc (.loop r)):=by
 have hD:((w.alloc (.deferred (some []))).alloc (.loop r)).heap[w.heap.size]?=some (.deferred (some [])):=(Below.heap_alloc _ _ _ (by simp)).trans (World.alloc_heap_new w _);have hle:V.le (V.mark w.heap.size):=by
  refine⟨λ_ _ _ e=>e,λk x e=>?_⟩;have:k≠w.heap.size:=by have:=h.ltm e;omega
  simp[Im.mark,this,e]
 have zj:∀k x,(V.mark w.heap.size).m k=some x->V.m k=some x\/(k=w.heap.size/\x=cw):=by
  intro k x e;simp only[Im.mark] at e;split at e
  .rename_i e2;cases e;exact .inr ⟨e2,rfl⟩
  .exact .inl e
 have hb:=ac0 w (.deferred (some [])) (.loop r);have ax:(V.mark w.heap.size).ok ((w.alloc (.deferred (some []))).alloc (.loop r)):=by
  have h1:=h.ok.below hb;refine⟨h1.c,λk x e=>?_,h1.f⟩;rcases zj k x e with e|⟨rfl,rfl⟩
  .exact h1.m k x e
  .exact .inr (.inl ⟨rfl,hD⟩)
 have hw:=h.world hle ax hb (λ_ _ _ e=>.inl e) (λk x e=>(zj k x e).imp id λe=>by omega);have pO:=hw.defers;refine⟨⟨⟨_,rfl,by simp[Im.mark],h.below.size,λhm=>?_⟩,pO⟩,hw.ok,hw.le,hw.old,hw.newc,hw.newm,hw.below,hw.bw,hw.owns,hw.regs,hw.objs,hw.opts,hw.frame⟩;obtain⟨D,e1,e2⟩:=lq.mem hm h.defers;have:D=w.heap.size:=by cases e1;rfl
 subst this;have:=h.ltm e2;omega
end
end Cx
