/-
  Shared texts of this claim.
-/
import Derived.Test.YtopjnikcppafdaaGreatDoorKAA
import Derived.ChangeKeysEq
import Derived.Laws.Tables
set_option linter.unusedSimpArgs false
set_option linter.unusedVariables false
namespace Cx
open Go Go.RowKit
theorem Rep.int_inv {cap:Nat→Option CSig}{σ:Im}{k:IntKind}{v:Value}{d:D}(h:Rep cap σ (.int k) v d):∃n,v=.int k n∧d=.v (.int k n)∧k.min≤n∧n≤k.max:=by
 cases h with
 |int k n h1 h2=>exact⟨n,rfl,rfl,h1,h2⟩
theorem Rep.bool_inv {cap:Nat→Option CSig}{σ:Im}{v:Value}{d:D}(h:Rep cap σ .bool v d):∃b,v=.bool b∧d=.v (.bool b):=by
 cases h with
 |bool b=>exact⟨b,rfl,rfl⟩
theorem Rep.str_inv {cap:Nat→Option CSig}{σ:Im}{v:Value}{d:D}(h:Rep cap σ .str v d):∃s,v=.string s∧d=.v (.string s)∧s.size≤maxLen:=by
 cases h with
 |str s h=>exact⟨s,rfl,rfl,h⟩
theorem Rep.slice_inv {cap:Nat→Option CSig}{σ:Im}{e:Ty}{v:Value}{d:D}(h:Rep cap σ (.slice e) v d):∃xs,d=.list xs∧
 (((∃p,v=.slice p 0 0)∧xs=[])∨∃k o c,v=.slice (some ⟨k,o,none⟩) xs.length c∧xs.length≤c∧c≤maxLen∧
   ∃vs:Nat→Value,(∀(i:Nat) (x:D),xs[i]?=some x→Rep cap σ e.unf (vs i) x)∧∀(i j:Nat) (u:Value),i<xs.length→(vs i).cells[j]?=some u→σ.c k (o+i*e.size+j)=some u):=by
 cases h with
 |nil e=>exact⟨[],rfl,.inl ⟨⟨_,rfl⟩,rfl⟩⟩
 |emp e a=>exact⟨[],rfl,.inl ⟨⟨_,rfl⟩,rfl⟩⟩
 |slice e k o n c xs vs hn hc hm h hv hz=>subst hn;exact⟨xs,rfl,.inr ⟨k,o,c,rfl,hc,hm,vs,h,hv⟩⟩
theorem Rep.slice_inv' {cap:Nat→Option CSig}{σ:Im}{e:Ty}{v:Value}{d:D}(h:Rep cap σ (.slice e) v d):∃xs,d=.list xs∧
 (((∃p,v=.slice p 0 0)∧xs=[])∨∃k o c,v=.slice (some ⟨k,o,none⟩) xs.length c∧xs.length≤c∧c≤maxLen∧(e=.int .i64→σ.m k=some mc)∧
   ∃vs:Nat→Value,(∀(i:Nat) (x:D),xs[i]?=some x→Rep cap σ e.unf (vs i) x)∧∀(i j:Nat) (u:Value),i<xs.length→(vs i).cells[j]?=some u→σ.c k (o+i*e.size+j)=some u):=by
 cases h with
 |nil e=>exact⟨[],rfl,.inl ⟨⟨_,rfl⟩,rfl⟩⟩
 |emp e a=>exact⟨[],rfl,.inl ⟨⟨_,rfl⟩,rfl⟩⟩
 |slice e k o n c xs vs hn hc hm h hv hz=>subst hn;exact⟨xs,rfl,.inr ⟨k,o,c,rfl,hc,hm,hz,vs,h,hv⟩⟩
theorem Rep.ref_inv {cap:Nat→Option CSig}{σ:Im}{t:Ty}{v:Value}{d:D}(h:Rep cap σ (.ref t) v d):∃k o x y,v=.pointer (some ⟨k,o,none⟩)∧d=.ref y∧Rep cap σ t x y∧∀(j:Nat) (u:Value),x.cells[j]?=some u→σ.c k (o+j)=some u:=by
 cases h with
 |ref t k o x y h hv=>exact⟨k,o,x,y,rfl,rfl,h,hv⟩
theorem Rep.agg_inv {cap:Nat→Option CSig}{σ:Im}{ts:List Ty}{v:Value}{d:D}(h:Rep cap σ (.agg ts) v d):∃(vs:List Value) (ds:List D),v=.agg vs.toArray∧d=.agg ds∧vs.length=ts.length∧ds.length=ts.length∧
 (∀(i:Nat) (t:Ty),ts[i]?=some t→Rep cap σ t (vs.getD i undef) (ds.getD i .none))∧∀(i:Nat) (t:Ty),ts[i]?=some t→t.one=true:=by
 cases h with
 |agg ts vs ds h1 h2 h ho=>exact⟨vs,ds,rfl,rfl,h1,h2,h,ho⟩
theorem Rep.tup_inv {cap:Nat→Option CSig}{σ:Im}{ts:List Ty}{v:Value}{d:D}(h:Rep cap σ (.tup ts) v d):∃(vs:List Value) (ds:List D),v=.tuple vs.toArray∧d=.tup ds∧vs.length=ts.length∧ds.length=ts.length∧
 (∀(i:Nat) (t:Ty),ts[i]?=some t→Rep cap σ t (vs.getD i undef) (ds.getD i .none)):=by
 cases h with
 |tup ts vs ds h1 h2 h=>exact⟨vs,ds,rfl,rfl,h1,h2,h⟩
theorem tC (k:IntKind)(n:Int):k.min≤k.wrap n∧k.wrap n≤k.max:=by
 cases k<;>simp only[IntKind.min,IntKind.max,IntKind.wrap,IntKind.signed,IntKind.bits]<;>simp<;>(try split)<;>omega
theorem akb (k:IntKind){a b:Int}(ha:k.min≤a∧a≤k.max):k.min≤a.tmod b∧a.tmod b≤k.max:=by
 have h1:k.min≤0:=by cases k<;>decide
 have h2:0≤k.max:=by cases k<;>decide
 have hn:(a.tmod b).natAbs≤a.natAbs:=by rw[Int.natAbs_tmod];exact Nat.mod_le _ _
 rcases Int.le_total 0 a with h|h
 ·have:=Int.tmod_nonneg b h;omega
 ·have:a.tmod b≤0:=by
   have:=Int.tmod_nonneg b (a:=-a) (by omega);rw[Int.neg_tmod] at this;omega
  omega
theorem acF (k:IntKind){a:Int}(n:Nat)(ha:k.min≤a∧a≤k.max):k.min≤a.fdiv (2^n)∧a.fdiv (2^n)≤k.max:=by
 have h1:k.min≤0:=by cases k<;>decide
 have h2:0≤k.max:=by cases k<;>decide
 have hp:(0:Int)<2^n:=Int.pow_pos (by decide);rw[akZ _ (by omega)];rcases Int.le_total 0 a with h|h
 ·have h3:=aaO h (by omega:(0:Int)≤2^n);have h4:=Int.ediv_le_self (b:=2^n) h;omega
 ·have h3:a/2^n≤0:=by
   have:=Int.ediv_le_ediv hp h;simpa using this
  have h4:a≤a/2^n:=by
   rw[Int.le_ediv_iff_mul_le hp];have:a*2^n≤a*1:=Int.mul_le_mul_of_nonpos_left h (by omega);omega
  omega
section
variable {C:Ctx} {S:St} {ρ:Env} {σ:Im} {own:Nat→Option Nat} {hv:Nat→Value} {w0:World} {σ0:Base} {A:Nat→Prop} {a:Act} {w:World} {gs:List (Nat×Bool)} {Φ:aW} {dst:Nat}
theorem wS {e:PE}{ρ':Env}(h:PI.runs Φ [.setR dst e] ρ=some ρ'):ρ'=ρ.setR dst (e.ev ρ):=by
 simp[PI.runs,PI.run] at h;exact h.symm
theorem Xa (hg:holds gs ρ=true){c e:PE}{ρ':Env}(h:PI.runs Φ [sc gs c,.setR dst e] ρ=some ρ'):(c.ev ρ).b=true∧ρ'=ρ.setR dst (e.ev ρ):=by
 simp only[PI.runs,PI.run,sc] at h;cases eC:gs with
 |nil=>
  subst eC;simp only at h;cases hb:(c.ev ρ).b<;>simp[hb] at h;exact⟨rfl,h.symm⟩
 |cons g r=>
  rw[eC] at h;simp only at h;rw[eC] at hg;cases hb:(c.ev ρ).b
  ·simp[PE.ev,hg,hb,D.b_bool] at h
  ·simp[PE.ev,hg,hb,D.b_bool] at h;exact⟨rfl,h.symm⟩
def eK (C:Ctx)(S:St)(ρ:Env)(σ:Im)(hv:Nat→Value)(Φ:aW)(dst:Nat)(a:Act)(w:World)(o:Oper)(r:Sh×List PI):Prop:=
 ∀ρ',PI.runs Φ r.2 ρ=some ρ'→∃v d,ρ'=ρ.setR dst d∧(execOp a.eval o).run C.P w=.ok (.value v) w∧aJ C S ρ σ hv r.1 v d∧∀gs s,r.1≠.opt gs s
theorem eK.dat {o:Oper}{t:Ty}{e:PE}{v:Value}(hx:(execOp a.eval o).run C.P w=.ok (.value v) w)(hr:Rep C.cap σ t v (e.ev ρ)):
 eK C S ρ σ hv Φ dst a w o (.dat t,[.setR dst e]):=by
 intro ρ' h;exact⟨v,e.ev ρ,wS h,hx,hr,fun _ _ e=>by cases e⟩
theorem eK.datc (hg:holds gs ρ=true){o:Oper}{t:Ty}{c e:PE}(hx:(c.ev ρ).b=true→∃v,(execOp a.eval o).run C.P w=.ok (.value v) w∧Rep C.cap σ t v (e.ev ρ)):
 eK C S ρ σ hv Φ dst a w o (.dat t,[sc gs c,.setR dst e]):=by
 intro ρ' h;obtain⟨hb,he⟩:=Xa hg h;obtain⟨v,h1,h2⟩:=hx hb;exact⟨v,e.ev ρ,he,h1,h2,fun _ _ e=>by cases e⟩
theorem ah0 (h:Inv C S ρ σ own hv w0 σ0 A a w)(hC:CtxOK C σ0)(hg:holds gs ρ=true){x:Operand}{r:Sh×List PI}(hr:zo C S gs dst x=some r){o:Oper}(ho:o.op=.move x∨o.op=.assign x):
 eK C S ρ σ hv Φ dst a w o r:=by
 have hx:(execOp a.eval o).run C.P w=.ok (.value (a.eval x)) w:=by rcases ho with ho|ho<;>simp[execOp,ho,Sem.run,pure]
 unfold zo at hr;split at hr
 ·rename_i y hy;cases hr;exact .dat hx (cw h hC hg hy)
 ·split at hr
  ·rename_i t _;obtain⟨hs,hn⟩:=rJ h hg t;split at hr
   ·cases hr
   ·cases hr
   ·cases hr;intro ρ' h';exact⟨_,_,wS h',hx,hs,hn⟩
  ·cases hr
theorem av6 (h:Inv C S ρ σ own hv w0 σ0 A a w)(hC:CtxOK C σ0)(hg:holds gs ρ=true){c x y:Operand}{r:Sh×List PI}(hr:Vh C S gs dst c x y=some r){o:Oper}(ho:o.op=.pick c x y):
 eK C S ρ σ hv Φ dst a w o r:=by
 unfold Vh at hr;split at hr
 ·rename_i t;split at hr
  ·rename_i es;obtain⟨hs,_⟩:=rJ h hg t;rw[es] at hs;obtain⟨b,aL,bB⟩:=Rep.bool_inv hs;simp only[aA] at hr;obtain⟨q1,h1,q2,h2,hr⟩:=hr;cases hb:Ty.beq q1.1 q2.1<;>simp only[hb,cond_true,cond_false] at hr
   ·cases hr
   ·cases hr;have e2:=Ty.beq_eq _ _ hb;have ao:(execOp a.eval o).run C.P w=.ok (.value (if b then a.eval x else a.eval y)) w:=by
     have:a.eval (.tmp t)=.bool b:=aL;simp[execOp,ho,this,asBool,Sem.run,pure,bind,Sem.bind]
    refine .dat ao ?_;show Rep C.cap σ q1.1 _ (bif (ρ.r t).b then q1.2.ev ρ else q2.2.ev ρ);have eB:(ρ.r t).b=b:=by rw[bB];rfl
    cases b with
    |true=>
     simp only[eB,cond_true,if_true];exact cw h hC (by simp only[holds,tJ,eB];exact hg) h1
    |false=>
     simp only[eB,cond_false];rw[e2];exact cw h hC (by simp only[holds,tJ,eB];exact hg) h2
  ·cases hr
 ·cases hr
theorem OB {op:BinOp}{T T':TypeId}{x y:Operand}{v v':Value}{o:Oper}(ho:o.op=.binOp op T x y T')(hv:a.eval x=v)(hv':a.eval y=v')(h1:∀u,v≠.agg u)(h2:v≠.nilIface):
 (execOp a.eval o).run C.P w=((binOp op T v v').bind fun r=>.pure (.value r)).run C.P w:=by
 have he:eqGuard op T x y v v'=.pure ():=by
  cases v<;>first|(exact absurd rfl h2)|(exact absurd rfl (h1 _))|(cases op<;>simp[eqGuard]<;>rfl)
 simp only[execOp,ho,hv,hv',he];rfl
theorem acA {P:Program}{cap:Nat→Option CSig}{σ:Im}{ρ:Env}{x y:PE}(w:World)(d:Nat){t:Ty}{T:TypeId}{v u:Value}{e:PE}(hk:mQ P T t=true)(he:yg t x y=some e)(g1:Rep cap σ t v (x.ev ρ))(g2:Rep cap σ t u (y.ev ρ)):
 ∃b,e.ev ρ=.v (.bool b)∧(Op.equalIn (d+1) T v u).run P w=.ok b w:=by
 cases t with
 |int k=>
  obtain⟨n,v1,d1,_⟩:=g1.int_inv;obtain⟨m,v2,d2,_⟩:=g2.int_inv;simp only[yg,bj] at he;subst he;have hu:∃k',P.underlying T=some (.int k'):=by
   simp only[mQ] at hk;split at hk
   ·exact⟨_,by assumption⟩
   ·cases hk
  obtain⟨k',hu⟩:=hu;exact⟨n==m,by simp only[PE.ev,d1,d2];rfl,by rw[v1,v2];exact run_equalIn_int w d T k k' n m hu⟩
 |bool=>
  obtain⟨n,v1,d1⟩:=g1.bool_inv;obtain⟨m,v2,d2⟩:=g2.bool_inv;simp only[yg,bj] at he;subst he;have hu:P.underlying T=some .bool:=by
   simp only[mQ] at hk;split at hk
   ·assumption
   ·cases hk
  exact⟨n==m,by simp only[PE.ev,d1,d2];rfl,by rw[v1,v2];exact run_equalIn_bool' w d T n m hu⟩
 |str=>
  obtain⟨n,v1,d1,_⟩:=g1.str_inv;obtain⟨m,v2,d2,_⟩:=g2.str_inv;simp only[yg,bj] at he;subst he;have hu:P.underlying T=some .string:=by
   simp only[mQ] at hk;split at hk
   ·assumption
   ·cases hk
  exact⟨n.toList==m.toList,by simp only[PE.ev,d1,d2];rfl,by rw[v1,v2];exact run_equalIn_string w d T n m hu⟩
 |_=>simp[yg] at he
theorem aF4 {P:Program}{cap:Nat→Option CSig}{σ:Im}{ρ:Env}{x y:PE}{X Y:List D}(w:World)(hx:x.ev ρ=.agg X)(hy:y.ev ρ=.agg Y){vs us:List Value}(b d:Nat):
 ∀(fs:List Field) (i:Nat) (ts:List Ty) (e:PE),ye P x y b fs i ts=some e→(∀j t,ts[j]?=some t→Rep cap σ t (vs.getD (i+j) undef) (X.getD (b+i+j) .none)∧Rep cap σ t (us.getD (i+j) undef) (Y.getD (b+i+j) .none))→
  i+ts.length≤vs.length→i+ts.length≤us.length→
  ∃b,e.ev ρ=.v (.bool b)∧(Op.eqFields (d+1) vs.toArray us.toArray fs).run P w=.ok b w:=by
 intro fs
 induction fs with
 |nil=>
  intro i ts e h _ _ _;cases ts with
  |nil=>simp only[ye,bj] at h;subst h;exact⟨true,rfl,rfl⟩
  |cons t ts=>simp[ye] at h
 |cons f fs ih=>
  intro i ts e h hr l1 l2;cases ts with
  |nil=>simp[ye] at h
  |cons t ts=>
   simp only[ye] at h;cases hc:((f.name != "_")&&Nat.beq f.offset i&&mQ P f.type t&&P.plainKey f.type)<;>simp only[hc,cond_true,cond_false] at h
   ·cases h
   simp only[aw,bne_iff_ne,ne_eq] at hc;obtain⟨⟨⟨hn,ho⟩,hk⟩,hp⟩:=hc;have ho:=aD ho;simp only[aA,aC] at h;obtain⟨e1,yz,r,pq,rfl⟩:=h
   obtain⟨b2,dG,To⟩:=ih (i+1) ts r pq (fun j t hj=>by
        have:=hr (j+1) t (by simpa using hj)
        rwa [show i+(j+1)=i+1+j by omega,show b+i+(j+1)=b+(i+1)+j by omega] at this) (by simp at l1;omega) (by simp at l2;omega)
   obtain⟨g1,g2⟩:=hr 0 t rfl;rw[mq,mq] at g1 g2;simp only[oL] at l1 l2;have vT:vs.toArray[f.offset]?=some (vs.getD i undef):=by rw[ho];simp[aI,show i<vs.length by omega]
   have Tw:us.toArray[f.offset]?=some (us.getD i undef):=by rw[ho];simp[aI,show i<us.length by omega]
   have p1:=run_part_plain (P:=P) (w:=w) hp vT;have p2:=run_part_plain (P:=P) (w:=w) hp Tw;have ex:(PE.cell x (b+i)).ev ρ=X.getD (b+i) .none:=by simp only[PE.ev,hx];rfl
   have ey:(PE.cell y (b+i)).ev ρ=Y.getD (b+i) .none:=by simp only[PE.ev,hy];rfl
   obtain⟨b1,jF,sN⟩:=acA (P:=P) w d (ρ:=ρ) hk yz (by rw[ex];exact g1) (by rw[ey];exact g2);refine⟨b1&&b2,by simp only[PE.ev,jF,dG];rfl,?_⟩;simp only[Op.eqFields,if_pos hn,Sem.run_bind,p1,p2,sN,Result.andThen_ok];cases b1
   ·rfl
   ·simpa using To
theorem aot {P:Program}{cap:Nat→Option CSig}{σ:Im}{ρ:Env}{x y:PE}{X Y:List D}(w:World)(hx:x.ev ρ=.agg X)(hy:y.ev ρ=.agg Y){vs us:List Value}(d:Nat):
 ∀(fs:List Field) (i:Nat) (ts:List Ty) (e:PE),yf P x y fs i ts=some e→(∀j t,ts[j]?=some t→Rep cap σ t (vs.getD (i+j) undef) (X.getD (i+j) .none)∧Rep cap σ t (us.getD (i+j) undef) (Y.getD (i+j) .none))→
  i+ts.length≤vs.length→i+ts.length≤us.length→
  ∃b,e.ev ρ=.v (.bool b)∧(Op.eqFields (d+2) vs.toArray us.toArray fs).run P w=.ok b w:=by
 intro fs
 induction fs with
 |nil=>
  intro i ts e h _ _ _;cases ts with
  |nil=>simp only[yf,bj] at h;subst h;exact⟨true,rfl,rfl⟩
  |cons t ts=>simp[yf] at h
 |cons f fs ih=>
  intro i ts e h hr l1 l2;unfold yf at h;split at h
  ·rename_i n cf;cases cf
  ·split at h
   ·rename_i t ts;cases hc:((f.name != "_")&&Nat.beq f.offset i&&mQ P f.type t&&P.plainKey f.type)<;>simp only[hc,cond_true,cond_false] at h
    ·cases h
    simp only[aw,bne_iff_ne,ne_eq] at hc;obtain⟨⟨⟨hn,ho⟩,hk⟩,hp⟩:=hc;have ho:=aD ho;simp only[aA,aC] at h;obtain⟨e1,yz,r,pq,rfl⟩:=h
    obtain⟨b2,dG,To⟩:=ih (i+1) ts r pq (fun j t hj=>by
     have:=hr (j+1) t (by simpa using hj)
     rwa [show i+(j+1)=i+1+j by omega] at this) (by simp at l1;omega) (by simp at l2;omega)
    obtain⟨g1,g2⟩:=hr 0 t rfl;rw[mq] at g1 g2;simp only[oL] at l1 l2;have vT:vs.toArray[f.offset]?=some (vs.getD i undef):=by rw[ho];simp[aI,show i<vs.length by omega]
    have Tw:us.toArray[f.offset]?=some (us.getD i undef):=by rw[ho];simp[aI,show i<us.length by omega]
    have p1:=run_part_plain (P:=P) (w:=w) hp vT;have p2:=run_part_plain (P:=P) (w:=w) hp Tw;have ex:(PE.cell x i).ev ρ=X.getD i .none:=by simp only[PE.ev,hx];rfl
    have ey:(PE.cell y i).ev ρ=Y.getD i .none:=by simp only[PE.ev,hy];rfl
    obtain⟨b1,jF,sN⟩:=acA (P:=P) w (d+1) (ρ:=ρ) hk yz (by rw[ex];exact g1) (by rw[ey];exact g2);refine⟨b1&&b2,by simp only[PE.ev,jF,dG];rfl,?_⟩;simp only[Op.eqFields,if_pos hn,Sem.run_bind,p1,p2,sN,Result.andThen_ok];cases b1
    ·rfl
    ·simpa using To
   ·cases h
theorem avT (h:Inv C S ρ σ own hv w0 σ0 A a w)(hC:CtxOK C σ0)(hg:holds gs ρ=true){op:BinOp}{T T':TypeId}{x y:Operand}{r:Sh×List PI}(hr:U5 C S gs dst op T x y=some r){o:Oper}(ho:o.op=.binOp op T x y T'):
 eK C S ρ σ hv Φ dst a w o r:=by
 simp only[U5,aA] at hr;obtain⟨p,hp,q,hq,hr⟩:=hr;have aV:=cw h hC hg hp;have dI:=cw h hC hg hq;split at hr
 ·rename_i k k' e1 e2;rw[e1] at aV;rw[e2] at dI;obtain⟨n,aL,bB,b1,b2⟩:=aV.int_inv;obtain⟨m,gq,dR,b3,b4⟩:=dI.int_inv;have ao:=OB (C:=C) (w:=w) ho aL gq (by intro u e;cases e) (by intro e;cases e);cases oa:(op==.shl||op==.shr)<;>simp only[oa,cond_true,cond_false] at hr
  ·cases vF:(k==k')<;>simp only[vF,cond_true,cond_false] at hr
   ·cases hr
   ·have Sy:k=k':=by simpa using vF
    subst Sy;cases yM:(op==.quo||op==.rem)<;>simp only[yM,cond_true,cond_false] at hr
    ·cases har:Jf op<;>simp only[har,cond_true,cond_false] at hr
     ·cases nT:BE op<;>simp only[nT,cond_true,cond_false] at hr
      ·cases hr
      ·cases hr;refine .dat (v:=.bool (jD op n m)) ?_ ?_
       ·rw[ao];cases op<;>simp_all [BE]<;>simp[binOp,Op.intCmp,jD,Sem.run,pure,Sem.bind]
       ·simp only[PE.ev,bB,dR,D.i_int];exact .bool _
     ·cases hr;refine .dat (v:=.int k (bX op k n m)) ?_ ?_
      ·rw[ao];cases op<;>simp_all [Jf]<;>simp[binOp,Op.intArith,Op.intBits,bX,Sem.run,pure,Sem.bind]
      ·simp only[PE.ev,bB,dR,D.i_int];refine .int _ _ ?_ ?_<;>(cases op<;>simp_all [Jf]<;>first|exact(tC _ _).1|exact(tC _ _).2)
    ·cases hr;refine .datc hg fun hc=>⟨.int k (bX op k n m),?_,?_⟩
     ·have ay:m≠0:=by simpa [PE.ev,dR,D.i_int,D.b_bool,jD,D.int] using hc
      rw[ao];rcases(by simpa using yM:op=.quo∨op=.rem) with rfl|rfl<;>simp[binOp,Op.intDiv,bX,Sem.run,pure,Sem.bind,ay]
     ·simp only[PE.ev,bB,dR,D.i_int];cases op<;>simp_all
      ·exact .int _ _ (tC _ _).1 (tC _ _).2
      ·exact .int _ _ (akb k ⟨b1,b2⟩).1 (akb k ⟨b1,b2⟩).2
  ·cases hr;refine .datc hg fun hc=>⟨.int k (bX op k n m),?_,?_⟩
   ·have ay:¬m<0:=by
     have:0≤m:=by simpa [PE.ev,dR,D.i_int,D.b_bool,jD,D.int] using hc
     omega
    rw[ao];rcases(by simpa using oa:op=.shl∨op=.shr) with rfl|rfl<;>simp[binOp,Op.shift,bX,Sem.run,pure,Sem.bind,ay]
   ·simp only[PE.ev,bB,dR,D.i_int];cases op<;>simp_all
    ·exact .int _ _ (tC _ _).1 (tC _ _).2
    ·exact .int _ _ (acF k _ ⟨b1,b2⟩).1 (acF k _ ⟨b1,b2⟩).2
 ·rename_i e1 e2;rw[e1] at aV;rw[e2] at dI;obtain⟨n,aL,bB⟩:=aV.bool_inv;obtain⟨m,gq,dR⟩:=dI.bool_inv;have ao:=OB (C:=C) (w:=w) ho aL gq (by intro u e;cases e) (by intro e;cases e);cases eE:((op==.eql||op==.neq)&&TP C.P T)<;>simp only[eE,cond_true,cond_false] at hr
  ·cases hr
  ·cases hr;simp only[aw] at eE;obtain⟨eE,hT⟩:=eE;have B0:C.P.underlying T=some .bool:=by
        unfold TP at hT;split at hT
        ·assumption
        ·cases hT
   have heq:(Op.equal T (.bool n) (.bool m)).run C.P w=.ok (n==m) w:=by
        have:∀d,(Op.equalIn (d+1) T (.bool n) (.bool m)).run C.P w=.ok (n==m) w:=fun d=>by simp[Op.equalIn,run_underlying B0]
        exact this 9999
   refine .dat (v:=.bool (BD op n m)) ?_ ?_
   ·rw[ao];rcases(by simpa using eE:op=.eql∨op=.neq) with rfl|rfl<;>simp[binOp,BD,heq,Sem.run_bind']
   ·simp only[PE.ev,bB,dR,D.b_bool];exact .bool _
 ·rename_i e1 e2;rw[e1] at aV;rw[e2] at dI;obtain⟨n,aL,bB,_⟩:=aV.str_inv;obtain⟨m,gq,dR,_⟩:=dI.str_inv;have ao:=OB (C:=C) (w:=w) ho aL gq (by intro u e;cases e) (by intro e;cases e);cases eE:BE op<;>simp only[eE,cond_true,cond_false] at hr
  ·cases hr
  ·cases hr;refine .dat (v:=.bool (BF op n m)) ?_ ?_
   ·rw[ao];cases op<;>simp_all [BE]<;>simp[binOp,Op.stringOp,BF,Sem.run,pure,Sem.bind]
   ·simp only[PE.ev,bB,dR,D.s_str];exact .bool _
 ·rename_i e e' e1 e2;rw[e1] at aV;rw[e2] at dI;split at hr
  case h_2=>cases hr
  rename_i E hT;cases eE:(op==.eql||op==.neq)<;>simp only[eE,cond_true,cond_false] at hr
  ·cases hr
  cases hr;obtain⟨n,xs,aL,bB,ar5⟩:∃(n:Bool) (xs:List D),(n=true∧a.eval x=.slice none 0 0∨n=false∧∃k o m c,a.eval x=.slice (some ⟨k,o,none⟩) m c)∧p.2.ev ρ=.list xs∧n=decide (xs=[]):=by
   generalize a.eval x=vv at aV;generalize p.2.ev ρ=dd at aV;cases aV with
   |nsl0=>exact⟨true,[],.inl ⟨rfl,rfl⟩,rfl,rfl⟩
   |nsl _ k o m c xs h hx=>exact⟨false,xs,.inr ⟨rfl,k,o,m,c,rfl⟩,rfl,by simp[hx]⟩
  have gq:a.eval y=.slice none 0 0:=by
   generalize a.eval y=vv at dI;generalize q.2.ev ρ=dd at dI;cases dI;rfl
  have heq:(Op.equal T (a.eval x) (a.eval y)).run C.P w=.ok n w:=by
   have:∀d,(Op.equalIn (d+1) T (a.eval x) (a.eval y)).run C.P w=.ok n w:=fun d=>by
        rw[gq];rcases aL with⟨rfl,h1⟩|⟨rfl,k,o,m,c,h1⟩<;>rw[h1]<;>simp[Op.equalIn,run_underlying hT]
   exact this 9999
  have ao:=OB (C:=C) (w:=w) ho rfl rfl (by
   intro u e;rcases aL with⟨_,h1⟩|⟨_,k,o,m,c,h1⟩<;>rw[h1] at e<;>cases e) (by
   intro e;rcases aL with⟨_,h1⟩|⟨_,k,o,m,c,h1⟩<;>rw[h1] at e<;>cases e)
  refine .dat (v:=.bool (jD op xs.length 0)) ?_ ?_
  ·have ay:∀(y:D) (ys:List D),¬((ys.length:Int)+1=0):=fun y ys=>by omega
   rw[ao,gq];rw[gq] at heq;rcases aL with⟨_,h1⟩|⟨_,k,o,m,c,h1⟩<;>rw[h1] at heq ⊢<;>rcases(by simpa using eE:op=.eql∨op=.neq) with rfl|rfl<;>cases xs<;>simp[binOp,heq,Sem.run_bind',jD,ar5]<;>(try omega)
  ·simp only[PE.ev,bB,D.l_list,D.int,D.i_int];exact .bool _
 ·rename_i ts us e1 e2;rw[e1] at aV;rw[e2] at dI;cases eE:((op==.eql||op==.neq)&&Ty.beqs ts us&&Ry C.P T)<;>simp only[eE,cond_true,cond_false] at hr
  ·cases hr
  simp only[aw] at eE;obtain⟨⟨eE,Cq⟩,df⟩:=eE;have:=Ty.beqs_eq _ _ Cq;subst this;simp only[Ry,aw,mi] at df;obtain⟨⟨aey,asS⟩,asT⟩:=df;have B9:C.P.underlying T=some (.struct (C.P.fieldsOf T)):=by
   unfold Program.fieldsOf;split at aey
   ·rename_i fs hu;rw[hu]
   ·cases aey
  simp only[aC] at hr;obtain⟨e,he,rfl⟩:=hr;obtain⟨vs,ds,aL,bB,l1,l2,aO,_⟩:=aV.agg_inv;obtain⟨zX,ds',gq,dR,l3,l4,ux,_⟩:=dI.agg_inv
  obtain⟨b,hb,ao⟩:=aot (P:=C.P) (cap:=C.cap) (σ:=σ) (ρ:=ρ) w bB dR (vs:=vs) (us:=zX) 9997 _ 0 ts e he (fun j t hj=>by
   rw[je];exact⟨aO j t hj,ux j t hj⟩) (by omega) (by omega)
  have heq:(Op.equalIn 10000 T (.agg vs.toArray) (.agg zX.toArray)).run C.P w=.ok b w:=by
   rw[run_equalIn_struct w 9999 T _ _ B9 asS];exact ao
  have nV:=run_eqGuard_agg (P:=C.P) (w:=w) op T x y vs.toArray zX.toArray asT
  have adF:(execOp a.eval o).run C.P w=((binOp op T (.agg vs.toArray) (.agg zX.toArray)).run C.P w).andThen fun r w'=>.ok (.value r) w':=by
   simp only[execOp,ho,aL,gq,Sem.run_bind,nV,Result.andThen_ok];rfl
  rcases(by simpa using eE:op=.eql∨op=.neq) with rfl|rfl
  ·refine .dat (v:=.bool b) ?_ ?_
   ·rw[adF,run_eql_struct,heq];rfl
   ·show Rep _ _ .bool _ (PE.ev ρ e);rw[hb];exact .bool _
  ·refine .dat (v:=.bool (!b)) ?_ ?_
   ·rw[adF,run_neq_struct,heq];rfl
   ·show Rep _ _ .bool _ (PE.ev ρ (.nt e));simp only[PE.ev,hb];exact .bool _
 ·cases hr
theorem av9 (h:Inv C S ρ σ own hv w0 σ0 A a w)(hC:CtxOK C σ0)(hg:holds gs ρ=true){op:UnOp}{T:TypeId}{x:Operand}{r:Sh×List PI}(hr:Vj C S gs dst op x=some r){o:Oper}(ho:o.op=.unOp op T x):
 eK C S ρ σ hv Φ dst a w o r:=by
 simp only[Vj,aA] at hr;obtain⟨p,hp,hr⟩:=hr;have aV:=cw h hC hg hp;split at hr
 ·rename_i k e1;rw[e1] at aV;obtain⟨n,aL,bB,b1,b2⟩:=aV.int_inv;cases hr;refine .dat (v:=.int k (bX .sub k 0 n)) ?_ ?_
  ·simp[execOp,ho,aL,Op.unary,Op.intArith,bX,Sem.run,pure,bind,Sem.bind]
  ·simp only[PE.ev,bB,D.i_int];exact .int _ _ (tC _ _).1 (tC _ _).2
 ·rename_i e1;rw[e1] at aV;obtain⟨n,aL,bB⟩:=aV.bool_inv;cases hr;refine .dat (v:=.bool (!n)) ?_ ?_
  ·simp[execOp,ho,aL,Op.unary,Sem.run,pure,bind,Sem.bind]
  ·simp only[PE.ev,bB,D.b_bool];exact .bool _
 ·cases hr
theorem avV (h:Inv C S ρ σ own hv w0 σ0 A a w)(hC:CtxOK C σ0)(hg:holds gs ρ=true){s d:TypeId}{x:Operand}{r:Sh×List PI}(hr:U7 C S gs dst s d x=some r){o:Oper}(ho:o.op=.convert s d x):
 eK C S ρ σ hv Φ dst a w o r:=by
 simp only[U7,aA] at hr;obtain⟨p,hp,hr⟩:=hr;have aV:=cw h hC hg hp;split at hr
 ·rename_i k0 k k1 u1 u2 e1;rw[e1] at aV;obtain⟨n,aL,bB,b1,b2⟩:=aV.int_inv;cases hr;refine .dat (v:=.int k (k.wrap n)) ?_ ?_
  ·simp[execOp,ho,aL,convert,run_underlying u1,run_underlying u2,Conv.intToInt]
  ·simp only[PE.ev,bB,D.i_int];exact .int _ _ (tC _ _).1 (tC _ _).2
 ·rename_i u1 u2 e1;rw[e1] at aV;obtain⟨n,aL,bB,b1⟩:=aV.str_inv;cases hr;refine .dat (v:=.string n) ?_ ?_
  ·simp[execOp,ho,aL,convert,run_underlying u1,run_underlying u2]
  ·rw[bB];exact .str _ b1
 ·cases hr
end
end Cx
namespace Cx
open Go Go.RowKit
theorem wj {n:Nat}(h:n≤maxLen):IntKind.i64.min≤(n:Int)∧(n:Int)≤IntKind.i64.max:=by
 simp only[maxLen] at h;simp only[IntKind.min,IntKind.max,IntKind.signed,IntKind.bits];simp;omega
section
variable {C:Ctx} {S:St} {ρ:Env} {σ:Im} {own:Nat→Option Nat} {hv:Nat→Value} {w0:World} {σ0:Base} {A:Nat→Prop} {a:Act} {w:World} {gs:List (Nat×Bool)} {Φ:aW} {dst:Nat}
def P1 (C:Ctx)(σ:Im)(w:World)(B:Nat)(t:Ty)(v:Value)(d:D):Prop:=
 Rep C.cap σ t v d∨
 (∃T e cells xs,t=.slice e.rol∧d=.list xs∧w.ownsRow B T e.size v xs.length cells∧dy C.cap σ e cells xs)∨
 (∃k arr clock es kt et,t=.map kt et∧v=.map (some k)∧w.heap[k]?=some (.map arr clock)∧d=.map es∧es.length=arr.size∧es.length≤maxLen∧
    ∀(i:Nat) (e:MapEntry) (p:D×D),arr[i]?=some e→es[i]?=some p→Rep C.cap σ kt e.key p.1∧Rep C.cap σ et e.val p.2)
theorem aam (h:Inv C S ρ σ own hv w0 σ0 A a w)(hC:CtxOK C σ0)(hg:holds gs ρ=true){x:Operand}{r:Ty×PE}(hu:view C S gs x=some r):P1 C σ w w0.heap.size r.1 (a.eval x) (r.2.ev ρ):=by
 unfold view at hu;split at hu
 ·rename_i r' nZ;cases hu;exact .inl (cw h hC hg nZ)
 ·split at hu
  ·rename_i t _;obtain⟨hs,_⟩:=rJ h hg t;split at hu
   ·rename_i j ver e;rw[e] at hs;cases hb:Nat.beq ver (S.ver j)<;>simp only[hb,cond_true,cond_false] at hu
    ·cases hu
    ·have ed:=aD hb;have ho:=h.objs j;have cT:a.eval (.tmp t)=hv j:=hs.2 ed;split at hu
     ·rename_i T e eo;rw[eo] at ho;cases hu;obtain⟨cells,xs,h1,h2,h3,h4⟩:=ho;rw[cT];exact .inr (.inl ⟨T,e,cells,xs,rfl,h1,h2,h3⟩)
     ·rename_i kt et eo;rw[eo] at ho;cases hu;obtain⟨k,arr,clock,es,h1,h2,h3,h4,h5,⟨hx,_⟩,h6⟩:=ho;rw[cT];exact .inr (.inr ⟨k,arr,clock,es,kt,et,rfl,h1,h3,h4,h5,hx,h6⟩)
     ·cases hu
   ·cases hu
  ·cases hu
theorem zu {w:World}{B e size n:Nat}{v:Value}{cells:List Value}(h:w.ownsRow B e size v n cells):∃b c,v=.slice b n c∧n≤maxLen∧n≤c:=by
 rcases h.2 with⟨rfl,rfl⟩|⟨g,cap,cur,rfl,h1,h2,h3,h4,h5⟩
 ·exact⟨none,0,rfl,by decide,bn _⟩
 ·exact⟨_,cap,rfl,dO h3 h4,h3⟩
theorem W8 {b:Builtin}{args:Array Operand}{ts:Array TypeId}{o:Oper}(ho:o.op=.call {callee:=.builtin b,args:=args,argTypes:=ts}):
 ∃cs,(execOp a.eval o).run C.P w=(builtin b ts o.type cs (args.map a.eval)).run C.P w:=
 ⟨_,by simp only[execOp,ho,resolve,invoke];rfl⟩
theorem av2 (h:Inv C S ρ σ own hv w0 σ0 A a w)(hC:CtxOK C σ0)(hg:holds gs ρ=true){T:TypeId}{x:Operand}{r:Sh×List PI}(hr:Ve C S gs dst T x=some r){o:Oper}
 (ho:o.op=.call {callee:=.builtin .len,args:=#[x],argTypes:=#[T]}):eK C S ρ σ hv Φ dst a w o r:=by
 simp only[Ve,aA] at hr;obtain⟨p,hp,hr⟩:=hr;have aV:=aam h hC hg hp;obtain⟨cs,ao⟩:=W8 (C:=C) (w:=w) (a:=a) ho;split at hr
 ·rename_i e T' e1 e2;rw[e1] at aV;cases hr;have hx:∃b n c xs,a.eval x=.slice b n c∧p.2.ev ρ=.list xs∧xs.length=n∧n≤maxLen:=by
   rcases aV with aV|⟨T,e,cells,xs,ht,hd,bC,du⟩|⟨k,arr,clock,es,kt,et,ht,_⟩
   ·obtain⟨xs,hd,⟨⟨p0,aL⟩,rfl⟩|⟨k,o,c,aL,h1,h2,_⟩⟩:=aV.slice_inv
    ·exact⟨p0,0,0,[],aL,hd,rfl,by decide⟩
    ·exact⟨_,_,c,xs,aL,hd,rfl,by omega⟩
   ·obtain⟨b,c,aL,h1,_⟩:=zu bC;exact⟨b,_,c,xs,aL,hd,rfl,h1⟩
   ·cases ht
  obtain⟨b,n,c,xs,aL,hd,hl,hm⟩:=hx;refine .dat (v:=.int .i64 n) ?_ ?_
  ·rw[ao];simp[builtin,Builtin.len_,aL,run_underlying e2,goInt]
  ·simp only[PE.ev,hd,D.l_list,hl];exact .int _ _ (wj hm).1 (wj hm).2
 ·rename_i e T' e1 e2;rw[e1] at aV;cases hr;rcases aV with aV|⟨T,e,cells,xs,ht,_⟩|⟨k,arr,clock,es,kt,et,ht,_⟩
  ·generalize yW:a.eval x=v at aV;generalize Fu:p.2.ev ρ=d at aV;cases aV;refine .dat (v:=.int .i64 0) ?_ ?_
   ·rw[ao];simp[builtin,Builtin.len_,yW,run_underlying e2,goInt]
   ·simp only[PE.ev,Fu,D.l_list];exact .int _ _ (by decide) (by decide)
  ·cases ht
  ·cases ht
 ·rename_i e1 e2;rw[e1] at aV;cases hr;rcases aV with aV|⟨T,e,cells,xs,ht,_⟩|⟨k,arr,clock,es,kt,et,ht,_⟩
  ·obtain⟨n,aL,bB,hm⟩:=aV.str_inv;refine .dat (v:=.int .i64 n.size) ?_ ?_
   ·rw[ao];simp[builtin,Builtin.len_,aL,run_underlying e2,goInt]
   ·simp only[PE.ev,bB,D.s_str];exact .int _ _ (wj hm).1 (wj hm).2
  ·cases ht
  ·cases ht
 ·rename_i k0 e0 a0 b0 e1 e2;rw[e1] at aV;cases hr;rcases aV with aV|⟨T,e,cells,xs,ht,_⟩|⟨k,arr,clock,es,kt,et,ht,aL,hb,bB,hl,hx,_⟩
  ·generalize yW:a.eval x=v at aV;generalize Fu:p.2.ev ρ=d at aV;cases aV with
   |mapnil=>
    refine .dat (v:=.int .i64 0) ?_ ?_
    ·rw[ao];simp[builtin,Builtin.len_,yW,run_underlying e2,goInt]
    ·simp only[PE.ev,Fu,D.m];exact .int _ _ (by decide) (by decide)
   |map kt et r ic es hm hl hx hk _=>
    obtain⟨arr,clock,hb,lg⟩:=(h.ok.m _ _ hm).mp (Gy hl hk) (af6 hl hk);have hn:arr.size=es.length:=by rw[hl,←lg];simp[entriesOf]
    refine .dat (v:=.int .i64 arr.size) ?_ ?_
    ·rw[ao];simp[builtin,Builtin.len_,yW,run_underlying e2,goInt,getObj,Sem.run,hb]
    ·simp only[PE.ev,Fu,D.m,hn];exact .int _ _ (wj hx).1 (wj hx).2
  ·cases ht
  ·refine .dat (v:=.int .i64 arr.size) ?_ ?_
   ·rw[ao];simp[builtin,Builtin.len_,aL,run_underlying e2,goInt,getObj,Sem.run,hb]
   ·simp only[PE.ev,bB,D.m,hl];exact .int _ _ (wj (hl▸hx)).1 (wj (hl▸hx)).2
 ·cases hr
theorem ahZ (h:Inv C S ρ σ own hv w0 σ0 A a w)(hC:CtxOK C σ0)(hg:holds gs ρ=true){mx:Bool}{x y:Operand}{ts:Array TypeId}{r:Sh×List PI}(hr:M6 C S gs dst mx x y=some r){o:Oper}
 (ho:o.op=.call {callee:=.builtin (bif mx then .max else .min),args:=#[x,y],argTypes:=ts}):eK C S ρ σ hv Φ dst a w o r:=by
 simp only[M6,aA] at hr;obtain⟨p,hp,q,hq,hr⟩:=hr;have aV:=cw h hC hg hp;have dI:=cw h hC hg hq;obtain⟨cs,ao⟩:=W8 (C:=C) (w:=w) (a:=a) ho;split at hr
 ·rename_i k k' e1 e2;rw[e1] at aV;rw[e2] at dI;obtain⟨n,aL,bB,b1,b2⟩:=aV.int_inv;obtain⟨m,gq,dR,b3,b4⟩:=dI.int_inv;cases vF:(k==k')<;>simp only[vF,cond_true,cond_false] at hr
  ·cases hr
  ·have Sy:k=k':=by simpa using vF
   subst Sy;cases hr;cases mx with
   |true=>
    refine .dat (v:=.int k (if m>n then m else n)) ?_ ?_
    ·rw[ao];simp[builtin,Builtin.max_,Builtin.max2,aL,gq]
    ·simp only[cond_true,PE.ev,bB,dR,D.i_int];by_cases af:m>n<;>simp[af]<;>constructor<;>assumption
   |false=>
    refine .dat (v:=.int k (if m<n then m else n)) ?_ ?_
    ·rw[ao];simp[builtin,Builtin.min_,Builtin.min2,aL,gq]
    ·simp only[cond_false,PE.ev,bB,dR,D.i_int];by_cases af:m<n<;>simp[af]<;>constructor<;>assumption
 ·cases hr
theorem avW (h:Inv C S ρ σ own hv w0 σ0 A a w)(hC:CtxOK C σ0)(hg:holds gs ρ=true){x:Operand}{i:Nat}{r:Sh×List PI}(hr:U8 C S gs dst x i=some r){o:Oper}(ho:o.op=.extract x i):
 eK C S ρ σ hv Φ dst a w o r:=by
 simp only[U8,aA] at hr;obtain⟨p,hp,hr⟩:=hr;have aV:=cw h hC hg hp;split at hr
 ·rename_i ts e1;rw[e1] at aV;simp only[aC] at hr;obtain⟨t,ht,rfl⟩:=hr;obtain⟨vs,ds,aL,bB,l1,l2,aO⟩:=aV.tup_inv;have hi:i<vs.length:=by rw[l1];exact(fe.1 ht).1
  refine .dat (v:=vs.getD i undef) ?_ ?_
  ·obtain⟨u,hu⟩:∃u,vs[i]?=some u:=⟨_,aX hi⟩
   have nV:vs.getD i undef=u:=by rw[aI,hu];rfl
   rw[nV];simp[execOp,ho,aL,Instr.extract,hu]
  ·simp only[PE.ev,bB];exact aO i t ht
 ·cases hr
end
end Cx
namespace Cx
open Go Go.RowKit
theorem vZ {P:Program}{T:TypeId}{ag:Bool}(h:qZ P T=some ag)(w:World):(isAgg T).run P w=.ok ag w:=by
 unfold qZ at h;split at h
 ·rename_i fs hu;cases h;simp[isAgg,run_underlying hu]
 ·rename_i n e hu;cases h;simp[isAgg,run_underlying hu]
 ·rename_i d h1 h2 hu;cases h;cases d<;>simp_all [isAgg,run_underlying hu]
 ·cases h
theorem tX (k o n:Nat):(⟨k,o,none⟩:Addr).add n=⟨k,o+n,none⟩:=by
 unfold Addr.add;split<;>simp_all
theorem Ij {P:Program}{T:TypeId}{inf:TypeInfo}{ag:Bool}{w:World}{k o:Nat}{cs:List Value}(hi:P.info? T=some inf)(ha:qZ P T=some ag)(hl:cs.length=inf.size)
 (h1:ag=false→cs.length=1) (hc:∀j u,cs[j]?=some u→w.cell? ⟨k,o+j,none⟩=some u):(loadVar T ⟨k,o,none⟩).run P w=.ok (rowOf ag cs) w:=by
 cases ag with
 |true=>
  have:=run_loadCells_list (P:=P) w ⟨k,o,none⟩ cs (fun j v hv=>by rw[tX];exact hc j v hv);rw[hl] at this;simp[loadVar,vZ ha,Go.sizeOf,run_typeInfo w hi,this,rowOf]
 |false=>
  obtain⟨u,hu⟩:∃u,cs=[u]:=by
   have:=h1 rfl
   match cs,this with
   |[u],_=>exact⟨u,rfl⟩
  subst hu;have h0:=hc 0 u rfl;simp only[mq] at h0;simp[loadVar,vZ ha,rowOf,run_load,h0]
section
variable {C:Ctx} {S:St} {ρ:Env} {σ:Im} {own:Nat→Option Nat} {hv:Nat→Value} {w0:World} {σ0:Base} {A:Nat→Prop} {a:Act} {w:World} {gs:List (Nat×Bool)} {Φ:aW} {dst:Nat}
theorem wR {o:Oper}{T:TypeId}{x:Operand}{v:Value}{k off:Nat}(ho:o.op=.load T x)(hx:a.eval x=.pointer (some ⟨k,off,none⟩))(hl:(loadVar T ⟨k,off,none⟩).run C.P w=.ok v w):
 (execOp a.eval o).run C.P w=.ok (.value v) w:=by
 simp[execOp,ho,Instr.loadAt,hx,Instr.sureAddr,hl]
theorem uo {α:Type}{l:List α}{i:Nat}{x d:α}(h:l[i]?=some x):l.getD i d=x:=by
 rw[aI,h];rfl
theorem Nc {cap:Nat→Option CSig}{ts:List Ty}{vs:List Value}{ds:List D}{ag:Bool}{n off:Nat}{ty:Ty}(hp:wz ag n ts off=some ty)
 (h1:vs.length=ts.length) (h2:ds.length=ts.length) (hr:∀(i:Nat) (t:Ty),ts[i]?=some t→Rep cap σ t (vs.getD i undef) (ds.getD i .none)) (ho:∀(i:Nat) (t:Ty),ts[i]?=some t→t.one=true):
 Rep cap σ ty (rowOf ag ((vs.drop off).take n)) (bif ag then .agg ((ds.drop off).take n) else ds.getD off .none)∧((vs.drop off).take n).length=n∧(ag=false→n=1):=by
 unfold wz at hp;cases hle:Nat.ble (off+n) ts.length<;>simp only[hle,cond_true,cond_false] at hp
 ·cases hp
 ·have ph:=lQ hle;have hlen:((vs.drop off).take n).length=n:=by simp;omega
  cases ag with
  |true=>
   simp only[cond_true] at hp;cases hp;refine⟨?_,hlen,fun e=>by cases e⟩;simp only[rowOf,if_true,cond_true];refine .agg _ _ _ (by simp;omega) (by simp;omega) (fun i t hi=>?_) (fun i t hi=>?_)
   ·simp only[iI,jb] at hi;split at hi
    ·rename_i cf;have:=hr (off+i) t hi;simpa [aI,iI,jb,cf] using this
    ·cases hi
   ·simp only[iI,jb] at hi;split at hi
    ·exact ho _ t hi
    ·cases hi
  |false=>
   simp only[cond_false] at hp;cases hn:Nat.beq n 1<;>simp only[hn,cond_true,cond_false] at hp
   ·cases hp
   ·have kC:=aD hn;subst kC;refine⟨?_,hlen,fun _=>rfl⟩;have:=hr off ty hp;have af:off<vs.length:=by omega
    simpa [rowOf,aI,iI,jb] using this
theorem Nb {ag:Bool}{n:Nat}{e:PE}{off:Nat}{ds:List D}(h:e.ev ρ=.agg ds):(CS ag n e off).ev ρ=bif ag then .agg ((ds.drop off).take n) else ds.getD off .none:=by
 cases ag<;>simp[CS,PE.ev,h,D.cells,D.c]
theorem Inv.cell (h:Inv C S ρ σ own hv w0 σ0 A a w){k o:Nat}{u:Value}(hc:σ.c k o=some u):w.cell? ⟨k,o,none⟩=some u:=h.ok.c _ _ _ hc
theorem Rep.rowOf {cap:Nat→Option CSig}{t:Ty}{v:Value}{d:D}(h:Rep cap σ t v d):v=Cx.rowOf t.rowT v.cells.toList:=by
 cases h<;>simp[Cx.rowOf,Ty.rowT,Value.cells]
theorem Rep.cells1 {cap:Nat→Option CSig}{t:Ty}{v:Value}{d:D}(h:Rep cap σ t v d)(ht:t.rowT=false):v.cells=#[v]:=by
 cases h<;>simp_all [Ty.rowT,Value.cells]
theorem av3 (h:Inv C S ρ σ own hv w0 σ0 A a w){T:TypeId}{x:Operand}{inf:TypeInfo}{ag:Bool}(hi:C.P.info? T=some inf)(ha:qZ C.P T=some ag){o:Oper}(ho:o.op=.load T x)
 {ty:Ty} {e:PE} (hr:Rep C.cap σ (.ref ty) (a.eval x) (e.ev ρ)) (hs:Nat.beq inf.size ty.size=true) (hag:(ag==ty.rowT)=true):
 eK C S ρ σ hv Φ dst a w o (.dat ty,[.setR dst (.deref e)]):=by
 obtain⟨k,off,v,y,aL,bB,bO,la⟩:=hr.ref_inv;have dZ:=aD hs;have adm:ag=ty.rowT:=by simpa using hag
 have hz:=bO.size;have de:=bO.rowOf;refine .dat (v:=v) (wR ho aL ?_) ?_
 ·rw[de,←adm];refine Ij hi ha (by simp[hz,dZ]) (fun e=>?_) (fun j u hu=>?_)
  ·subst e;simp[bO.cells1 adm.symm]
  ·exact h.cell (la j u (by simpa using hu))
 ·simp only[PE.ev,bB,D.deref];exact bO
theorem Ep {w:World}{k:Nat}{cs:Array Value}{T:TypeId}{fr:Nat×Nat}(hb:w.heap[k]?=some (.cells cs T fr)){i:Nat}(hi:i<cs.size):w.cell? ⟨k,i,none⟩=some (cs.getD i undef):=by
 simp[World.cell?,hb,gG,jz hi]
theorem BU (cs:Array Value)(i:Nat):cs.toList.getD i undef=cs.getD i undef:=by
 simp[aI,gG]
theorem alz {cs:Array Value}{ds:List D}:∀(shs:List Sh) (i:Nat) (l:List AgC),Jd S shs=some l→(∀m s,shs[m]?=some s→aJ C S ρ σ hv s (cs.getD (i+m) undef) (ds.getD (i+m) .none))→
 l.length=shs.length∧∀(m:Nat) (c:AgC),l[m]?=some c→rQ C S σ hv c (cs.getD (i+m) undef) (ds.getD (i+m) .none)
 |[],i,l,hl,_=>by simp only[Jd,bj] at hl;subst hl;exact⟨rfl,fun m c hm=>by simp at hm⟩
 |s::r,i,l,hl,aO=>by
  simp only[Jd,aA] at hl;obtain⟨x,hx,hl⟩:=hl
  obtain⟨g1,g3⟩:=alz r (i+1) x hx fun m s hm=>by
   have:=aO (m+1) s (by simpa using hm)
   rwa [show i+(m+1)=i+1+m by omega] at this
  have h0:=aO 0 s rfl;rw[mq] at h0;split at hl
  ·rename_i t;cases eN:t.one<;>simp only[eN,cond_true,cond_false] at hl
   ·cases hl
   cases hl;refine⟨by simp[g1],fun m c hm=>?_⟩;cases m with
   |zero=>simp at hm;subst hm;exact⟨eN,h0⟩
   |succ m=>simp at hm;have:=g3 m c hm;rwa [show i+1+m=i+(m+1) by omega] at this
  ·rename_i j ver;cases hb:Nat.beq ver (S.ver j)<;>simp only[hb,cond_true,cond_false] at hl
   ·cases hl
   cases hl;refine⟨by simp[g1],fun m c hm=>?_⟩;cases m with
   |zero=>simp at hm;subst hm;exact h0
   |succ m=>simp at hm;have:=g3 m c hm;rwa [show i+1+m=i+(m+1) by omega] at this
  ·cases hl
theorem M5 (h:Inv C S ρ σ own hv w0 σ0 A a w)(hC:CtxOK C σ0)(hg:holds gs ρ=true){T:TypeId}{x:Operand}{r:Sh×List PI}(hr:GF C S gs dst T x=some r){o:Oper}(ho:o.op=.load T x):
 eK C S ρ σ hv Φ dst a w o r:=by
 unfold GF at hr;split at hr
 case h_2=>cases hr
 rename_i inf ag hi ha;have dU:aJ C S ρ σ hv (gD S gs x) (a.eval x) ((tn x).ev ρ):=by
  cases x with
  |tmp t=>exact(rJ h hg t).1
  |_=>trivial
 split at hr
 ·
  rename_i j ver off es;rw[es] at dU;cases hb:Nat.beq ver (S.ver j)<;>simp only[hb,cond_true,cond_false] at hr
  ·cases hr
  have ed:=aD hb;obtain⟨k,eV,gf⟩:=dU.2 ed;have bt:=h.objs j;split at hr
  ·rename_i bag shs eo;rw[eo] at bt;obtain⟨k',cs,T',ds,h1,h2,h3,h4,h5,h6,h7⟩:=bt;rw[eV] at h1;cases h1;cases ag with
   |true=>
    simp only[cond_true] at hr;cases hle:Nat.ble (off+inf.size) shs.length<;>simp only[hle,cond_true,cond_false] at hr
    ·cases hr
    have ph:=lQ hle;have hlen:((shs.drop off).take inf.size).length=inf.size:=by simp;omega
    have cK:∀m u,((cs.toList.drop off).take inf.size)[m]?=some u→w.cell? ⟨k,off+m,none⟩=some u:=fun m u hu=>by
     simp only[iI,jb] at hu;split at hu
     ·rename_i hm;have:=Ep h3 (i:=off+m) (by omega);rw[this,←BU];exact congrArg some (uo hu)
     ·cases hu
    have asC:=wR ho gf (Ij hi ha (by simp;omega) (fun e=>by cases e) cK);simp only[aC] at hr;obtain⟨p,hp,rfl⟩:=hr
    obtain⟨l1,es,⟨he,_⟩,l2,bO⟩:=Q4 (b:=.o j) h (cs:=cs.toList) h5 _ off p (fun m s hm=>by
     simp only[iI,jb] at hm;split at hm
     ·have:=(h7 (off+m) s hm).2;rw[BU];exact this
     ·cases hm) hp
    refine .dat (v:=rowOf true ((cs.toList.drop off).take inf.size)) asC ?_
    ·simp only[PE.ev,rowOf,if_true,he];refine .agg _ _ _ (by simp;omega) (by omega) (fun m t hm=>?_) (fun m t hm=>(bO m t hm).1);have qU:m<inf.size:=by have:=(fe.1 hm).1;omega
     have:=(bO m t hm).2;simpa [aI,iI,jb,qU] using this
   |false=>
    simp only[cond_false] at hr;split at hr
    ·rename_i ty hs;cases eN:ty.one<;>simp only[eN,cond_true,cond_false] at hr
     ·cases hr
     cases hr;have mC:=(h7 off _ hs).2;have af:off<shs.length:=(fe.1 hs).1;have yG:(loadVar T ⟨k,off,none⟩).run C.P w=.ok (cs.getD off undef) w:=by
      simp[loadVar,vZ ha,run_load,Ep h3 (i:=off) (by omega)]
     refine .dat (v:=cs.getD off undef) (wR ho gf yG) ?_;simp only[PE.ev,h5,D.c,D.cells];exact mC
    ·rename_i j' tA hs;cases hr;have mC:=(h7 off _ hs).2;have af:off<shs.length:=(fe.1 hs).1;have yG:(loadVar T ⟨k,off,none⟩).run C.P w=.ok (cs.getD off undef) w:=by
      simp[loadVar,vZ ha,run_load,Ep h3 (i:=off) (by omega)]
     intro ρ' ao;exact⟨_,_,wS ao,wR ho gf yG,mC,fun _ _ e=>by cases e⟩
    ·cases hr
  ·rename_i ts eo;rw[eo] at bt;obtain⟨k',v,h1,h2,h3⟩:=bt;rw[eV] at h1;cases h1;simp only[aC] at hr;obtain⟨ty,br,rfl⟩:=hr;obtain⟨vs,ds,rfl,hd,l1,l2,aO,eN⟩:=h2.agg_inv;obtain⟨bO,hlen,kC⟩:=Nc br l1 l2 aO eN;refine .dat (wR ho gf (Ij hi ha hlen (fun e=>by rw[hlen];exact kC e) (fun m u hu=>h.cell ?_))) (by rw[Nb (e:=.o j) hd];exact bO);simp only[iI,jb] at hu;split at hu
   ·exact h3 (off+m) u (by simpa [Value.cells] using hu)
   ·cases hu
  ·rename_i ty ay eo;rw[eo] at bt;obtain⟨k',v,h1,h2,h3⟩:=bt;rw[eV] at h1;cases h1;cases hc:(!ag&&ty.one&&Nat.beq off 0)<;>simp only[hc,cond_true,cond_false] at hr
   ·cases hr
   cases hr;simp only[aw,mi] at hc;have iS:=aD hc.2;subst iS;have yG:(loadVar T ⟨k,0,none⟩).run C.P w=.ok v w:=by
        have:=h.cell (h3 0 v (by simp[(h2.oneCell hc.1.2).1]));rw[hc.1.1] at ha;simp[loadVar,vZ ha,run_load,this]
   exact .dat (wR ho gf yG) h2
  ·cases hr
 ·
  rename_i j ver size off es;rw[es] at dU;cases hb:Nat.beq ver (S.ver j)<;>simp only[hb,cond_true,cond_false] at hr
  ·cases hr
  have ed:=aD hb;obtain⟨k,n,c,ik,i,eV,vB,cf,gf⟩:=dU.2 ed;have bt:=h.objs j;split at hr
  ·rename_i T' ts eo;rw[eo] at bt;obtain⟨cells,xs,h1,h2,⟨vs,h3,h4⟩,h5⟩:=bt;cases aP:Nat.beq size ts.length<;>simp only[aP,cond_true,cond_false] at hr
   ·cases hr
   have vQ:=aD aP;simp only[aC] at hr;obtain⟨ty,br,rfl⟩:=hr;rw[eV] at h2;have aZ:=h2.cells (g:=k) rfl;obtain⟨b,c',e1,FK,FL⟩:=zu h2;cases e1;obtain⟨y,hy⟩:∃y,xs[i]?=some y:=⟨_,aX cf⟩
   have L8:=h3 i y hy;obtain⟨us,ds,vT,hd,l1,l2,aO,eN⟩:=L8.agg_inv;obtain⟨bO,hlen,kC⟩:=Nc br l1 l2 aO eN;have ar9:(PE.nth (.o j) (tn x)).ev ρ=.agg ds:=by
        simp only[PE.ev,h1,D.l_list,vB,D.i_int,vb];rw[uo hy,hd]
   refine .dat (wR ho gf (Ij hi ha hlen (fun e=>by rw[hlen];exact kC e) (fun m u hu=>?_))) (by rw[Nb ar9];exact bO);simp only[iI,jb] at hu;split at hu
   ·have:=h4 i (off+m) u (by omega) (by rw[vT];simpa [Value.cells] using hu);have:=aZ _ _ this;rw[tX] at this;simpa [Ty.size,vQ,xF] using this
   ·cases hu
  ·rename_i T' e ay eo;rw[eo] at bt;obtain⟨cells,xs,h1,h2,⟨vs,h3,h4⟩,h5⟩:=bt;cases hc:(!ag&&e.one&&Nat.beq off 0&&Nat.beq size 1)<;>simp only[hc,cond_true,cond_false] at hr
   ·cases hr
   cases hr;simp only[aw,mi] at hc;have iS:=aD hc.1.2;have aP:=aD hc.2;subst iS;subst aP;rw[eV] at h2;have aZ:=h2.cells (g:=k) rfl;obtain⟨b,c',e1,FK,FL⟩:=zu h2;cases e1;obtain⟨y,hy⟩:∃y,xs[i]?=some y:=⟨_,aX cf⟩
   have L8:=h3 i y hy;have yG:(loadVar T ⟨k,i*1+0,none⟩).run C.P w=.ok (vs i) w:=by
        have h6:=h4 i 0 (vs i) cf (by simp[(L8.oneCell hc.1.1.2).1]);have:=aZ _ _ h6;rw[tX] at this;have Fy:e.size=1:=by cases e<;>simp_all [Ty.size,Ty.one]
        rw[hc.1.1.1] at ha;rw[Fy] at this;simp only[je,mq,DX] at this;simp[loadVar,vZ ha,run_load,this]
   refine .dat (wR ho gf yG) ?_;simp only[PE.ev,h1,D.l_list,vB,D.i_int,vb];rw[uo hy];exact L8
  ·cases hr
 ·simp only[aA] at hr;obtain⟨p,hp,hr⟩:=hr;have aV:=cw h hC hg hp;split at hr
  ·rename_i ty e1;rw[e1] at aV;cases hc:(Nat.beq inf.size ty.size&&(ag==ty.rowT))<;>simp only[hc,cond_true,cond_false] at hr
   ·cases hr
   cases hr;simp only[aw] at hc;exact av3 h hi ha ho aV hc.1 hc.2
  ·cases hr
end
end Cx
namespace Cx
open Go Go.RowKit
section
variable {C:Ctx} {S:St} {ρ:Env} {σ:Im} {own:Nat→Option Nat} {hv:Nat→Value} {w0:World} {σ0:Base} {A:Nat→Prop} {a:Act} {w:World} {gs:List (Nat×Bool)} {Φ:aW} {dst:Nat}
theorem uZ (h:Inv C S ρ σ own hv w0 σ0 A a w)(hg:holds gs ρ=true)(x:Operand):aJ C S ρ σ hv (gD S gs x) (a.eval x) ((tn x).ev ρ)∧∀bP s,gD S gs x≠.opt bP s:=by
 cases x with
 |tmp t=>exact rJ h hg t
 |_=>exact⟨trivial,fun _ _ e=>by cases e⟩
theorem acG {P:Program}{T:TypeId}{i:Nat}{f:Field}(h:E3 P T i=some f):∃fs,P.underlying T=some (.struct fs)∧fs[i]?=some f:=by
 unfold E3 at h;split at h
 ·rename_i fs hu;exact⟨fs,hu,h⟩
 ·cases h
theorem W9 {o:Oper}{T:TypeId}{x:Operand}{i:Nat}{f:Field}{inf:TypeInfo}{k off:Nat}(ho:o.op=.fieldAddr T x i)(hf:E3 C.P T i=some f)(hi:C.P.info? f.type=some inf)(hn:Nat.beq inf.size 0=false)
 (hx:a.eval x=.pointer (some ⟨k,off,none⟩)):(execOp a.eval o).run C.P w=.ok (.value (.pointer (some ⟨k,off+f.offset,none⟩))) w:=by
 obtain⟨fs,hu,uz⟩:=acG hf;have ll:inf.size≠0:=by intro e;simp[e] at hn
 simp[execOp,ho,Instr.fieldAt,run_underlying hu,uz,hx,Instr.sureAddr,fieldPlace,Go.sizeOf,run_typeInfo w hi,ll,tX]
theorem avX (h:Inv C S ρ σ own hv w0 σ0 A a w)(hC:CtxOK C σ0)(hg:holds gs ρ=true){T:TypeId}{x:Operand}{i:Nat}{r:Sh×List PI}(hr:Va C S gs dst T x i=some r){o:Oper}(ho:o.op=.fieldAddr T x i):
 eK C S ρ σ hv Φ dst a w o r:=by
 simp only[Va,aA] at hr;obtain⟨f,hf,hr⟩:=hr;obtain⟨dU,gl⟩:=uZ h hg x;split at hr
 case h_2=>cases hr
 rename_i inf ag hi ha;cases hn:Nat.beq inf.size 0<;>simp only[hn,cond_true,cond_false] at hr
 case true=>cases hr
 split at hr
 ·rename_i j ver size off es;cases hb:Nat.beq ver (S.ver j)<;>simp only[hb,cond_true,cond_false] at hr
  ·cases hr
  cases hr;rw[es] at dU;intro ρ' ao;obtain⟨k,n,c,ik,idx,eV,vB,cf,gf⟩:=dU.2 (aD hb);exact⟨_,_,wS ao,W9 ho hf hi hn gf,⟨dU.1,fun _=>⟨k,n,c,ik,idx,eV,vB,cf,by rw[xF]⟩⟩,fun _ _ e=>by cases e⟩
 ·split at hr
  ·rename_i ts e hu;have aV:=cw h hC hg hu;simp only[aC] at hr;obtain⟨ty,br,rfl⟩:=hr;obtain⟨k,off,v,y,aL,bB,bO,la⟩:=Rep.ref_inv aV;obtain⟨vs,ds,rfl,rfl,l1,l2,aO,eN⟩:=bO.agg_inv;obtain⟨sJ,hlen,kC⟩:=Nc br l1 l2 aO eN;refine .dat (W9 ho hf hi hn aL) ?_;have hde:(PE.deref e).ev ρ=.agg ds:=by simp only[PE.ev,bB,D.deref]
   simp only[PE.ev];rw[Nb hde];refine .ref ty k (off+f.offset) _ _ sJ (fun j u hu=>?_);have lq:((vs.drop f.offset).take inf.size)[j]?=some u:=by
        cases ag with
        |true=>simpa [rowOf,Value.cells] using hu
        |false=>
         have:=kC rfl;rw[this] at hlen ⊢;obtain⟨q,hq⟩:∃q,(vs.drop f.offset).take 1=[q]:=by
          match(vs.drop f.offset).take 1,hlen with
          |[q],_=>exact⟨q,rfl⟩
         rw[this] at sJ hu;rw[hq] at sJ hu ⊢;simp only[rowOf,oI] at sJ hu;have vM:ty.rowT=false:=by
          unfold wz at br;cases hle:Nat.ble (f.offset+inf.size) ts.length<;>simp only[hle,cond_true,cond_false] at br
          ·cases br
          ·cases hb:Nat.beq inf.size 1<;>simp only[hb,cond_true,cond_false] at br
           ·cases br
           ·have:=eN _ _ br;cases ty<;>simp_all [Ty.one,Ty.rowT]
         rw[sJ.cells1 vM] at hu;simpa using hu
   simp only[iI,jb] at lq;split at lq
   ·have:=la (f.offset+j) u (by simpa [Value.cells] using lq)
    rwa [←xF] at this
   ·cases lq
  ·split at hr
   ·rename_i j ver off es;cases hb:Nat.beq ver (S.ver j)<;>simp only[hb,cond_true,cond_false] at hr
    ·cases hr
    cases hr;rw[es] at dU;intro ρ' ao;obtain⟨k,eV,gf⟩:=dU.2 (aD hb);exact⟨_,_,wS ao,W9 ho hf hi hn gf,⟨dU.1,fun _=>⟨k,eV,rfl⟩⟩,fun _ _ e=>by cases e⟩
   ·cases hr
theorem avY (h:Inv C S ρ σ own hv w0 σ0 A a w)(hC:CtxOK C σ0)(hg:holds gs ρ=true){T:TypeId}{x:Operand}{i:Nat}{r:Sh×List PI}(hr:U9 C S gs dst T x i=some r){o:Oper}(ho:o.op=.field T x i):
 eK C S ρ σ hv Φ dst a w o r:=by
 simp only[U9,aA] at hr;obtain⟨f,hf,hr⟩:=hr;split at hr
 case h_2=>cases hr
 rename_i inf ag hi ha;split at hr
 case h_2=>cases hr
 rename_i ts e hu;have aV:=cw h hC hg hu;simp only[aC] at hr;obtain⟨ty,br,rfl⟩:=hr;obtain⟨vs,ds,aL,bB,l1,l2,aO,eN⟩:=Rep.agg_inv aV;obtain⟨sJ,hlen,kC⟩:=Nc br l1 l2 aO eN;obtain⟨fs,lq,uz⟩:=acG hf;have hle:f.offset+inf.size≤ts.length:=by
  unfold wz at br;cases hle:Nat.ble (f.offset+inf.size) ts.length<;>simp only[hle,cond_true,cond_false] at br
  ·cases br
  ·exact lQ hle
 refine .dat (v:=rowOf ag ((vs.drop f.offset).take inf.size)) ?_ (by rw[Nb bB];exact sJ);cases ag with
 |true=>
  simp only[execOp,ho,Instr.field,aL,asAgg,part];simp[run_underlying lq,uz,vZ ha,Go.sizeOf,run_typeInfo w hi,rowOf]
 |false=>
  have hn:=kC rfl;have af:f.offset<vs.length:=by omega
  simp only[execOp,ho,Instr.field,aL,asAgg,part];simp[run_underlying lq,uz,vZ ha,rowOf,hn,aX af,aI,iI,jb]
theorem ajK {o:Oper}{T e:TypeId}{x i:Operand}{inf:TypeInfo}{k off n c idx:Nat}{ik:IntKind}(ho:o.op=.indexAddr T x i)(hT:C.P.underlying T=some (.slice e))(hi:C.P.info? e=some inf)
 (hx:a.eval x=.slice (some ⟨k,off,none⟩) n c) (arx:a.eval i=.int ik idx) (af:idx<n):(execOp a.eval o).run C.P w=.ok (.value (.pointer (some ⟨k,off+idx*inf.size,none⟩))) w:=by
 simp[execOp,ho,Instr.indexAt,run_underlying hT,hx,arx,asIntOf,af,Go.sizeOf,run_typeInfo w hi,tX]
theorem OI {P:Program}{T:TypeId}{t:Ty}(h:tu P T t=true):∃inf,P.info? T=some inf∧inf.size=t.size:=by
 unfold tu at h;split at h
 ·rename_i i hi;exact⟨i,hi,aD h⟩
 ·cases h
theorem av0 (h:Inv C S ρ σ own hv w0 σ0 A a w)(hC:CtxOK C σ0)(hg:holds gs ρ=true){T:TypeId}{x i:Operand}{r:Sh×List PI}(hr:Vd C S gs dst T x i=some r){o:Oper}(ho:o.op=.indexAddr T x i):
 eK C S ρ σ hv Φ dst a w o r:=by
 unfold Vd at hr;split at hr
 case h_2=>cases hr
 rename_i e hT;simp only[aA] at hr;obtain⟨p,hp,hr⟩:=hr;have aV:=cw h hC hg hp;split at hr
 case h_2=>cases hr
 rename_i ik e1;rw[e1] at aV;obtain⟨idx,aL,bB,b1,b2⟩:=aV.int_inv;split at hr
 ·rename_i t pe hu;have dh:=cw h hC hg hu;cases aP:tu C.P e t<;>simp only[aP,cond_true,cond_false] at hr
  ·cases hr
  cases hr;obtain⟨inf,hi,hs⟩:=OI aP;obtain⟨xs,hd,sw⟩:=Rep.slice_inv dh;refine .datc hg fun hc=>?_;simp only[PE.ev,hd,bB,D.l_list,D.i_int,D.b_bool,decide_eq_true_eq] at hc;rcases sw with⟨_,rfl⟩|⟨k,off,c,sP,h1,h2,vs,h3,h4⟩
  ·simp at hc;omega
  ·obtain⟨m,rfl⟩:=lO hc.1;have af:m<xs.length:=by omega
   refine⟨_,ajK ho hT hi sP aL af,?_⟩;obtain⟨y,hy⟩:∃y,xs[m]?=some y:=⟨_,aX af⟩
   simp only[PE.ev,hd,bB,D.l_list,D.i_int,vb,uo hy];exact .ref t.unf k _ (vs m) y (h3 m y hy) (fun j u hu=>by rw[hs];exact h4 m j u af hu)
 ·cases hr
 ·obtain⟨dU,gl⟩:=uZ h hg x;split at hr
  ·rename_i j ver es;rw[es] at dU;cases hb:Nat.beq ver (S.ver j)<;>simp only[hb,cond_true,cond_false] at hr
   ·cases hr
   have ed:=aD hb;have bt:=h.objs j;have cT:=dU.2 ed;split at hr
   ·rename_i T' t eo;rw[eo] at bt;cases aP:tu C.P e t<;>simp only[aP,cond_true,cond_false] at hr
    ·cases hr
    cases hr;obtain⟨inf,hi,hs⟩:=OI aP;obtain⟨cells,xs,h1,h2,⟨vs,h3,h4⟩,h5⟩:=bt;intro ρ' ao;obtain⟨hc,hρ⟩:=Xa hg ao;simp only[PE.ev,h1,bB,D.l_list,D.i_int,D.b_bool,decide_eq_true_eq] at hc;obtain⟨m,rfl⟩:=lO hc.1;have af:m<xs.length:=by omega
    rcases h2.2 with⟨_,e0⟩|⟨g,cap,cur,eV,_⟩
    ·omega
    ·refine⟨_,_,hρ,ajK ho hT hi (cT.trans eV) aL af,⟨by omega,fun _=>⟨g,xs.length,cap,ik,m,eV,bB,af,?_⟩⟩,fun _ _ e=>by cases e⟩;rw[hs];simp
   ·cases hr
  ·cases hr
theorem av1 (h:Inv C S ρ σ own hv w0 σ0 A a w)(hC:CtxOK C σ0)(hg:holds gs ρ=true){T:TypeId}{x i:Operand}{r:Sh×List PI}(hr:Vc C S gs dst T x i=some r){o:Oper}(ho:o.op=.index T x i):
 eK C S ρ σ hv Φ dst a w o r:=by
 unfold Vc at hr;split at hr
 case h_2=>cases hr
 rename_i hT;simp only[aA] at hr;obtain⟨p,hp,q,hq,hr⟩:=hr;have aV:=cw h hC hg hp;have dI:=cw h hC hg hq;split at hr
 case h_2=>cases hr
 rename_i ik e1 e2;rw[e1] at aV;rw[e2] at dI;obtain⟨idx,aL,bB,b1,b2⟩:=aV.int_inv;obtain⟨s,gq,dR,_⟩:=dI.str_inv;cases hr;refine .datc hg fun hc=>?_;simp only[PE.ev,dR,bB,D.s_str,D.i_int,D.b_bool,decide_eq_true_eq] at hc;obtain⟨m,rfl⟩:=lO hc.1;have af:m<s.size:=by omega
 refine⟨.int .u8 (s.data.getD m 0).toNat,?_,?_⟩
 ·have:s[m]?=some (s.data.getD m 0):=by
   rw[getElem?_pos s m af];simp[ByteArray.getElem_eq_getElem_data,gG,jz (show m<s.data.size from af)]
  simp[execOp,ho,Instr.index,run_underlying hT,aL,gq,asIntOf,this]
 ·simp only[PE.ev,dR,bB,D.s_str,D.i_int,vb];refine .int _ _ ?_ ?_
  ·simp only[IntKind.min,IntKind.signed];simp
  ·simp only[IntKind.max,IntKind.signed,IntKind.bits];have:=UInt8.toNat_lt (s.data.getD m 0);simp at this ⊢;omega
end
end Cx
namespace Cx
open Go Go.RowKit
section
variable {C:Ctx} {S:St} {ρ:Env} {σ:Im} {own:Nat→Option Nat} {hv:Nat→Value} {w0:World} {σ0:Base} {A:Nat→Prop} {a:Act} {w:World} {gs:List (Nat×Bool)} {Φ:aW} {dst:Nat}
theorem aBR (h:Inv C S ρ σ own hv w0 σ0 A a w)(hC:CtxOK C σ0)(hg:holds gs ρ=true){lo:Option Operand}{l:Ty×PE}{k:IntKind}(hl:aak C S gs lo=some l)(hk:l.1=.int k):
 ∃n,l.2.ev ρ=.v (.int k n)∧((lo=none∧n=0)∨∃x,lo=some x∧a.eval x=.int k n):=by
 cases lo with
 |none=>simp[aak] at hl;subst hl;simp at hk;subst hk;exact⟨0,rfl,.inl ⟨rfl,rfl⟩⟩
 |some x=>
  have:=cw h hC hg hl;rw[hk] at this;obtain⟨n,h1,h2,_⟩:=this.int_inv;exact⟨n,h2,.inr ⟨x,rfl,h1⟩⟩
theorem aBQ (h:Inv C S ρ σ own hv w0 σ0 A a w)(hC:CtxOK C σ0)(hg:holds gs ρ=true){e:PE}{hi:Option Operand}{l:Ty×PE}{k:IntKind}(hl:aaj C S gs e hi=some l)(hk:l.1=.int k):
 ∃n,l.2.ev ρ=.v (.int k n)∧((hi=none∧n=(e.ev ρ).l.length)∨∃x,hi=some x∧a.eval x=.int k n):=by
 cases hi with
 |none=>simp[aaj] at hl;subst hl;simp at hk;subst hk;exact⟨_,rfl,.inl ⟨rfl,rfl⟩⟩
 |some x=>
  have:=cw h hC hg hl;rw[hk] at this;obtain⟨n,h1,h2,_⟩:=this.int_inv;exact⟨n,h2,.inr ⟨x,rfl,h1⟩⟩
theorem run_sliceBound {P:Program}{x:Value}{y i:Nat}{k:IntKind}{code:BoundsCode}{w:World}(hx:x=.int k i)(h:i≤y):(Instr.sliceBound x y code).run P w=.ok i w:=by
 subst hx;simp[Instr.sliceBound,asIntOf,h]
theorem av8 (h:Inv C S ρ σ own hv w0 σ0 A a w)(hC:CtxOK C σ0)(hg:holds gs ρ=true){T:TypeId}{x:Operand}{lo hi mx:Option Operand}{r:Sh×List PI}(hr:Vi C S gs dst T x lo hi mx=some r){o:Oper}(ho:o.op=.slice T x lo hi mx):
 eK C S ρ σ hv Φ dst a w o r:=by
 unfold Vi at hr;split at hr
 case h_3=>cases hr
 case h_2=>
  rename_i n e hT;split at hr
  case h_2=>cases hr
  simp only[aA] at hr;obtain⟨p,hp,hr⟩:=hr;have aV:=cw h hC hg hp;split at hr
  case h_2=>cases hr
  rename_i t ts e1;cases hc:(Nat.beq n (ts.length+1)&&ts.all (Ty.beq t)&&t.one&&tu C.P e t&&Nat.ble n maxLen&&(ae1 x|| !Ty.beq t (.int .i64)))<;>simp only[hc,cond_true,cond_false] at hr
  ·cases hr
  cases hr;simp only[aw] at hc;obtain⟨⟨⟨⟨⟨c1,c2⟩,c3⟩,c4⟩,c5⟩,c6⟩:=hc;have hn:=aD c1;have hm:=lQ c5;obtain⟨inf,sC,hs⟩:=OI c4;rw[e1] at aV;obtain⟨k,off,x0,y,sP,hd,hr0,la⟩:=aV.ref_inv;have Cy:t=.int .i64→σ.m k=some mc:=by
   rintro rfl;rw[lN] at c6;rcases c6 with c6|c6
   ·cases x with
    |global g=>
     simp only[use,aC] at hp;obtain⟨y',hy',_⟩:=hp;have hk:k=g:=by
      have e:a.eval (.global g)=.pointer (some ⟨g,0,none⟩):=rfl;rw[e] at sP;cases sP;rfl
     subst hk;exact h.le.m _ _ (hC.mg _ _ hy')
    |_=>cases c6
   ·exact absurd c6 (by decide)
  obtain⟨vs,ds,rfl,rfl,l1,l2,du,_⟩:=hr0.agg_inv
  have aO:∀(i:Nat),i<n→(t::ts)[i]?=some t:=fun i hi=>by
   cases i with
   |zero=>rfl
   |succ i=>
    have af:i<ts.length:=by omega
    rw[aaY,aX af];rw[Ty.beq_eq _ _ (da.1 c2 _ (bW af))]
  have SC:vs.length=n:=by rw[l1,hn];rfl
  have hld:ds.length=n:=by rw[l2,hn];rfl
  have eN:t.size=1:=by cases t<;>simp_all [Ty.one,Ty.size]
  refine eK.dat (v:=.slice (some ⟨k,off,none⟩) n n) ?_ ?_
  ·have:Addr.add ⟨k,off,none⟩ 0=⟨k,off,none⟩:=by simp[Addr.add]
   simp[execOp,ho,Instr.sliceAt,run_underlying hT,sP,Instr.sureAddr,Instr.sliceBounds,Go.sizeOf,run_typeInfo w sC,this]
  ·have arR:(PE.lst ((List.range n).map fun i=>.cell (.deref p.2) i)).ev ρ=.list ds:=by
        simp only[PE.ev]
        congr 1
        have bN:∀l:List PE,PE.evs ρ l=l.map fun e=>e.ev ρ:=fun l=>by induction l with|nil=>rfl|cons e l ih=>simp[PE.evs,ih]
        rw[bN,nq];apply vc;intro i;rw[ct];by_cases hi:i<n
        ·rw[rU hi,aX (by omega)];simp only[kW,Function.comp,PE.ev,hd,D.deref,D.c,D.cells];rw[aI,aX (by omega)];rfl
        ·rw[jW (by simp;omega),jW (by omega)];rfl
   rw[arR];refine .slice t k off n n ds (fun i=>vs.getD i undef) hld (bn _) hm (fun i x hx=>?_) (fun i j u hi hu=>?_) Cy
   ·have af:i<n:=by rw[←hld];exact(fe.1 hx).1
    have:=du i t (aO i af);rw[uo hx] at this;exact this.unf
   ·have h1:=(du i t (aO i hi)).oneCell c3;rw[h1.1] at hu;cases j with
    |zero=>
     simp at hu;have:=la i (vs.getD i undef) (by
      simp only[Value.cells];rw[xy,aX (by omega),aI,aX (by omega)];rfl)
     rw[eN,←hu];simpa using this
    |succ j=>simp at hu
 rename_i e hT;simp only[aA] at hr;obtain⟨p,hp,hr⟩:=hr;have aV:=cw h hC hg hp;split at hr
 case h_2=>cases hr
 rename_i t e1;rw[e1] at aV;simp only[aA] at hr;obtain⟨l,hl,u,hu,hr⟩:=hr;split at hr
 case h_2=>cases hr
 rename_i k1 k2 e2 e3;cases aP:tu C.P e t<;>simp only[aP,cond_true,cond_false] at hr
 ·cases hr
 cases hr;obtain⟨inf,sC,hs⟩:=OI aP;obtain⟨n1,bB,mH⟩:=aBR h hC hg hl e2;obtain⟨n2,dR,vD⟩:=aBQ h hC hg hu e3;obtain⟨xs,hd,sw⟩:=Rep.slice_inv' aV;refine .datc hg fun hc=>?_;simp only[PE.ev,hd,bB,dR,D.l_list,D.i_int,D.b_bool,decide_eq_true_eq] at hc;obtain⟨m1,rfl⟩:=lO hc.1;obtain⟨m2,rfl⟩:=lO (show 0≤n2 by omega);have RV:m1≤m2:=by omega
 have h2l:m2≤xs.length:=by omega
 have adw:∀c,xs.length≤c→(Instr.sliceBounds true xs.length c (lo.map a.eval) (hi.map a.eval) none).run C.P w=.ok (m1,m2,c) w:=by
  intro c jn
  have hh:∀code,(match hi.map a.eval with|some v=>Instr.sliceBound v c code|none=>(pure xs.length:Sem Nat)).run C.P w=.ok m2 w:=by
   intro code;rcases vD with⟨rfl,e⟩|⟨y,rfl,e⟩
   ·rw[hd,D.l_list] at e;simp;omega
   ·simp only[kW];exact run_sliceBound e (by omega)
  have SA:∀code,(match lo.map a.eval with|some v=>Instr.sliceBound v m2 code|none=>(pure 0:Sem Nat)).run C.P w=.ok m1 w:=by
   intro code;rcases mH with⟨rfl,e⟩|⟨y,rfl,e⟩
   ·simp;omega
   ·simp only[kW];exact run_sliceBound e RV
  have hh':=hh .sliceAcap;have ad2:=SA .sliceB;unfold Instr.sliceBounds;cases hi<;>cases lo<;>simp at hh' ad2 ⊢<;>simp[hh',ad2]
 rcases sw with⟨⟨p0,sP⟩,rfl⟩|⟨k,off,c,sP,h1,h2,Cy,vs,h3,h4⟩
 ·have:m2=0:=by simpa using h2l
  have:m1=0:=by omega
  subst_vars
  refine⟨.slice p0 0 0,?_,?_⟩
  ·have hb:=adw 0 (bn _);simp only[Ap] at hb;cases p0 with
   |none=>simp[execOp,ho,Instr.sliceAt,Instr.slice,run_underlying hT,sP,hb,Go.sizeOf,run_typeInfo w sC]
   |some a0=>simp[execOp,ho,Instr.sliceAt,Instr.slice,run_underlying hT,sP,hb,Go.sizeOf,run_typeInfo w sC]
  ·simp only[PE.ev,hd,bB,dR,D.l_list,D.i_int];cases p0 with
   |none=>exact .nil t
   |some a0=>exact .emp t a0
 ·refine⟨.slice (some (if c=m1 then⟨k,off,none⟩ else⟨k,off+m1*inf.size,none⟩)) (m2-m1) (c-m1),?_,?_⟩
  ·have hb:=adw c h1;simp only[execOp,ho,Option.map_none,Instr.sliceAt,run_underlying hT,sP];simp[run_underlying hT,Instr.slice,hb,Go.sizeOf,run_typeInfo w sC,tX];split<;>simp
  ·simp only[PE.ev,hd,bB,dR,D.l_list,D.i_int,vb];have hlen:((xs.take m2).drop m1).length=m2-m1:=by simp;omega
   have du:∀(i:Nat) (y:D),((xs.take m2).drop m1)[i]?=some y→xs[m1+i]?=some y:=by
        intro i y hy;simp only[jb,iI] at hy;split at hy
        ·exact hy
        ·cases hy
   have la:∀(i j:Nat) (v:Value),i<m2-m1→(vs (m1+i)).cells[j]?=some v→σ.c k (off+m1*inf.size+i*t.size+j)=some v:=by
        intro i j v hi hj;have:=h4 (m1+i) j v (by omega) hj;rw[gI] at this;rw[hs]
        rwa [←xF] at this
   split
   ·rename_i nT;refine .slice t k off (m2-m1) (c-m1) _ (fun i=>vs (m1+i)) hlen (by omega) (by omega) (fun i y hy=>h3 _ _ (du i y hy)) (fun i j v hi hj=>by omega) Cy
   ·exact .slice t k (off+m1*inf.size) (m2-m1) (c-m1) _ (fun i=>vs (m1+i)) hlen (by omega) (by omega) (fun i y hy=>h3 _ _ (du i y hy)) la Cy
theorem akq (h:Inv C S ρ σ own hv w0 σ0 A a w)(hC:CtxOK C σ0)(hg:holds gs ρ=true):∀(xs:List Operand) (r:List Ty×List PE),rN C S gs xs=some r→
 r.1.length=xs.length∧r.2.length=xs.length∧∀(i:Nat) (t:Ty),r.1[i]?=some t→Rep C.cap σ t ((xs.map a.eval).getD i undef) ((PE.evs ρ r.2).getD i .none):=by
 intro xs
 induction xs with
 |nil=>intro r hr;simp[rN] at hr;subst hr;exact⟨rfl,rfl,by simp⟩
 |cons x xs ih=>
  intro r hr;simp only[rN,aA,aC] at hr;obtain⟨p,hp,q,hq,rfl⟩:=hr;obtain⟨l1,l2,aO⟩:=ih q hq;refine⟨by simp[l1],by simp[l2],fun i t hi=>?_⟩;cases i with
  |zero=>simp at hi;subst hi;simpa [PE.evs] using cw h hC hg hp
  |succ i=>simp at hi;simpa [PE.evs] using aO i t hi
theorem avZ (h:Inv C S ρ σ own hv w0 σ0 A a w)(hC:CtxOK C σ0)(hg:holds gs ρ=true){fn:Fn}{first caps:Array Operand}{r:Sh×List PI}(hr:Vb C S gs dst fn first caps=some r){o:Oper}(ho:o.op=.makeFunc fn first caps):
 eK C S ρ σ hv Φ dst a w o r:=by
 unfold Vb at hr;split at hr
 case h_2=>cases hr
 rename_i f Sm;have hf0:first=#[]:=by simpa using Sm
 subst hf0;simp only[aA] at hr;obtain⟨cs,cK,p,hp,hr⟩:=hr;cases hb:Ty.subs p.1 cs.caps<;>simp only[hb,cond_true,cond_false] at hr
 ·cases hr
 cases hr;obtain⟨l1,l2,aO⟩:=akq h hC hg _ _ hp;have hl:=Ty.subs_len _ _ hb;refine .dat (v:=.func (.func f) #[] (caps.map a.eval)) ?_ ?_
 ·simp[execOp,ho,Instr.makeFunc]
 ·simp only[PE.ev];have:caps.map a.eval=(caps.toList.map a.eval).toArray:=by apply DJ;rw[Ac]
  rw[this];have e1:(caps.toList.map a.eval).length=cs.caps.length:=by rw[dM];omega
  have e2:(PE.evs ρ p.2).length=cs.caps.length:=by rw[PE.evs_eq,dM];omega
  refine .fn f cs _ _ cK e1 e2 (fun i t hi=>?_);obtain⟨s,hs,df⟩:=Ty.subs_get _ _ hb i t hi;exact(aO i s hs).sub df
theorem av5 (h:Inv C S ρ σ own hv w0 σ0 A a w)(hC:CtxOK C σ0)(hg:holds gs ρ=true){x:Operand}{r:Sh×List PI}(hr:Vg C S gs dst x=some r){o:Oper}(ho:o.op=.nilCheck x):
 eK C S ρ σ hv Φ dst a w o r:=by
 have ao:∀k off,a.eval x=.pointer (some ⟨k,off,none⟩)→(execOp a.eval o).run C.P w=.ok (.value (a.eval x)) w:=by
  intro k off e;simp[execOp,ho,e]
 unfold Vg at hr;split at hr
 ·rename_i t e hu;cases hr;have aV:=cw h hC hg hu;obtain⟨k,off,v,y,aL,bB,bO,la⟩:=Rep.ref_inv aV;exact .dat (ao k off aL) aV
 ·split at hr
  ·rename_i t _;obtain⟨hs,gl⟩:=rJ h hg t;split at hr
   ·rename_i j ver off es;rw[es] at hs;cases hb:Nat.beq ver (S.ver j)<;>simp only[hb,cond_true,cond_false] at hr
    ·cases hr
    cases hr;obtain⟨k,eV,gf⟩:=hs.2 (aD hb);intro ρ' nZ;exact⟨_,_,wS nZ,ao k off gf,hs,fun _ _ e=>by cases e⟩
   ·rename_i j ver sz off es;rw[es] at hs;cases hb:Nat.beq ver (S.ver j)<;>simp only[hb,cond_true,cond_false] at hr
    ·cases hr
    cases hr;have dT:=hs;obtain⟨k,n,c,ik,i,eV,vB,cf,gf⟩:=hs.2 (aD hb);intro ρ' nZ;exact⟨_,_,wS nZ,ao _ _ gf,dT,fun _ _ e=>by cases e⟩
   ·cases hr
  ·cases hr
theorem akI {cap:Nat→Option CSig}{t:Ty}{z:Ty×D}{v:Value}(h:rP t=some z)(hz:z7 t v=true):Rep cap σ z.1 v z.2∧z.1.one=true∧Ty.sub z.1 t=true:=by
 unfold z7 at hz;split at hz
 ·simp at hz;obtain⟨rfl,rfl⟩:=hz;simp[rP] at h;subst h;exact⟨.int _ 0 (by rename_i k;cases k<;>decide) (by rename_i k;cases k<;>decide),rfl,by simp[Ty.sub,Ty.beq]⟩
 ·simp at hz;subst hz;simp[rP] at h;subst h;exact⟨.bool false,rfl,rfl⟩
 ·rename_i s;have:s=ByteArray.empty:=by
   have:s.size=0:=by simpa using hz
   cases s with|mk d=>simp[ByteArray.size] at this;subst this;rfl
  subst this;simp[rP] at h;subst h;exact⟨.str _ (by decide),rfl,rfl⟩
 ·simp[rP] at h;subst h;exact⟨.nils _,rfl,rfl⟩
 ·simp[rP] at h;subst h;refine⟨.mapnil _ _,rfl,?_⟩;simp only[Ty.sub];exact Ty.beq_refl _
 ·simp[rP] at h;subst h;exact⟨.fnnil _ _,rfl,by simp only[Ty.sub];exact Ty.beq_refl _⟩
 ·cases hz
end
end Cx
namespace Cx
open Go Go.RowKit
theorem mapM_some {α β:Type}(f:α→Option β):∀(l:List α) (r:List β),l.mapM f=some r→r.length=l.length∧∀(i:Nat) (x:α),l[i]?=some x→∃y,r[i]?=some y∧f x=some y
 |[],r,h=>by simp at h;subst h;exact⟨rfl,by simp⟩
 |x::l,r,h=>by
  simp only[aa2,Option.bind_eq_bind,aA] at h;obtain⟨y,hy,ys,od,h⟩:=h;cases h;obtain⟨h1,h2⟩:=mapM_some f l ys od;refine⟨by simp[h1],fun i z hi=>?_⟩;cases i with
  |zero=>simp at hi;subst hi;exact⟨y,rfl,hy⟩
  |succ i=>simp at hi;simpa using h2 i z hi
theorem aaC:∀(ts:List Ty) (vs:List Value),DI ts vs=true→vs.length=ts.length∧∀(i:Nat) (t:Ty),ts[i]?=some t→∃v,vs[i]?=some v∧z7 t v=true
 |[],vs,h=>by cases vs<;>simp_all [DI]
 |t::ts,vs,h=>by
  cases vs with
  |nil=>simp[DI] at h
  |cons v vs=>
   simp only[DI,aw] at h;obtain⟨h1,h2⟩:=aaC ts vs h.2;refine⟨by simp[h1],fun i u hi=>?_⟩;cases i with
   |zero=>simp at hi;subst hi;exact⟨v,rfl,h.1⟩
   |succ i=>simp at hi;simpa using h2 i u hi
theorem z8 {cap:Nat→Option CSig}{σ:Im}{t:Ty}{z:Ty×D}{v:Value}(h:qa t=some z)(hz:jV t v=true):Rep cap σ z.1 v z.2∧Ty.sub z.1 t=true∧z.1.one=t.one:=by
 cases t with
 |agg ts=>
  simp only[qa,aC] at h;obtain⟨zs,mO,rfl⟩:=h;cases v with
  |agg vs=>
   simp only[jV] at hz;obtain⟨l1,h1⟩:=aaC ts vs.toList hz;obtain⟨l2,h2⟩:=mapM_some _ _ _ mO;have key:∀(i:Nat) (t:Ty),ts[i]?=some t→∃y v,zs[i]?=some y∧vs.toList[i]?=some v∧Rep cap σ y.1 v y.2∧y.1.one=true∧Ty.sub y.1 t=true:=by
      intro i t hi;obtain⟨y,hy,uJ⟩:=h2 i t hi;obtain⟨v,hv,gq⟩:=h1 i t hi;obtain⟨g1,g2,g3⟩:=akI (cap:=cap) (σ:=σ) uJ gq;exact⟨y,v,hy,hv,g1,g2,g3⟩
   have cM:∀(ts:List Ty) (zs:List (Ty×D)),zs.length=ts.length→(∀(i:Nat) (t:Ty),ts[i]?=some t→∃y,zs[i]?=some y∧Ty.sub y.1 t=true)→Ty.subs (zs.map (·.1)) ts=true:=by
      intro ts
      induction ts with
      |nil=>intro zs hl _;cases zs<;>simp_all [Ty.subs]
      |cons t ts ih=>
       intro zs hl hh;cases zs with
       |nil=>simp at hl
       |cons z zs=>
        simp only[jc,Ty.subs,aw];refine⟨?_,ih zs (by simpa using hl) fun i u hu=>by simpa using hh (i+1) u (by simpa using hu)⟩;obtain⟨y,hy,uJ⟩:=hh 0 t rfl;simp at hy;subst hy;exact uJ
   refine⟨?_,?_,rfl⟩
   ·have:vs=vs.toList.toArray:=by simp
    rw[this];refine .agg _ _ _ (by rw[dM];omega) (by simp) (fun i t hi=>?_) (fun i t hi=>?_)
    ·simp only[ct,aC] at hi;obtain⟨q,hq,rfl⟩:=hi;obtain⟨t',vS⟩:∃t',ts[i]?=some t':=⟨_,aX (by have:=(fe.1 hq).1;omega)⟩
     obtain⟨y,v,hy,hv,g1,g2,g3⟩:=key i t' vS;rw[hq] at hy;cases hy;rw[uo hv,uo (show(zs.map (·.2))[i]?=some q.2 by simp[hq])];exact g1
    ·simp only[ct,aC] at hi;obtain⟨q,hq,rfl⟩:=hi;obtain⟨t',vS⟩:∃t',ts[i]?=some t':=⟨_,aX (by have:=(fe.1 hq).1;omega)⟩
     obtain⟨y,v,hy,hv,g1,g2,g3⟩:=key i t' vS;rw[hq] at hy;cases hy;exact g2
   ·simp only[Ty.sub];exact cM ts zs l2 fun i t hi=>by obtain⟨y,v,hy,hv,g1,g2,g3⟩:=key i t hi;exact⟨y,hy,g3⟩
  |_=>simp[jV] at hz
 |_=>
  obtain⟨g1,g2,g3⟩:=akI (cap:=cap) (σ:=σ) (by simpa [qa] using h) (by simpa [jV] using hz);exact⟨g1,g3,(Ty.sub_one _ _ g3).1⟩
theorem alZ {a b:ByteArray}(h:(a==b)=true):a=b:=by
 cases a with|mk x=>cases b with|mk y=>
 have:(x==y)=true:=h;rw[eq_of_beq this]
theorem al0 (a:ByteArray):(a==a)=true:=by
 cases a with|mk x=>
 show(x==x)=true;simp
theorem TS {P:Program}{K:TypeId}{kt:Ty}(hk:mQ P K kt=true):
 (∃k k',kt=.int k∧P.underlying K=some (.int k'))∨(kt=.str∧P.underlying K=some .string)∨(kt=.bool∧P.underlying K=some .bool):=by
 unfold mQ at hk;split at hk
 ·split at hk
  ·exact .inl ⟨_,_,rfl,by assumption⟩
  ·cases hk
 ·split at hk
  ·exact .inr (.inl ⟨rfl,by assumption⟩)
  ·cases hk
 ·split at hk
  ·exact .inr (.inr ⟨rfl,by assumption⟩)
  ·cases hk
 ·cases hk
theorem aoD {cap:Nat→Option CSig}{σ:Im}{P:Program}{K:TypeId}{kt:Ty}{desc:TypeDesc}(hk:mQ P K kt=true)(hu:P.underlying K=some desc){v:Value}{d:D}(hv:Rep cap σ kt v d):
 ∀(es:List MapEntry) (ds:List (D×D)) (i:Nat),ds.length=es.length→(∀(j:Nat) (e:MapEntry) (p:D×D),es[j]?=some e→ds[j]?=some p→Rep cap σ kt e.key p.1)→
  (Instr.findNow desc v es i=some none∧∀(j:Nat) (p:D×D),ds[j]?=some p→iW d p.1=false)∨
  ∃j e p,es[j]?=some e∧ds[j]?=some p∧Instr.findNow desc v es i=some (some (i+j,e.val))∧iW d p.1=true∧Instr.sameBits 10000 e.key v=true∧∀m q,m<j→ds[m]?=some q→iW d q.1=false:=by
 have eN:∀(v':Value) (d':D),Rep cap σ kt v' d'→Instr.sameNow desc v v'=some (iW d d')∧(iW d d'=true→Instr.sameBits 10000 v' v=true):=by
  intro v' d' h';rcases TS hk with⟨k,k',rfl,lq⟩|⟨rfl,lq⟩|⟨rfl,lq⟩
  ·rw[hu] at lq;cases lq;obtain⟨n,rfl,rfl,_⟩:=hv.int_inv;obtain⟨m,rfl,rfl,_⟩:=h'.int_inv;refine⟨by simp[Instr.sameNow,iW,D.cells,v8,y5],fun e=>?_⟩;have:n=m:=by simpa [iW,D.cells,v8,y5] using e
   subst this;simp[Instr.sameBits]
  ·rw[hu] at lq;cases lq;obtain⟨n,rfl,rfl,_⟩:=hv.str_inv;obtain⟨m,rfl,rfl,_⟩:=h'.str_inv;refine⟨by simp[Instr.sameNow,iW,D.cells,v8,y5],fun e=>?_⟩;have:n=m:=alZ (by simpa [iW,D.cells,v8,y5] using e);subst this;simpa [Instr.sameBits] using al0 n
  ·rw[hu] at lq;cases lq;obtain⟨n,rfl,rfl⟩:=hv.bool_inv;obtain⟨m,rfl,rfl⟩:=h'.bool_inv;refine⟨by simp[Instr.sameNow,iW,D.cells,v8,y5],fun e=>?_⟩;have:n=m:=by simpa [iW,D.cells,v8,y5] using e
   subst this;simp[Instr.sameBits]
 intro es
 induction es with
 |nil=>intro ds i hl _;left;exact⟨rfl,by cases ds<;>simp_all⟩
 |cons e es ih=>
  intro ds i hl aO;cases ds with
  |nil=>simp at hl
  |cons p ds=>
   obtain⟨hs,hb⟩:=eN e.key p.1 (aO 0 e p rfl rfl);cases Cf:iW d p.1 with
   |true=>
    right;rw[Cf] at hs;exact⟨0,e,p,rfl,rfl,by simp[Instr.findNow,hs],Cf,hb Cf,fun m q hm=>by omega⟩
   |false=>
    rw[Cf] at hs;rcases ih ds (i+1) (by simpa using hl) (fun j e' p' he hp=>aO (j+1) e' p' (by simpa using he) (by simpa using hp)) with⟨h1,h2⟩|⟨j,e',p',h1,h2,h3,h4,h5,h6⟩
    ·left;refine⟨by simp[Instr.findNow,hs,h1],fun j q hq=>?_⟩;cases j with
     |zero=>simp at hq;subst hq;exact Cf
     |succ j=>exact h2 j q (by simpa using hq)
    ·right;refine⟨j+1,e',p',by simpa using h1,by simpa using h2,?_,h4,h5,fun m q hm hq=>?_⟩
     ·simp[Instr.findNow,hs,h3];omega
     ·cases m with
      |zero=>simp at hq;subst hq;exact Cf
      |succ m=>exact h6 m q (by omega) (by simpa using hq)
theorem afw {d:D}:∀{ds:List (D×D)},(∀(j:Nat) (p:D×D),ds[j]?=some p→iW d p.1=false)→jL d ds=none
 |[],_=>rfl
 |p::ds,h=>by simp only[jL,h 0 p rfl];exact afw fun j q hq=>h (j+1) q (by simpa using hq)
theorem afx {d:D}:∀{ds:List (D×D)} {j:Nat} {p:D×D},ds[j]?=some p→iW d p.1=true→(∀(m:Nat) (q:D×D),m<j→ds[m]?=some q→iW d q.1=false)→jL d ds=some p.2
 |[],j,p,hp,_,_=>by simp at hp
 |x::ds,0,p,hp,hk,_=>by simp at hp;subst hp;simp[jL,hk]
 |x::ds,j+1,p,hp,hk,hm=>by
  simp only[jL,hm 0 x (by omega) rfl];exact afx (j:=j) (by simpa using hp) hk fun m q af hq=>hm (m+1) q (by omega) (by simpa using hq)
theorem air {d v:D}:∀{ds:List (D×D)},(∀(j:Nat) (p:D×D),ds[j]?=some p→iW d p.1=false)→fT d v ds=ds++[(d,v)]
 |[],_=>rfl
 |p::ds,h=>by simp only[fT,h 0 p rfl,Ae,if_false,IW];rw[air fun j q hq=>h (j+1) q (by simpa using hq)]
theorem ais {d v:D}:∀{ds:List (D×D)} {j:Nat} {p:D×D},ds[j]?=some p→iW d p.1=true→(∀(m:Nat) (q:D×D),m<j→ds[m]?=some q→iW d q.1=false)→fT d v ds=ds.set j (d,v)
 |[],j,p,hp,_,_=>by simp at hp
 |x::ds,0,p,hp,hk,_=>by simp at hp;subst hp;simp[fT,hk]
 |x::ds,j+1,p,hp,hk,hm=>by
  simp only[fT,hm 0 x (by omega) rfl,Ae,if_false,List.set_cons_succ];rw[ais (j:=j) (by simpa using hp) hk fun m q af hq=>hm (m+1) q (by omega) (by simpa using hq)]
theorem afd {P:Program}{K:TypeId}{kt:Ty}(hk:wg P K kt=true):mQ P K kt=true∨afe P K kt=true:=by
 unfold wg at hk;simpa using hk
theorem abW {cap:Nat→Option CSig}{σ:Im}{P:Program}{K:TypeId}{kt:Ty}(hk:wg P K kt=true){v:Value}{d:D}(hv:Rep cap σ kt v d){w:World}{b:Bool}:(Instr.checkKey b 10000 K v).run P w=.ok () w:=by
 rcases afd hk with hk|hk
 case inr=>cases hk
 have:∀n,(Instr.checkKey b (n+1) K v).run P w=.ok () w:=by
  intro n;rcases TS hk with⟨k,k',rfl,hu⟩|⟨rfl,hu⟩|⟨rfl,hu⟩<;>cases v<;>simp[Instr.checkKey,run_underlying hu]
 exact this 9999
section
variable {C:Ctx} {S:St} {ρ:Env} {σ:Im} {own:Nat→Option Nat} {hv:Nat→Value} {w0:World} {σ0:Base} {A:Nat→Prop} {a:Act} {w:World} {gs:List (Nat×Bool)} {Φ:aW} {dst:Nat}
theorem atL {P:Program}{K:TypeId}{kt:Ty}(hk:mQ P K kt=true):∃desc,P.underlying K=some desc:=by
 rcases TS hk with⟨k,k',rfl,hu⟩|⟨rfl,hu⟩|⟨rfl,hu⟩<;>exact⟨_,hu⟩
theorem run_findKey {cap:Nat→Option CSig}{P:Program}{K:TypeId}{kt et:Ty}(gT:wg P K kt=true){v:Value}{d:D}(hv:Rep cap σ kt v d)(arr:Array MapEntry)(ds:List (D×D))(hl:ds.length=arr.size)
 (aO:∀(j:Nat) (e:MapEntry) (p:D×D),arr[j]?=some e→ds[j]?=some p→Rep cap σ kt e.key p.1∧Rep cap σ et e.val p.2) (w:World):
 ((Instr.findKey K v arr.toList).run P w=.ok none w∧jL d ds=none∧∀u,fT d u ds=ds++[(d,u)])∨
 ∃j e p,arr[j]?=some e∧ds[j]?=some p∧(Instr.findKey K v arr.toList).run P w=.ok (some (j,e.val)) w∧jL d ds=some p.2∧(∀u,fT d u ds=ds.set j (d,u))∧Instr.sameBits 10000 e.key v=true:=by
 rcases afd gT with hk|hk
 case inr=>cases hk
 obtain⟨desc,hu⟩:=atL hk;rcases aoD hk hu hv arr.toList ds 0 (by simpa using hl) (fun j e p he hp=>(aO j e p (by simpa using he) hp).1) with⟨h1,h2⟩|⟨j,e,p,h1,h2,h3,h4,h5,h6⟩
 ·left;exact⟨by simp[Instr.findKey,run_underlying hu,h1],afw h2,fun u=>air h2⟩
 ·right;refine⟨j,e,p,by simpa using h1,h2,?_,afx h2 h4 h6,fun u=>ais h2 h4 h6,h5⟩;simp only[je] at h3;simp[Instr.findKey,run_underlying hu,h3]
theorem av4 (h:Inv C S ρ σ own hv w0 σ0 A a w)(hC:CtxOK C σ0)(hg:holds gs ρ=true){T:TypeId}{m k:Operand}{ok:Bool}{r:Sh×List PI}(hr:Vf C S gs dst T m k ok=some r){o:Oper}(ho:o.op=.lookup T m k ok):
 eK C S ρ σ hv Φ dst a w o r:=by
 unfold Vf at hr;split at hr
 case h_2=>cases hr
 rename_i K E hT;simp only[aA] at hr;obtain⟨p,hp,q,hq,hr⟩:=hr;have aV:=aam h hC hg hp;have dI:=cw h hC hg hq;split at hr
 case h_2=>cases hr
 rename_i kt et e1;rw[e1] at aV;split at hr
 case h_2=>cases hr
 rename_i z inf hz sC;cases hc:(Ty.beq q.1 kt&&wg C.P K kt&&Ty.sub z.1 et&&u9 inf et)<;>simp only[hc,cond_true,cond_false] at hr
 ·cases hr
 simp only[aw] at hc;obtain⟨⟨⟨LU,FG⟩,cM⟩,hzero⟩:=hc;rw[Ty.beq_eq _ _ LU] at dI;obtain⟨v0,eT,Ge⟩:∃v0,inf.zero=some v0∧Rep C.cap σ et v0 z.2:=by
  unfold u9 at hzero;split at hzero
  ·rename_i v0 e0;exact⟨v0,e0,(z8 hz hzero).1.sub cM⟩
  ·cases hzero
 have aq9:∃(arr:Array MapEntry) (ds:List (D×D)),(p.2.ev ρ).m=ds∧ds.length=arr.size∧
  (∀(j:Nat) (e:MapEntry) (p:D×D),arr[j]?=some e→ds[j]?=some p→Rep C.cap σ kt e.key p.1∧Rep C.cap σ et e.val p.2)∧
  ((a.eval m=.map none∧arr=#[])∨∃g clock,a.eval m=.map (some g)∧w.heap[g]?=some (.map arr clock)):=by
  rcases aV with aV|⟨T',e,cells,xs,ht,_⟩|⟨g,arr,clock,es,kt',et',ht,hvm,hb,hd,hl,hx,aO⟩
  ·generalize yW:a.eval m=v at aV;generalize Fu:p.2.ev ρ=d at aV;cases aV with
   |mapnil=>exact⟨#[],[],by simp[D.m],rfl,by simp,.inl ⟨rfl,rfl⟩⟩
   |map kt et r ic es hm hl hx hk he=>
    obtain⟨arr,clock,hb,lg⟩:=(h.ok.m _ _ hm).mp (Gy hl hk) (af6 hl hk);have hn:es.length=arr.size:=by rw[hl,←lg];simp[entriesOf]
    refine⟨arr,es,by simp[D.m],hn,fun j e p hj hp=>?_,.inr ⟨r,clock,rfl,hb⟩⟩;have:ic[j]?=some (e.key,e.val):=by rw[←lg];simp[entriesOf,hj]
    exact⟨hk j _ p this hp,he j _ p this hp⟩
  ·cases ht
  ·cases ht;exact⟨arr,es,by rw[hd];rfl,hl,aO,.inr ⟨g,clock,hvm,hb⟩⟩
 obtain⟨arr,ds,hd,hl,aO,cT⟩:=aq9;have lb:∀b,(Instr.checkKey b 10000 K (a.eval k)).run C.P w=.ok () w:=fun b=>abW (cap:=C.cap) (σ:=σ) FG dI;have SG:∃u b x,(Instr.lookup T (a.eval m) (a.eval k) ok).run C.P w=.ok (if ok then .tuple #[u,.bool b] else u) w∧(jL (q.2.ev ρ) (p.2.ev ρ).m).getD z.2=x∧(jL (q.2.ev ρ) (p.2.ev ρ).m).isSome=b∧Rep C.cap σ et u x:=by
  rw[hd];rcases run_findKey FG dI arr ds hl aO w with⟨h1,h2,_⟩|⟨j,e,x,h1,h2,h3,h4,_,_⟩
  ·refine⟨v0,false,z.2,?_,by rw[h2];rfl,by rw[h2];rfl,Ge⟩;rcases cT with⟨em,rfl⟩|⟨g,clock,em,hb⟩
   ·simp only[List.toList_toArray] at h1;cases ok<;>simp[Instr.lookup,run_underlying hT,em,lb,h1,zeroValue,run_typeInfo w sC,eT]
   ·cases ok<;>simp[Instr.lookup,run_underlying hT,em,getObj,Sem.run,hb,lb,h1,zeroValue,run_typeInfo w sC,eT]
  ·refine⟨e.val,true,x.2,?_,by rw[h4];rfl,by rw[h4];rfl,(aO j e x h1 h2).2⟩;rcases cT with⟨em,rfl⟩|⟨g,clock,em,hb⟩
   ·simp at h1
   ·cases ok<;>simp[Instr.lookup,run_underlying hT,em,getObj,Sem.run,hb,lb,h3]
 obtain⟨u,b,x,ao,kF,vU,bO⟩:=SG;cases ok with
 |true=>
  simp only[cond_true] at hr;cases hr;refine .dat (v:=.tuple #[u,.bool b]) (by simp[execOp,ho,ao]) ?_;simp only[PE.ev,PE.evs,kF,vU];refine .tup [et,.bool] [u,.bool b] [x,.v (.bool b)] rfl rfl (fun i t hi=>?_)
  match i,hi with
  |0,hi=>simp at hi;subst hi;exact bO
  |1,hi=>simp at hi;subst hi;exact .bool b
  |i+2,hi=>simp at hi
 |false=>
  simp only[cond_false] at hr;cases hr;refine .dat (v:=u) (by simp[execOp,ho,ao]) ?_;simp only[PE.ev,kF];exact bO
end
end Cx
namespace Cx
open Go Go.RowKit
theorem acQ (off:Nat):∀(l:List Value) (s:Nat) (cells:Array Value),off+s+l.length≤cells.size→
 ((l.zipIdx s).foldl (fun cs (x:Value×Nat)=>cs.setIfInBounds (off+x.2) x.1) cells).size=cells.size∧
 ∀p,((l.zipIdx s).foldl (fun cs (x:Value×Nat)=>cs.setIfInBounds (off+x.2) x.1) cells)[p]?=if off+s≤p∧p<off+s+l.length then l[p-(off+s)]? else cells[p]?
 |[],s,cells,_=>by
  refine⟨rfl,fun p=>?_⟩;have:¬(off+s≤p∧p<off+s+0):=by omega
  simp only[List.zipIdx_nil,List.foldl_nil,Ap];rw[if_neg this]
 |v::l,s,cells,h=>by
  simp only[oL] at h;obtain⟨h1,h2⟩:=acQ off l (s+1) (cells.setIfInBounds (off+s) v) (by simp;omega);simp only[List.zipIdx_cons,xw];refine⟨by rw[h1];simp,fun p=>?_⟩;rw[h2 p];by_cases hp:p=off+s
  ·subst hp;have c1:¬(off+(s+1)≤off+s∧off+s<off+(s+1)+l.length):=by omega
   have c2:off+s≤off+s∧off+s<off+s+(v::l).length:=by simp
   rw[if_neg c1,if_pos c2,DK,if_pos rfl,if_pos (by omega)];simp
  ·by_cases hc:off+(s+1)≤p∧p<off+(s+1)+l.length
   ·have c2:off+s≤p∧p<off+s+(v::l).length:=by simp only[oL];omega
    rw[if_pos hc,if_pos c2];rw[show p-(off+s)=(p-(off+(s+1)))+1 by omega];simp
   ·have c2:¬(off+s≤p∧p<off+s+(v::l).length):=by simp only[oL];omega
    rw[if_neg hc,if_neg c2,DK];rw[if_neg (by omega)]
theorem RA (place:Nat→Option (Nat×Nat)):∀(parts:List (Nat×Value)) (cells:Array Value),
 (∀p,p∈parts→∃o,place p.1=some (o,p.2.cells.size)∧o+p.2.cells.size≤cells.size)→
 (∀i j oi si oj sj,i≠j→place i=some (oi,si)→place j=some (oj,sj)→oi+si≤oj∨oj+sj≤oi)→(parts.map (·.1)).Nodup→
 ∃dp,Instr.fill place cells parts=some dp∧dp.size=cells.size∧
  (∀i v o,(i,v)∈parts→place i=some (o,v.cells.size)→∀m,m<v.cells.size→dp[o+m]?=v.cells[m]?)∧
  (∀i o s,i∉parts.map (·.1)→place i=some (o,s)→∀m,m<s→dp[o+m]?=cells[o+m]?)
 |[],cells,_,_,_=>⟨cells,rfl,rfl,by simp,fun _ _ _ _ _ _ _=>rfl⟩
 |(i,v)::parts,cells,h,B6,bx=>by
  obtain⟨o,hp,hle⟩:=h (i,v) (fK ..);simp only at hp hle;obtain⟨g1,g2⟩:=acQ o v.cells.toList 0 cells (by simp;omega);simp only[jc,qk] at bx
  have hz:v.cells.zipIdx.foldl (fun cs (x:Value×Nat)=>cs.setIfInBounds (o+x.2) x.1) cells=(v.cells.toList.zipIdx 0).foldl (fun cs (x:Value×Nat)=>cs.setIfInBounds (o+x.2) x.1) cells:=by
    rw[←Array.foldl_toList];simp
  generalize hc1:(v.cells.toList.zipIdx 0).foldl (fun cs (x:Value×Nat)=>cs.setIfInBounds (o+x.2) x.1) cells=c1 at g1 g2 hz
  obtain⟨dp,k1,k2,k3,k4⟩:=RA place parts c1 (fun p hm=>by
    obtain⟨o',h1,h2⟩:=h p (fy _ hm);exact⟨o',h1,by rw[g1];exact h2⟩) B6 bx.2
  refine⟨dp,?_,k2.trans g1,?_,?_⟩
  ·simp only[Instr.fill,hp];have:¬((v.cells.size≠v.cells.size||decide (o+v.cells.size>cells.size))=true):=by simp;omega
   rw[if_neg this];rw[←k1,←hz]
  ·intro j u o' hm Ck m af;rcases cC.1 hm with e|fE
   ·cases e;rw[hp] at Ck;cases Ck;rw[k4 i o v.cells.size bx.1 hp m af,g2];rw[if_pos (by simp;omega)];simp
   ·exact k3 j u o' fE Ck m af
  ·intro j o' s' sH Ck m af;simp only[jc,cC,not_or] at sH;rw[k4 j o' s' sH.2 Ck m af,g2];have:=B6 i j o v.cells.size o' s' (fun e=>sH.1 e.symm) hp Ck;rw[if_neg (by simp;omega)]
section
variable {C:Ctx} {S:St} {ρ:Env} {σ:Im} {own:Nat→Option Nat} {hv:Nat→Value} {w0:World} {σ0:Base} {A:Nat→Prop} {a:Act} {w:World} {gs:List (Nat×Bool)} {Φ:aW} {dst:Nat}
theorem Rep.flat {cap:Nat→Option CSig}{t:Ty}{v:Value}{d:D}(h:Rep cap σ t v d)(ht:t.rowT=true∨t.one=true):
 t.flat.length=t.size∧d.cells.length=t.size∧∀(m:Nat) (tm:Ty),t.flat[m]?=some tm→tm.one=true∧Rep cap σ tm (v.cells.getD m undef) (d.cells.getD m .none):=by
 cases h with
 |agg ts vs ds h1 h2 h ho=>
  refine⟨rfl,by simp[D.cells,Ty.size,h2],fun m tm hm=>⟨ho m tm hm,?_⟩⟩;have:=h m tm hm;simpa [Value.cells,D.cells,gG,aI] using this
 |tup ts vs ds h1 h2 h=>simp[Ty.rowT,Ty.one] at ht
 |_=>
  refine⟨rfl,rfl,fun m tm hm=>?_⟩
  match m,hm with
  |0,hm=>
   simp only[Ty.flat,PD,bj] at hm;subst hm;refine⟨rfl,?_⟩;simp only[Value.cells,D.cells,oI];constructor<;>assumption
  |m+1,hm=>simp[Ty.flat] at hm
theorem rf:∀{l:List Nat},kf l=true→l.Nodup
 |[],_=>List.nodup_nil
 |a::r,h=>by
  simp only[kf,aw,mi] at h;refine qk.2 ⟨fun hm=>?_,rf h.2⟩;have:=List.any_eq_false.1 h.1 a hm;simp at this
def Laid (P:Program):List Field→Nat→Prop
 |[],_=>True
 |f::fs,off=>f.offset=off∧∃inf,P.info? f.type=some inf∧Laid P fs (off+inf.size)
theorem Laid.get {P:Program}:∀{fs:List Field} {off:Nat},Laid P fs off→∀(i:Nat) (f:Field),fs[i]?=some f→∃inf,P.info? f.type=some inf∧off≤f.offset∧
 ∀(j:Nat) (g:Field),i<j→fs[j]?=some g→f.offset+inf.size≤g.offset
 |[],_,_,i,f,hi=>by simp at hi
 |f0::fs,off,h,i,f,hi=>by
  obtain⟨h1,inf,h2,h3⟩:=h;cases i with
  |zero=>
   simp at hi;subst hi;refine⟨inf,h2,by omega,fun j g hj hg=>?_⟩;cases j with
   |zero=>omega
   |succ j=>obtain⟨_,_,h4,_⟩:=h3.get j g (by simpa using hg);omega
  |succ i=>
   simp at hi;obtain⟨att,k1,k2,k3⟩:=h3.get i f hi;refine⟨att,k1,by omega,fun j g hj hg=>?_⟩;cases j with
   |zero=>omega
   |succ j=>exact k3 j g (by omega) (by simpa using hg)
theorem ah9 {ft:Ty}{x:Operand}{y:List AgC×PE}(h:CR C S gs ft x=some y):y.1.length=ft.size:=by
 have RJ:∀t:Ty,t.flat.length=t.size:=fun t=>by cases t<;>simp[Ty.flat,Ty.size]
 unfold CR at h;split at h
 ·rename_i a _;cases hs:(Ty.sub a.1 ft&&(a.1.rowT||a.1.one))<;>simp only[hs,cond_true,cond_false] at h
  ·cases h
  cases h;simp only[aw] at hs;rw[dM,RJ,(Ty.sub_one _ _ hs.1).2]
 ·split at h
  ·rename_i j ver _;cases hb:(Nat.beq ver (S.ver j)&&TQ (S.o j)&&Nat.beq ft.size 1)<;>simp only[hb,cond_true,cond_false] at h
   ·cases h
   cases h;simp only[aw] at hb;exact(aD hb.2).symm
  ·cases h
theorem aia (h:Inv C S ρ σ own hv w0 σ0 A a w)(hC:CtxOK C σ0)(hg:holds gs ρ=true){ft:Ty}{x:Operand}{y:List AgC×PE}(hy:CR C S gs ft x=some y):
 (a.eval x).cells.size=ft.size∧(y.2.ev ρ).cells.length=ft.size∧∀(m:Nat) (c:AgC),y.1[m]?=some c→rQ C S σ hv c ((a.eval x).cells.getD m undef) ((y.2.ev ρ).cells.getD m .none):=by
 unfold CR at hy;split at hy
 ·rename_i q hq;cases hs:(Ty.sub q.1 ft&&(q.1.rowT||q.1.one))<;>simp only[hs,cond_true,cond_false] at hy
  ·cases hy
  cases hy;simp only[aw,lN] at hs;have hr:=cw h hC hg hq;obtain⟨f1,f2,f3⟩:=hr.flat hs.2;have e:=(Ty.sub_one _ _ hs.1).2;refine⟨by rw[hr.size,e],by rw[f2,e],fun m c hm=>?_⟩;simp only[ct,aC] at hm;obtain⟨t,ht,rfl⟩:=hm;exact f3 m t ht
 ·split at hy
  ·rename_i j ver oa;cases hb:(Nat.beq ver (S.ver j)&&TQ (S.o j)&&Nat.beq ft.size 1)<;>simp only[hb,cond_true,cond_false] at hy
   ·cases hy
   cases hy;simp only[aw] at hb;obtain⟨⟨jF,dG⟩,R8⟩:=hb;have ed:=aD jF;have aP:=aD R8;have dU:aJ C S ρ σ hv (gD S gs x) (a.eval x) ((tn x).ev ρ):=by
        cases x with
        |tmp t=>exact(rJ h hg t).1
        |_=>cases oa
   rw[oa] at dU;have aL:=dU.2 ed;have bt:=h.objs j;have hc:(a.eval x).cells=#[a.eval x]:=by
        rw[aL];cases ho:S.o j with
        |row T e=>
         rw[ho] at bt;obtain⟨cells,xs,_,h2,_⟩:=bt;rcases h2.2 with⟨e1,_⟩|⟨g,cap,cur,e1,_⟩<;>rw[e1]<;>rfl
        |_=>rw[ho] at dG;cases dG
   refine⟨by rw[hc,aP];rfl,by rw[aP];rfl,fun m c hm=>?_⟩;cases m with
   |zero=>
    simp at hm;subst hm;rw[hc];exact dU
   |succ m=>simp at hm
  ·cases hy
theorem al8 {zs:List Value}{parts:List (Nat×Operand)}:∀(fs:List Field) (i off:Nat) (r:List AgC×List PE),nw C S gs zs parts fs i off=some r→Laid C.P fs off:=by
 intro fs
 induction fs with
 |nil=>intro i off r _;trivial
 |cons f fs ih=>
  intro i off r h;simp only[nw] at h;split at h
  case h_2=>cases h
  rename_i inf ft hi ht;cases hc:(Nat.beq f.offset off&&Nat.beq inf.size ft.size)<;>simp only[hc,cond_true,cond_false] at h
  ·cases h
  simp only[aw] at hc;simp only[aA] at h;obtain⟨q,hq,_⟩:=h;exact⟨aD hc.1,inf,hi,ih _ _ _ hq⟩
theorem abK {zs:List Value}{parts:List (Nat×Operand)}:∀(fs:List Field) (i off:Nat) (r:List AgC×List PE),nw C S gs zs parts fs i off=some r→off≤zs.length:=by
 intro fs
 induction fs with
 |nil=>intro i off r h;simp only[nw] at h;cases hb:Nat.beq off zs.length<;>simp[hb] at h;exact Nat.le_of_eq (aD hb)
 |cons f fs ih=>
  intro i off r h;simp only[nw] at h;split at h
  case h_2=>cases h
  rename_i inf ft hi ht;cases hc:(Nat.beq f.offset off&&Nat.beq inf.size ft.size)<;>simp only[hc,cond_true,cond_false] at h
  ·cases h
  simp only[aA] at h;obtain⟨q,hq,_⟩:=h;have:=ih _ _ _ hq;omega
theorem al7 {zs:List Value}{parts:List (Nat×Operand)}:∀(fs:List Field) (i off:Nat) (r:List AgC×List PE),nw C S gs zs parts fs i off=some r→
 ∃ft:List AgC×List PE,r=ft∧(∀(m:Nat) (f:Field) (inf:TypeInfo),fs[m]?=some f→C.P.info? f.type=some inf→f.offset+inf.size≤zs.length)∧(∀(m:Nat) (x:Nat×Operand) (f:Field) (inf:TypeInfo),fs[m]?=some f→C.P.info? f.type=some inf→parts.find? (fun p=>Nat.beq p.1 (i+m))=some x→∃y ft,CR C S gs ft x.2=some y∧ft.size=inf.size)∧off+r.1.length=zs.length:=by
 intro fs
 induction fs with
 |nil=>intro i off r h;simp only[nw] at h;cases hb:Nat.beq off zs.length<;>simp[hb] at h;subst h;exact⟨_,rfl,by simp,by simp,by simpa using aD hb⟩
 |cons f fs ih=>
  intro i off r h;simp only[nw] at h;split at h
  case h_2=>cases h
  rename_i inf ft hi ht;cases hc:(Nat.beq f.offset off&&Nat.beq inf.size ft.size)<;>simp only[hc,cond_true,cond_false] at h
  ·cases h
  simp only[aw] at hc;have iS:=aD hc.1;have aP:=aD hc.2;simp only[aA] at h;obtain⟨q,hq,h⟩:=h;have hle:=abK _ _ _ _ hq;obtain⟨_,rfl,k1,k2,k3⟩:=ih _ _ _ hq;have e1:∀(m:Nat) (g:Field) (ig:TypeInfo),(f::fs)[m]?=some g→C.P.info? g.type=some ig→g.offset+ig.size≤zs.length:=by
   intro m g ig hm gh;cases m with
   |zero=>simp at hm;subst hm;rw[hi] at gh;cases gh;omega
   |succ m=>exact k1 m g ig (by simpa using hm) gh
  have RJ:∀t:Ty,t.flat.length=t.size:=fun t=>by cases t<;>simp[Ty.flat,Ty.size]
  split at h
  ·rename_i x hx;simp only[aC] at h;obtain⟨y,hy,rfl⟩:=h;refine⟨_,rfl,e1,fun m x' g ig hm gh hf=>?_,?_⟩
   ·cases m with
    |zero=>
     simp at hm;subst hm;rw[hi] at gh;cases gh;simp only[mq] at hf;rw[hx] at hf;cases hf;exact⟨y,ft,hy,aP.symm⟩
    |succ m=>exact k2 m x' g ig (by simpa using hm) gh (by rwa [show i+(m+1)=i+1+m by omega] at hf)
   ·have:=ah9 hy;simp only[mm];omega
  ·rename_i hx;cases mN:jV ft (rowOf ft.rowT ((zs.drop off).take inf.size))<;>simp only[mN,cond_true,cond_false] at h
   ·cases h
   simp only[aC] at h;obtain⟨z,hz,rfl⟩:=h;have cB:=(z8 (cap:=C.cap) (σ:=⟨fun _ _=>none,fun _=>none⟩) hz mN).2.1;refine⟨_,rfl,e1,fun m x' g ig hm gh hf=>?_,?_⟩
   ·cases m with
    |zero=>simp only[mq] at hf;rw[hx] at hf;cases hf
    |succ m=>exact k2 m x' g ig (by simpa using hm) gh (by rwa [show i+(m+1)=i+1+m by omega] at hf)
   ·have:=(Ty.sub_one _ _ cB).2;simp only[mm,dM,RJ];omega
theorem al9 (h:Inv C S ρ σ own hv w0 σ0 A a w)(hC:CtxOK C σ0)(hg:holds gs ρ=true){zs:List Value}{parts:List (Nat×Operand)}(cells:Array Value):
 ∀(fs:List Field) (i off:Nat) (r:List AgC×List PE),nw C S gs zs parts fs i off=some r→
  (∀(m:Nat) (f:Field) (inf:TypeInfo),fs[m]?=some f→C.P.info? f.type=some inf→
        (∀x,parts.find? (fun p=>Nat.beq p.1 (i+m))=some x→∀q,q<inf.size→cells[f.offset+q]?=(a.eval x.2).cells[q]?)∧
        (parts.find? (fun p=>Nat.beq p.1 (i+m))=none→∀q,q<inf.size→cells[f.offset+q]?=zs[f.offset+q]?))→
  (PE.evc ρ r.2).length=r.1.length∧∀(m:Nat) (c:AgC),r.1[m]?=some c→rQ C S σ hv c (cells.getD (off+m) undef) ((PE.evc ρ r.2).getD m .none):=by
 intro fs
 induction fs with
 |nil=>intro i off r hr _;simp only[nw] at hr;cases hb:Nat.beq off zs.length<;>simp[hb] at hr;subst hr;simp[PE.evc]
 |cons f fs ih=>
  intro i off r hr aO;simp only[nw] at hr;split at hr
  case h_2=>cases hr
  rename_i inf ft hi ht;cases hc:(Nat.beq f.offset off&&Nat.beq inf.size ft.size)<;>simp only[hc,cond_true,cond_false] at hr
  ·cases hr
  simp only[aw] at hc;have iS:=aD hc.1;have aP:=aD hc.2;simp only[aA] at hr;obtain⟨q,hq,hr⟩:=hr
  obtain⟨l1,sM⟩:=ih (i+1) (off+inf.size) q hq (fun m g atu hm gh=>by
   have:=aO (m+1) g atu (by simpa using hm) gh
   rwa [show i+(m+1)=i+1+m by omega] at this)
  obtain⟨hp,hn⟩:=aO 0 f inf rfl hi;have join:∀(l:List AgC) (v:Value) (d:D) (pe:PE),pe.ev ρ=d→l.length=inf.size→d.cells.length=inf.size→(∀m c,l[m]?=some c→rQ C S σ hv c (v.cells.getD m undef) (d.cells.getD m .none))→(∀m,m<inf.size→cells[f.offset+m]?=v.cells[m]?)→
        (PE.evc ρ (pe::q.2)).length=(l++q.1).length∧∀(m:Nat) (c:AgC),(l++q.1)[m]?=some c→rQ C S σ hv c (cells.getD (off+m) undef) ((PE.evc ρ (pe::q.2)).getD m .none):=by
   intro l v d pe ln f1 f2 f3 aZ;simp only[PE.evc,ln];refine⟨by simp[f1,f2,l1],fun m t' hm=>?_⟩;rw[ml] at hm;split at hm
   ·rename_i af;have g2:=f3 m t' hm;have e1:cells.getD (off+m) undef=v.cells.getD m undef:=by
     rw[gG,gG,←iS,aZ m (by omega)]
    have e2:(d.cells++PE.evc ρ q.2).getD m .none=d.cells.getD m .none:=by
     rw[aI,aI,oJ (by omega)]
    rw[e1,e2];exact g2
   ·rename_i fN;have g2:=sM _ t' hm;have e1:off+inf.size+(m-l.length)=off+m:=by omega
    have e2:(d.cells++PE.evc ρ q.2).getD m .none=(PE.evc ρ q.2).getD (m-l.length) .none:=by
     rw[aI,aI,oK (by omega)];rw[f1,←f2]
    rw[e1] at g2;rw[e2];exact g2
  simp only[mq] at hp hn;split at hr
  ·rename_i x hx;simp only[aC] at hr;obtain⟨y,hy,rfl⟩:=hr;obtain⟨g1,g2,g3⟩:=aia h hC hg hy;exact join y.1 (a.eval x.2) (y.2.ev ρ) y.2 rfl (by rw[ah9 hy,aP]) (by rw[g2,aP]) g3 (hp x hx)
  ·rename_i hx;cases mN:jV ft (rowOf ft.rowT ((zs.drop off).take inf.size))<;>simp only[mN,cond_true,cond_false] at hr
   ·cases hr
   simp only[aC] at hr;obtain⟨z,hz,rfl⟩:=hr;obtain⟨k1,k2,k3⟩:=z8 (cap:=C.cap) (σ:=σ) hz mN;have vH:(rowOf ft.rowT ((zs.drop off).take inf.size)).cells.size=inf.size:=by rw[k1.size,(Ty.sub_one _ _ k2).2,aP]
   have iT:z.1.rowT=true∨z.1.one=true:=by
        cases ft<;>simp[qa,rP] at hz<;>first|(subst hz;simp[Ty.one])|(obtain⟨_,_,rfl⟩:=hz;simp[Ty.rowT])
   obtain⟨z1,z2,z3⟩:=k1.flat iT;have ez:z.1.size=inf.size:=by rw[(Ty.sub_one _ _ k2).2,aP]
   refine join (z.1.flat.map .dat) (rowOf ft.rowT ((zs.drop off).take inf.size)) z.2 (.con z.2) rfl (by rw[dM,z1,ez]) (by rw[z2,ez]) (fun m c hm=>?_) (fun m hm=>?_)
   ·simp only[ct,aC] at hm;obtain⟨t,ht,rfl⟩:=hm;exact z3 m t ht
   ·rw[hn hx m hm,iS];cases vM:ft.rowT with
    |true=>simp[rowOf,Value.cells,iI,jb,hm]
    |false=>
     rw[vM] at vH k1;have h1:(z.1).rowT=false:=by
       have:=(Ty.sub_one _ _ k2)
       cases ft<;>simp[Ty.rowT] at vM<;>simp[qa,rP] at hz<;>subst hz<;>rfl
     rw[k1.cells1 h1] at vH ⊢;simp at vH;have hm0:m=0:=by omega
     subst hm0;have:∃u,zs[off]?=some u:=⟨_,aX (show off<zs.length by have:=abK _ _ _ _ hq;omega)⟩
     simp[rowOf,aI,iI,jb,←vH];obtain⟨u,hu⟩:=this;simp[hu]
theorem afj {P:Program}:∀(fs:List Field) (off:Nat),Laid P fs off→
 ∃l:List (Nat×Nat),fs.mapM (fun f=>(P.info? f.type).map fun i=>(f.offset,i.size))=some l∧l.length=fs.length∧
  ∀(i:Nat) (f:Field) (inf:TypeInfo),fs[i]?=some f→P.info? f.type=some inf→l[i]?=some (f.offset,inf.size)
 |[],_,_=>⟨[],rfl,rfl,by simp⟩
 |f::fs,off,h=>by
  obtain⟨h1,inf,h2,h3⟩:=h;obtain⟨l,k1,k2,k3⟩:=afj fs _ h3;refine⟨(f.offset,inf.size)::l,?_,by simp[k2],fun i g ig hi gh=>?_⟩
  ·simp[aa2,h2,k1]
  ·cases i with
   |zero=>simp at hi;subst hi;rw[h2] at gh;cases gh;rfl
   |succ i=>simp at hi;simpa using k3 i g ig hi gh
theorem acI {parts:List (Nat×Operand)}(bx:(parts.map (·.1)).Nodup){i:Nat}{x:Operand}(h:(i,x)∈parts):parts.find? (fun p=>Nat.beq p.1 i)=some (i,x):=by
 induction parts with
 |nil=>cases h
 |cons p ps ih=>
  simp only[jc,qk] at bx;rcases cC.1 h with e|hm
  ·subst e;simp
  ·have:¬p.1=i:=fun e=>bx.1 (e▸Ar (f:=(·.1)) hm);rw[List.find?_cons_of_neg (by simpa using this)];exact ih bx.2 hm
theorem avU (h:Inv C S ρ σ own hv w0 σ0 A a w)(hC:CtxOK C σ0)(hg:holds gs ρ=true){T:TypeId}{ps:Array (Nat×Operand)}{r:Sh×List PI}(hr:U6 C S gs dst T ps.toList=some r){o:Oper}(ho:o.op=.build T ps):
 eK C S ρ σ hv Φ dst a w o r:=by
 unfold U6 at hr;split at hr
 case h_2=>cases hr
 rename_i fs inf hT sC;split at hr
 case h_2=>cases hr
 rename_i zs hz;cases hc:(kf (ps.toList.map (·.1))&&ps.toList.all (fun p=>Nat.blt p.1 fs.size))<;>simp only[hc,cond_true,cond_false] at hr
 ·cases hr
 simp only[aw] at hc;obtain⟨bx,af⟩:=hc;simp only[aC] at hr;obtain⟨q,hq,rfl⟩:=hr;have LW:=al8 _ _ _ _ hq;have mI:=rf bx;obtain⟨_,rfl,cf,ata,Sk⟩:=al7 _ _ _ _ hq;obtain⟨pl,jH,aHB,FX⟩:=afj _ _ LW
 have mL:∀p,p∈(ps.toList.map fun(x:Nat×Operand)=>(x.1,a.eval x.2))→∃o,pl.toArray[p.1]?=some (o,p.2.cells.size)∧o+p.2.cells.size≤zs.size:=by
  intro p hp;obtain⟨x,hx,rfl⟩:=cu.1 hp;have y0:x.1<fs.toList.length:=by
   have:=da.1 af x hx;have h2:x.1<fs.size:=by simpa [ql] using this
   simpa using h2
  obtain⟨f,hf⟩:∃f,fs.toList[x.1]?=some f:=⟨_,aX y0⟩
  obtain⟨ig,gh,_,_⟩:=LW.get _ _ hf;have FA:=acI mI (i:=x.1) (x:=x.2) hx;obtain⟨y,ft,hy,aP⟩:=ata x.1 (x.1,x.2) f ig hf gh (by simpa using FA);have vN:=(aia h hC hg hy).1;rw[aP] at vN;simp only;refine⟨f.offset,?_,?_⟩
  ·rw[vN];simpa using FX x.1 f ig hf gh
  ·rw[vN];simpa using cf x.1 f ig hf gh
 have B6:∀(i j oi si oj sj:Nat),i≠j→pl.toArray[i]?=some (oi,si)→pl.toArray[j]?=some (oj,sj)→oi+si≤oj∨oj+sj≤oi:=by
  intro i j oi si oj sj ay hi hj;simp only[xy] at hi hj;obtain⟨f,hf⟩:∃f,fs.toList[i]?=some f:=⟨_,aX (by have:=(fe.1 hi).1;omega)⟩
  obtain⟨g,yB⟩:∃g,fs.toList[j]?=some g:=⟨_,aX (by have:=(fe.1 hj).1;omega)⟩
  obtain⟨ig,gh,_,arT⟩:=LW.get _ _ hf;obtain⟨jg,hjg,_,arU⟩:=LW.get _ _ yB;rw[FX i f ig hf gh] at hi;rw[FX j g jg yB hjg] at hj;cases hi;cases hj;rcases I4 i j with af|fN
  ·exact .inl (arT j g af yB)
  ·exact .inr (arU i f (by omega) hf)
 obtain⟨dp,f1,f2,f3,f4⟩:=RA (pl.toArray[·]?) (ps.toList.map fun(x:Nat×Operand)=>(x.1,a.eval x.2)) zs mL B6 (by simpa [Pu] using mI)
 have aqL:C.P.built T (ps.toList.map fun(x:Nat×Operand)=>(x.1,a.eval x.2))=some dp:=by
  simp only[Program.built,sC,hT,hz,jH];exact f1
 have ao:(execOp a.eval o).run C.P w=.ok (.value (.agg dp)) w:=by
  have:=run_build (P:=C.P) w T (ps.map fun(x:Nat×Operand)=>(x.1,a.eval x.2)) dp (by rw[Ac];exact aqL);simp[execOp,ho,this]
 have sy:∀(m:Nat) (f:Field) (ig:TypeInfo),fs.toList[m]?=some f→C.P.info? f.type=some ig→
  (∀x,ps.toList.find? (fun p=>Nat.beq p.1 (0+m))=some x→∀q,q<ig.size→dp[f.offset+q]?=(a.eval x.2).cells[q]?)∧
  (ps.toList.find? (fun p=>Nat.beq p.1 (0+m))=none→∀q,q<ig.size→dp[f.offset+q]?=zs.toList[f.offset+q]?):=by
  intro m f ig hm gh;refine⟨fun x hx p hp=>?_,fun hx p hp=>?_⟩
  ·have kF:x.1=m:=by have:=PB hx;simpa using this
   have Cv:(x.1,a.eval x.2)∈(ps.toList.map fun(x:Nat×Operand)=>(x.1,a.eval x.2)):=cu.2 ⟨x,DQ hx,rfl⟩;obtain⟨o',gU,hle⟩:=mL _ Cv;simp only at gU hle;have aeo:=FX m f ig hm gh;simp only[xy,kF] at gU;rw[aeo] at gU;simp only[bj,oN] at gU;obtain⟨e1,e2⟩:=gU;exact f3 x.1 (a.eval x.2) f.offset Cv (by simp[kF,aeo,←e2]) p (by omega)
  ·have sH:m∉(ps.toList.map fun(x:Nat×Operand)=>(x.1,a.eval x.2)).map (·.1):=by
        intro dc;simp only[nq,cu,Pu] at dc;obtain⟨x,Cv,e⟩:=dc;have:=An.1 hx x Cv;simp[e] at this
   rw[f4 m f.offset ig.size sH (by simpa using FX m f ig hm gh) p hp];simp
 obtain⟨l1,aO⟩:=al9 h hC hg dp _ _ _ _ hq sy;have B4:dp=dp.toList.toArray:=by simp
 have hlen:dp.toList.length=q.1.length:=by simp[f2] at Sk ⊢;omega
 have ux:∀(i:Nat) (c:AgC),q.1[i]?=some c→rQ C S σ hv c (dp.toList.getD i undef) ((PE.evc ρ q.2).getD i .none):=fun i c hi=>by
  have:=aO i c hi;simpa [gG,aI] using this
 cases Sf:q.1.all ae0
 ·simp only[cond_false];exact fun ρ' pv=>⟨_,_,wS pv,ao,⟨dp.toList,PE.evc ρ q.2,by rw[←B4],by simp only[PE.ev],hlen,l1,ux⟩,fun _ _ e=>by cases e⟩
 ·simp only[cond_true];refine .dat ao ?_;simp only[PE.ev];rw[B4]
  have qT:∀(i:Nat) (t:Ty),(q.1.map AgC.ty)[i]?=some t→t.one=true∧Rep C.cap σ t (dp.toList.getD i undef) ((PE.evc ρ q.2).getD i .none):=fun i t hi=>by
   simp only[ct,aC] at hi;obtain⟨c,hc,rfl⟩:=hi;have h1:=ux i c hc;have h2:=da.1 Sf c (ko hc);cases c with
   |dat t=>exact h1
   |obj j ver=>cases h2
  exact .agg _ _ _ (by rw[dM];exact hlen) (by rw[dM];exact l1) (fun i t hi=>(qT i t hi).2) (fun i t hi=>(qT i t hi).1)
end
end Cx
namespace Cx
open Go Go.RowKit
def asi (b i:Nat):Nat:=4096*(i+1)+b
def St.fz (S:St)(j:Nat):St:=
 match S.o j with
 |.row _ e=>S.setO j (.fz (.slice e.rol))
 |.mp k e=>S.setO j (.fz (.map k e))
 |_=>S
def Fb (S:St)(b:Nat):Option (St×List PI):=
 match S.o b with
 |.box ag shs=>
  (xY S (.o b) shs 0).bind fun x=>
    bif ag then some (S.setO b (.fbox (.agg x.1)),[.setO b (.mk x.2)])
    else match x.1,x.2 with
     |[t],[e]=>some (S.setO b (.fbox t),[.setO b e])
     |_,_=>Option.none
 |_=>Option.none
def St.mv (S:St)(j j':Nat):St:=
 {S with o:=cd (cd S.o j' (S.o j)) j .dead,ver:=cd (cd S.ver j' (S.ver j'+1)) j (S.ver j+1)}
def pA:Ob→Bool
 |.row ..=>true
 |.mp ..=>true
 |_=>false
def Ie (S:St)(t j':Nat):Option (St×List PI):=
 match S.r t with
 |.obj j ver=>
  bif Nat.beq ver (S.ver j)&&pA (S.o j)&& !Nat.beq j j' then some ((S.mv j j').setR t (.obj j' (S.ver j'+1)),[.setO j' (.o j)])
  else some (S,[])
 |_=>some (S,[])
def axP (S:St)(b i j':Nat):Option (St×List PI):=none
def FV (C:Ctx)(S:St)(b i j:Nat)(T:TypeId):Option (St×List PI):=
 match S.o b with
 |.box ag shs=>
  match shs[i]?,p9 C.P T with
  |some (.dat (.nils _)),some e=>
   bif !Nat.beq b j then some ((S.newO j (.row T e)).setO b (.box ag (shs.set i (.obj j (S.ver j+1)))),[.setO j (.con (.list []))])
   else some (S,[])
  |_,_=>some (S,[])
 |_=>some (S,[])
section
variable {C:Ctx} {S:St} {ρ:Env} {σ:Im} {own:Nat→Option Nat} {hv:Nat→Value} {w0:World} {σ0:Base} {A:Nat→Prop} {a:Act} {w:World} {gs:List (Nat×Bool)} {Φ:aW} {dst:Nat}
theorem Inv.lt (h:Inv C S ρ σ own hv w0 σ0 A a w){k o:Nat}{u:Value}(hc:σ.c k o=some u):k<w.heap.size:=World.block_lt_of_cell? w (a:=⟨k,o,none⟩) (h.ok.c _ _ _ hc)
theorem Inv.ltm (h:Inv C S ρ σ own hv w0 σ0 A a w){k:Nat}{es:List (Value×Value)}(hc:σ.m k=some es):k<w.heap.size:=by
 exact(h.ok.m _ _ hc).lt
theorem aj9 {w:World}{k:Nat}{c:Array Value}{T:TypeId}(h:w.heap[k]?=some (.cells c T (0,0)))(o:Nat):w.frozen? ⟨k,o,none⟩=false:=by simp[World.frozen?,h]
theorem ah5 {w:World}{base:Nat}{e:TypeId}{size:Nat}{v:Value}{n:Nat}{xs:List Value}(h:w.ownsRow base e size v n xs){g:Nat}(hg:v.ownBlock=some g)(o:Nat):w.frozen? ⟨g,o,none⟩=false:=by
 rcases h.2 with⟨rfl,_⟩|⟨g',cap,cur,rfl,_,h3,_⟩
 ·cases hg
 ·cases hg;exact aj9 h3 o
theorem ah4 {w:World}{base:Nat}{e:TypeId}{size:Nat}{v:Value}{n:Nat}{xs:List Value}(h:w.ownsRow base e size v n xs){g:Nat}(hg:v.ownBlock=some g):∃cs T fz,w.heap[g]?=some (.cells cs T fz):=by
 rcases h.2 with⟨rfl,_⟩|⟨g',cap,cur,rfl,_,h3,_⟩
 ·cases hg
 ·cases hg;exact⟨_,_,_,h3⟩
theorem Im.ok.fz {σ:Im}{w w':World}(h:σ.ok w)(hk:∀k o v,σ.c k o=some v→w'.heap[k]?=w.heap[k]?):∀k o n,σ.c k o=some (.int .i64 n)→k≤2∨w'.frozen? ⟨k,o,none⟩=false:=fun k o n hc=>by
 rw[World.frozen?_of_block (w:=w) (hk k o _ hc)];exact h.f k o n hc
theorem Im.ok.below {σ:Im}{w w':World}(h:σ.ok w)(hb:Below w.heap.size w w'):σ.ok w':=by
 refine⟨fun k o v hc=>?_,fun k es hc=>?_,h.fz fun k o v hc=>hb.block k (World.block_lt_of_cell? w (a:=⟨k,o,none⟩) (h.c k o v hc))⟩
 ·have h1:=h.c k o v hc;rw[hb.cell (World.block_lt_of_cell? w (a:=⟨k,o,none⟩) h1)];exact h1
 ·exact(h.m k es hc).keep (hb.block k (h.m k es hc).lt)
def fH (own:Nat→Option Nat)(j:Nat)(nb:Nat→Bool):Nat→Option Nat:=fun k=>if nb k then some j else if own k=some j then none else own k
theorem Inv.newOσ (h:Inv C S ρ σ own hv w0 σ0 A a w)(j:Nat)(ob:Ob)(d:D)(v:Value)(nb:Nat→Bool){σ':Im}{w':World}(hle:σ.le σ')(ax:σ'.ok w')(eD:∀k o x,σ'.c k o=some x→σ.c k o=some x∨w.heap.size≤k)(dv:∀k x,σ'.m k=some x→σ.m k=some x∨w.heap.size≤k)
 (hw:Below w.heap.size w w') (dS:∀k,nb k=true→w.heap.size≤k∧k<w'.heap.size) (fj:∀k,nb k=true→(∀o,σ'.c k o=none)∧σ'.m k=none)
 (cW:cA C (S.newO j ob) (ρ.setO j d) σ' (fH own j nb) (cd hv j v) w' w0.heap.size j ob) (qW:ob≠.tr:=by intro h;cases h):Inv C (S.newO j ob) (ρ.setO j d) σ' (fH own j nb) (cd hv j v) w0 σ0 A a w':=by
 have aP:w0.heap.size≤w.heap.size:=h.below.size;have bC:∀k i,i≠j→own k=some i→fH own j nb k=some i:=by
  intro k i hi hk;have h1:=h.owns k i hk;have h2:nb k=false:=by
   cases hn:nb k with
   |false=>rfl
   |true=>have:=dS k hn;omega
  simp[fH,h2,hk,hi]
 refine h.step (fun i=>i=j) rfl hle ax (fun k o x hx=>(eD k o x hx).imp id fun e=>⟨by omega,.inr e⟩) (fun k x hx=>(dv k x hx).imp id fun e=>⟨by omega,.inr e⟩) (hw.mono aP) ⟨fun i=>?_,fun i e=>?_⟩ (fun i hi=>⟨?_,?_,?_,fun k hk=>⟨bC k i hi hk,?_⟩⟩) (fun i hi=>?_) (fun k i hk=>?_) (fun _=>id) (fun t=>.inl ⟨rfl,rfl,rfl⟩) (fun _ _=>rfl) (fun k hk _=>hw.block k hk) (fun k i hk=>by
  unfold fH at hk;split at hk
  ·rename_i hn;exact .inr (dS k hn).1
  ·split at hk
   ·cases hk
   ·exact .inl ⟨i,hk⟩) (fun i hi=>by subst hi;simpa only[St.newO,aS] using qW)
 ·simp only[St.newO,fJ];split<;>rename_i e
  ·subst e;omega
  ·omega
 ·simp only[St.newO,fJ] at e;split at e
  ·rename_i e';subst e';omega
  ·rename_i ay;exact bM _ _ ay
 ·simp[St.newO,bM _ _ hi]
 ·simp[Env.setO,bM _ _ hi]
 ·exact bM _ _ hi
 ·exact hw.block k (h.owns k i hk).2.1
 ·subst hi;simp only[St.newO,aS];exact cW
 ·unfold fH at hk;split at hk
  ·rename_i hn;obtain⟨g1,g2⟩:=dS k hn;exact⟨by omega,g2,(fj k hn).1,(fj k hn).2⟩
  ·split at hk
   ·cases hk
   ·obtain⟨g1,g2,g3,g4⟩:=h.owns k i hk;refine⟨g1,by have:=hw.size;omega,fun o=>?_,?_⟩
    ·cases hc:σ'.c k o with
     |none=>rfl
     |some u=>
      rcases eD k o u hc with e|e
      ·rw[g3 o] at e;cases e
      ·omega
    ·cases hc:σ'.m k with
     |none=>rfl
     |some u=>
      rcases dv k u hc with e|e
      ·rw[g4] at e;cases e
      ·omega
theorem Inv.newO (h:Inv C S ρ σ own hv w0 σ0 A a w)(j:Nat)(ob:Ob)(d:D)(v:Value)(nb:Nat→Bool){w':World}(hw:Below w.heap.size w w')(dS:∀k,nb k=true→w.heap.size≤k∧k<w'.heap.size)
 (cW:cA C (S.newO j ob) (ρ.setO j d) σ (fH own j nb) (cd hv j v) w' w0.heap.size j ob) (qW:ob≠.tr:=by intro h;cases h):Inv C (S.newO j ob) (ρ.setO j d) σ (fH own j nb) (cd hv j v) w0 σ0 A a w':=by
 refine h.newOσ j ob d v nb (.refl σ) (h.ok.below hw) (fun _ _ _ hx=>.inl hx) (fun _ _ hx=>.inl hx) hw dS (fun k hn=>⟨fun o=>?_,?_⟩) cW qW
 ·cases hc:σ.c k o with
  |none=>rfl
  |some u=>have:=h.lt hc;have:=(dS k hn).1;omega
 ·cases hc:σ.m k with
  |none=>rfl
  |some u=>have:=h.ltm hc;have:=(dS k hn).1;omega
theorem Inv.setObj (h:Inv C S ρ σ own hv w0 σ0 A a w){t j:Nat}(ht:¬A t){v:Value}(eV:hv j=v)(af:t<a.tmps.size):
 Inv C (S.setR t (.obj j (S.ver j))) (ρ.setR t .none) σ own hv w0 σ0 (fun u=>A u∨u=t) (a.put (some t) v) w:=
 h.setReg ht (s:=.obj j (S.ver j)) (v:=v) (d:=.none) ⟨bn _,fun _=>eV.symm⟩ af (fun _ _ e=>by cases e)
theorem RO (S:St)(j:Nat):(S.fz j).ver=S.ver∧(S.fz j).r=S.r:=by
 unfold St.fz;split<;>exact⟨rfl,rfl⟩
theorem Inv.fz (h:Inv C S ρ σ own hv w0 σ0 A a w)(j:Nat):∃σ' own',σ.le σ'∧Inv C (S.fz j) ρ σ' own' hv w0 σ0 A a w:=by
 have bt:=h.objs j;unfold St.fz;split
 ·rename_i T e eo;rw[eo] at bt;obtain⟨cells,xs,h1,h2,⟨vs,h3,h4⟩,h5⟩:=bt;have aP:w0.heap.size≤w.heap.size:=h.below.size
  let nb:Nat→Bool:=fun k=>decide ((hv j).ownBlock=some k)
  let σ':Im:={c:=fun k o=>if nb k then cells[o]? else σ.c k o,m:=fun k=>if nb k then some mc else σ.m k}
  have dS:∀k,nb k=true→own k=some j:=fun k hk=>h5 k (by simpa [nb] using hk);have hle:σ.le σ':=by
   refine⟨fun k o v hc=>?_,fun k es hc=>?_⟩
   ·have:nb k=false:=by
     cases hn:nb k with
     |false=>rfl
     |true=>have:=(h.owns k j (dS k hn)).2.2.1 o;rw[this] at hc;cases hc
    simp[σ',this,hc]
   ·have:nb k=false:=by
     cases hn:nb k with
     |false=>rfl
     |true=>have:=(h.owns k j (dS k hn)).2.2.2;rw[this] at hc;cases hc
    simp[σ',this,hc]
  refine⟨σ',fun k=>if nb k then none else own k,hle,h.step (fun i=>i=j) rfl hle ?_ (fun k o x hx=>?_) (fun k x hx=>?_) (.refl _ _) ⟨fun _=>bn _,fun _ _=>rfl⟩ (fun i hi=>⟨?_,rfl,rfl,fun k hk=>⟨?_,rfl⟩⟩) (fun i hi=>?_) (fun k i hk=>?_) (fun _=>id) (fun t=>.inl ⟨rfl,rfl,rfl⟩) (fun _ _=>rfl) (fun _ _ _=>rfl) (fun k i hk=>by
        split at hk
        ·cases hk
        ·exact .inl ⟨i,hk⟩) (fun i hi=>by subst hi;simp[St.setO,aS])⟩
  ·refine⟨fun k o v hc=>?_,fun k es hc=>?_,fun k o v hc=>?_⟩
   all_goals simp only[σ'] at hc
   all_goals split at hc
   ·rename_i hn;have cW:(hv j).ownBlock=some k:=by simpa [nb] using hn
    have:=h2.cells cW o v hc;rw[tX] at this;simpa using this
   ·exact h.ok.c k o v hc
   ·rename_i hn;cases hc;obtain⟨cs,T,fz,e⟩:=ah4 h2 (g:=k) (by simpa [nb] using hn);exact .inr (.inr ⟨rfl,cs,T,fz,e⟩)
   ·exact h.ok.m k es hc
   ·rename_i hn;exact .inr (ah5 h2 (by simpa [nb] using hn) o)
   ·exact h.ok.f k o v hc
  ·simp only[σ'] at hx;split at hx
   ·rename_i hn;exact .inr ⟨(h.owns k j (dS k hn)).1,.inl ⟨j,dS k hn⟩⟩
   ·exact .inl hx
  ·simp only[σ'] at hx;split at hx
   ·rename_i hn;exact .inr ⟨(h.owns k j (dS k hn)).1,.inl ⟨j,dS k hn⟩⟩
   ·exact .inl hx
  ·simp[St.setO,bM _ _ hi]
  ·have:nb k=false:=by
        cases hn:nb k with
        |false=>rfl
        |true=>rw[dS k hn] at hk;simp at hk;exact absurd hk.symm hi
   simp[this,hk]
  ·subst hi;simp only[St.setO,aS];refine⟨rfl,?_⟩;rw[h1];rcases h2.2 with⟨e1,e2⟩|⟨g,cap,cur,e1,e2,e3,e4,e5,e6,e7⟩
   ·rw[e1];have:xs=[]:=Pz e2;subst this;exact .nil _
   ·rw[e1];refine .slice e.rol g 0 xs.length cap xs vs rfl e4 e5 (fun i x hx=>((h3 i x hx).mono hle).unf_rol) (fun i m u hi hu=>?_) (fun _=>by simp[σ',nb,e1,Value.ownBlock]);rw[Ty.rol_size];have hn:nb g=true:=by simp[nb,e1,Value.ownBlock]
    simp only[σ',hn,if_true,je];exact h4 i m u hi hu
  ·split at hk
   ·cases hk
   ·rename_i hn;obtain⟨g1,g2,g3,g4⟩:=h.owns k i hk;exact⟨g1,g2,fun o=>by simp[σ',hn,g3 o],by simp[σ',hn,g4]⟩
 ·rename_i kt et eo;rw[eo] at bt;obtain⟨k0,arr,clock,gO,h1,h2,h3,h4,h5,⟨hx,_⟩,h6⟩:=bt;have aP:w0.heap.size≤w.heap.size:=h.below.size
  let σ':Im:={c:=σ.c,m:=fun k=>if k=k0 then some (entriesOf arr) else σ.m k}
  have hle:σ.le σ':=by
   refine⟨fun k o v hc=>hc,fun k es hc=>?_⟩;have:k≠k0:=fun e=>by subst e;rw[(h.owns k j h2).2.2.2] at hc;cases hc
   simp[σ',this,hc]
  refine⟨σ',fun k=>if k=k0 then none else own k,hle,h.step (fun i=>i=j) rfl hle ?_ (fun k o x hx=>.inl hx) (fun k x hx=>?_) (.refl _ _) ⟨fun _=>bn _,fun _ _=>rfl⟩ (fun i hi=>⟨?_,rfl,rfl,fun k hk=>⟨?_,rfl⟩⟩) (fun i hi=>?_) (fun k i hk=>?_) (fun _=>id) (fun t=>.inl ⟨rfl,rfl,rfl⟩) (fun _ _=>rfl) (fun _ _ _=>rfl) (fun k i hk=>by
        split at hk
        ·cases hk
        ·exact .inl ⟨i,hk⟩) (fun i hi=>by subst hi;simp[St.setO,aS])⟩
  ·refine⟨h.ok.c,fun k es hc=>?_,h.ok.f⟩;simp only[σ'] at hc;split at hc
   ·rename_i e;subst e;cases hc;refine .inl ⟨fun e=>?_,arr,clock,h3,rfl⟩;refine Gy (cap:=C.cap) (σ:=σ) (kt:=kt) (es:=gO) (by simp[entriesOf,h5]) (fun i p q hp hq=>?_) e;simp only[entriesOf,ct,aC] at hp;obtain⟨x,dh,rfl⟩:=hp;exact(h6 i x q (by simpa using dh) hq).1
   ·exact h.ok.m k es hc
  ·simp only[σ'] at hx;split at hx
   ·rename_i e;subst e;exact .inr ⟨(h.owns k j h2).1,.inl ⟨j,h2⟩⟩
   ·exact .inl hx
  ·simp[St.setO,bM _ _ hi]
  ·have:k≠k0:=fun e=>by subst e;rw[h2] at hk;simp at hk;exact hi hk.symm
   simp[this,hk]
  ·subst hi;simp only[St.setO,aS];refine⟨rfl,?_⟩;rw[h1,h4];refine .map kt et k0 (entriesOf arr) gO (by simp[σ']) (by simp[entriesOf,h5]) hx (fun i p q hp hq=>?_) (fun i p q hp hq=>?_)
   ·simp only[entriesOf,ct,aC] at hp;obtain⟨e,he,rfl⟩:=hp;exact((h6 i e q (by simpa using he) hq).1).mono hle
   ·simp only[entriesOf,ct,aC] at hp;obtain⟨e,he,rfl⟩:=hp;exact((h6 i e q (by simpa using he) hq).2).mono hle
  ·split at hk
   ·cases hk
   ·rename_i hn;obtain⟨g1,g2,g3,g4⟩:=h.owns k i hk;exact⟨g1,g2,g3,by simp[σ',hn,g4]⟩
 ·exact⟨σ,own,.refl σ,h⟩
end
end Cx
