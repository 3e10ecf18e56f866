/-
  Shared texts of this claim.
-/
import Derived.Test.YtipjidjopglknaaGreatDoorNAA
import Derived.ChangeKeysEq
import Derived.Laws.Tables
set_option linter.unusedSimpArgs false
set_option linter.unusedVariables false
namespace Cx
open Go Go.RowKit
theorem Rep.int_inv {cap:Nat→Option CSig}{σ:Im}{k:IntKind}{v:Value}{d:D}(h:Rep cap σ (.int k) v d):∃n,v=.int k n∧d=.v (.int k n)∧k.min≤n∧n≤k.max:=by
 cases h with
 |int k n h1 h2=>exact⟨n,rfl,rfl,h1,h2⟩
theorem Rep.bool_inv {cap:Nat→Option CSig}{σ:Im}{v:Value}{d:D}(h:Rep cap σ .bool v d):∃b,v=.bool b∧d=.v (.bool b):=by
 cases h with
 |bool b=>exact⟨b,rfl,rfl⟩
theorem Rep.str_inv {cap:Nat→Option CSig}{σ:Im}{v:Value}{d:D}(h:Rep cap σ .str v d):∃s,v=.string s∧d=.v (.string s)∧s.size≤maxLen:=by
 cases h with
 |str s h=>exact⟨s,rfl,rfl,h⟩
theorem Rep.slice_inv {cap:Nat→Option CSig}{σ:Im}{e:Ty}{v:Value}{d:D}(h:Rep cap σ (.slice e) v d):∃xs,d=.list xs∧
 (((∃p,v=.slice p 0 0)∧xs=[])∨∃k o c,v=.slice (some ⟨k,o,none⟩) xs.length c∧xs.length≤c∧c≤maxLen∧
   ∃vs:Nat→Value,(∀(i:Nat) (x:D),xs[i]?=some x→Rep cap σ e.unf (vs i) x)∧∀(i j:Nat) (u:Value),i<xs.length→(vs i).cells[j]?=some u→σ.c k (o+i*e.size+j)=some u):=by
 cases h with
 |nil e=>exact⟨[],rfl,.inl ⟨⟨_,rfl⟩,rfl⟩⟩
 |emp e a=>exact⟨[],rfl,.inl ⟨⟨_,rfl⟩,rfl⟩⟩
 |slice e k o n c xs vs hn hc hm h hv hz=>subst hn;exact⟨xs,rfl,.inr ⟨k,o,c,rfl,hc,hm,vs,h,hv⟩⟩
theorem Rep.slice_inv' {cap:Nat→Option CSig}{σ:Im}{e:Ty}{v:Value}{d:D}(h:Rep cap σ (.slice e) v d):∃xs,d=.list xs∧
 (((∃p,v=.slice p 0 0)∧xs=[])∨∃k o c,v=.slice (some ⟨k,o,none⟩) xs.length c∧xs.length≤c∧c≤maxLen∧(e=.int .i64→σ.m k=some hG)∧
   ∃vs:Nat→Value,(∀(i:Nat) (x:D),xs[i]?=some x→Rep cap σ e.unf (vs i) x)∧∀(i j:Nat) (u:Value),i<xs.length→(vs i).cells[j]?=some u→σ.c k (o+i*e.size+j)=some u):=by
 cases h with
 |nil e=>exact⟨[],rfl,.inl ⟨⟨_,rfl⟩,rfl⟩⟩
 |emp e a=>exact⟨[],rfl,.inl ⟨⟨_,rfl⟩,rfl⟩⟩
 |slice e k o n c xs vs hn hc hm h hv hz=>subst hn;exact⟨xs,rfl,.inr ⟨k,o,c,rfl,hc,hm,hz,vs,h,hv⟩⟩
theorem Rep.ref_inv {cap:Nat→Option CSig}{σ:Im}{t:Ty}{v:Value}{d:D}(h:Rep cap σ (.ref t) v d):∃k o x y,v=.pointer (some ⟨k,o,none⟩)∧d=.ref y∧Rep cap σ t x y∧∀(j:Nat) (u:Value),x.cells[j]?=some u→σ.c k (o+j)=some u:=by
 cases h with
 |ref t k o x y h hv=>exact⟨k,o,x,y,rfl,rfl,h,hv⟩
theorem Rep.agg_inv {cap:Nat→Option CSig}{σ:Im}{ts:List Ty}{v:Value}{d:D}(h:Rep cap σ (.agg ts) v d):∃(vs:List Value) (ds:List D),v=.agg vs.toArray∧d=.agg ds∧vs.length=ts.length∧ds.length=ts.length∧
 (∀(i:Nat) (t:Ty),ts[i]?=some t→Rep cap σ t (vs.getD i undef) (ds.getD i .none))∧∀(i:Nat) (t:Ty),ts[i]?=some t→t.one=true:=by
 cases h with
 |agg ts vs ds h1 h2 h ho=>exact⟨vs,ds,rfl,rfl,h1,h2,h,ho⟩
theorem Rep.tup_inv {cap:Nat→Option CSig}{σ:Im}{ts:List Ty}{v:Value}{d:D}(h:Rep cap σ (.tup ts) v d):∃(vs:List Value) (ds:List D),v=.tuple vs.toArray∧d=.tup ds∧vs.length=ts.length∧ds.length=ts.length∧
 (∀(i:Nat) (t:Ty),ts[i]?=some t→Rep cap σ t (vs.getD i undef) (ds.getD i .none)):=by
 cases h with
 |tup ts vs ds h1 h2 h=>exact⟨vs,ds,rfl,rfl,h1,h2,h⟩
theorem sd (k:IntKind)(n:Int):k.min≤k.wrap n∧k.wrap n≤k.max:=by
 cases k<;>simp only[IntKind.min,IntKind.max,IntKind.wrap,IntKind.signed,IntKind.bits]<;>simp<;>(try split)<;>omega
theorem aep (k:IntKind){a b:Int}(ha:k.min≤a∧a≤k.max):k.min≤a.tmod b∧a.tmod b≤k.max:=by
 have h1:k.min≤0:=by cases k<;>decide
 have h2:0≤k.max:=by cases k<;>decide
 have hn:(a.tmod b).natAbs≤a.natAbs:=by rw[Int.natAbs_tmod];exact Nat.mod_le _ _
 rcases Int.le_total 0 a with h|h
 ·have:=Int.tmod_nonneg b h;omega
 ·have:a.tmod b≤0:=by
   have:=Int.tmod_nonneg b (a:=-a) (by omega);rw[Int.neg_tmod] at this;omega
  omega
theorem Xt (k:IntKind){a:Int}(n:Nat)(ha:k.min≤a∧a≤k.max):k.min≤a.fdiv (2^n)∧a.fdiv (2^n)≤k.max:=by
 have h1:k.min≤0:=by cases k<;>decide
 have h2:0≤k.max:=by cases k<;>decide
 have hp:(0:Int)<2^n:=Int.pow_pos (by decide);rw[afB _ (by omega)];rcases Int.le_total 0 a with h|h
 ·have h3:=Int.ediv_nonneg h (by omega:(0:Int)≤2^n);have h4:=Int.ediv_le_self (b:=2^n) h;omega
 ·have h3:a/2^n≤0:=by
   have:=Int.ediv_le_ediv hp h;simpa using this
  have h4:a≤a/2^n:=by
   rw[Int.le_ediv_iff_mul_le hp];have:a*2^n≤a*1:=Int.mul_le_mul_of_nonpos_left h (by omega);omega
  omega
section
variable {C:Ctx} {S:St} {ρ:Env} {σ:Im} {own:Nat→Option Nat} {hv:Nat→Value} {w0:World} {σ0:Base} {A:Nat→Prop} {a:Act} {w:World} {gs:List (Nat×Bool)} {Φ:aL} {dst:Nat}
theorem tL {e:PE}{ρ':Env}(h:PI.runs Φ [.setR dst e] ρ=some ρ'):ρ'=ρ.setR dst (e.ev ρ):=by
 simp[PI.runs,PI.run] at h;exact h.symm
theorem SJ (hg:holds gs ρ=true){c e:PE}{ρ':Env}(h:PI.runs Φ [qV gs c,.setR dst e] ρ=some ρ'):(c.ev ρ).b=true∧ρ'=ρ.setR dst (e.ev ρ):=by
 simp only[PI.runs,PI.run,qV] at h;cases dO:gs with
 |nil=>
  subst dO;simp only at h;cases hb:(c.ev ρ).b<;>simp[hb] at h;exact⟨rfl,h.symm⟩
 |cons g r=>
  rw[dO] at h;simp only at h;rw[dO] at hg;cases hb:(c.ev ρ).b
  ·simp[PE.ev,hg,hb,D.b_bool] at h
  ·simp[PE.ev,hg,hb,D.b_bool] at h;exact⟨rfl,h.symm⟩
def eG (C:Ctx)(S:St)(ρ:Env)(σ:Im)(hv:Nat→Value)(Φ:aL)(dst:Nat)(a:Act)(w:World)(o:Oper)(r:Sh×List PI):Prop:=
 ∀ρ',PI.runs Φ r.2 ρ=some ρ'→∃v d,ρ'=ρ.setR dst d∧(execOp a.eval o).run C.P w=.ok (.value v) w∧aH C S ρ σ hv r.1 v d∧∀gs s,r.1≠.opt gs s
theorem eG.dat {o:Oper}{t:Ty}{e:PE}{v:Value}(hx:(execOp a.eval o).run C.P w=.ok (.value v) w)(hr:Rep C.cap σ t v (e.ev ρ)):
 eG C S ρ σ hv Φ dst a w o (.dat t,[.setR dst e]):=by
 intro ρ' h;exact⟨v,e.ev ρ,tL h,hx,hr,fun _ _ e=>by cases e⟩
theorem eG.datc (hg:holds gs ρ=true){o:Oper}{t:Ty}{c e:PE}(hx:(c.ev ρ).b=true→∃v,(execOp a.eval o).run C.P w=.ok (.value v) w∧Rep C.cap σ t v (e.ev ρ)):
 eG C S ρ σ hv Φ dst a w o (.dat t,[qV gs c,.setR dst e]):=by
 intro ρ' h;obtain⟨hb,he⟩:=SJ hg h;obtain⟨v,h1,h2⟩:=hx hb;exact⟨v,e.ev ρ,he,h1,h2,fun _ _ e=>by cases e⟩
theorem ace (h:Inv C S ρ σ own hv w0 σ0 A a w)(hC:CtxOK C σ0)(hg:holds gs ρ=true){x:Operand}{r:Sh×List PI}(hr:qp C S gs dst x=some r){o:Oper}(ho:o.op=.move x∨o.op=.assign x):
 eG C S ρ σ hv Φ dst a w o r:=by
 have hx:(execOp a.eval o).run C.P w=.ok (.value (a.eval x)) w:=by rcases ho with ho|ho<;>simp[execOp,ho,Sem.run,pure]
 unfold qp at hr;split at hr
 ·rename_i y hy;cases hr;exact .dat hx (cr h hC hg hy)
 ·split at hr
  ·rename_i t _;obtain⟨hs,hn⟩:=mK h hg t;split at hr
   ·cases hr
   ·cases hr
   ·cases hr;intro ρ' h';exact⟨_,_,tL h',hx,hs,hn⟩
  ·cases hr
theorem aqc (h:Inv C S ρ σ own hv w0 σ0 A a w)(hC:CtxOK C σ0)(hg:holds gs ρ=true){c x y:Operand}{r:Sh×List PI}(hr:A4 C S gs dst c x y=some r){o:Oper}(ho:o.op=.pick c x y):
 eG C S ρ σ hv Φ dst a w o r:=by
 unfold A4 at hr;split at hr
 ·rename_i t;split at hr
  ·rename_i es;obtain⟨hs,_⟩:=mK h hg t;rw[es] at hs;obtain⟨b,aQ,bl⟩:=Rep.bool_inv hs;simp only[aq] at hr;obtain⟨q1,h1,q2,h2,hr⟩:=hr;cases hb:Ty.beq q1.1 q2.1<;>simp only[hb,cond_true,cond_false] at hr
   ·cases hr
   ·cases hr;have e2:=Ty.beq_eq _ _ hb;have ah:(execOp a.eval o).run C.P w=.ok (.value (if b then a.eval x else a.eval y)) w:=by
     have:a.eval (.tmp t)=.bool b:=aQ;simp[execOp,ho,this,asBool,Sem.run,pure,bind,Sem.bind]
    refine .dat ah ?_;show Rep C.cap σ q1.1 _ (bif (ρ.r t).b then q1.2.ev ρ else q2.2.ev ρ);have ew:(ρ.r t).b=b:=by rw[bl];rfl
    cases b with
    |true=>
     simp only[ew,cond_true,if_true];exact cr h hC (by simp only[holds,qJ,ew];exact hg) h1
    |false=>
     simp only[ew,cond_false];rw[e2];exact cr h hC (by simp only[holds,qJ,ew];exact hg) h2
  ·cases hr
 ·cases hr
theorem Lc {op:BinOp}{T T':TypeId}{x y:Operand}{v v':Value}{o:Oper}(ho:o.op=.binOp op T x y T')(hv:a.eval x=v)(hv':a.eval y=v')(h1:∀u,v≠.agg u)(h2:v≠.nilIface):
 (execOp a.eval o).run C.P w=((binOp op T v v').bind fun r=>.pure (.value r)).run C.P w:=by
 have he:eqGuard op T x y v v'=.pure ():=by
  cases v<;>first|(exact absurd rfl h2)|(exact absurd rfl (h1 _))|(cases op<;>simp[eqGuard]<;>rfl)
 simp only[execOp,ho,hv,hv',he];rfl
theorem Xm {P:Program}{cap:Nat→Option CSig}{σ:Im}{ρ:Env}{x y:PE}(w:World)(d:Nat){t:Ty}{T:TypeId}{v u:Value}{e:PE}(hk:mA P T t=true)(he:wu t x y=some e)(g1:Rep cap σ t v (x.ev ρ))(g2:Rep cap σ t u (y.ev ρ)):
 ∃b,e.ev ρ=.v (.bool b)∧(Op.equalIn (d+1) T v u).run P w=.ok b w:=by
 cases t with
 |int k=>
  obtain⟨n,v1,d1,_⟩:=g1.int_inv;obtain⟨m,v2,d2,_⟩:=g2.int_inv;simp only[wu,aS] at he;subst he;have hu:∃k',P.underlying T=some (.int k'):=by
   simp only[mA] at hk;split at hk
   ·exact⟨_,by assumption⟩
   ·cases hk
  obtain⟨k',hu⟩:=hu;exact⟨n==m,by simp only[PE.ev,d1,d2];rfl,by rw[v1,v2];exact run_equalIn_int w d T k k' n m hu⟩
 |bool=>
  obtain⟨n,v1,d1⟩:=g1.bool_inv;obtain⟨m,v2,d2⟩:=g2.bool_inv;simp only[wu,aS] at he;subst he;have hu:P.underlying T=some .bool:=by
   simp only[mA] at hk;split at hk
   ·assumption
   ·cases hk
  exact⟨n==m,by simp only[PE.ev,d1,d2];rfl,by rw[v1,v2];exact run_equalIn_bool' w d T n m hu⟩
 |str=>
  obtain⟨n,v1,d1,_⟩:=g1.str_inv;obtain⟨m,v2,d2,_⟩:=g2.str_inv;simp only[wu,aS] at he;subst he;have hu:P.underlying T=some .string:=by
   simp only[mA] at hk;split at hk
   ·assumption
   ·cases hk
  exact⟨n.toList==m.toList,by simp only[PE.ev,d1,d2];rfl,by rw[v1,v2];exact run_equalIn_string w d T n m hu⟩
 |_=>simp[wu] at he
theorem aiT {P:Program}{cap:Nat→Option CSig}{σ:Im}{ρ:Env}{x y:PE}{X Y:List D}(w:World)(hx:x.ev ρ=.agg X)(hy:y.ev ρ=.agg Y){vs us:List Value}(b d:Nat):
 ∀(fs:List Field) (i:Nat) (ts:List Ty) (e:PE),wk P x y b fs i ts=some e→(∀j t,ts[j]?=some t→Rep cap σ t (vs.getD (i+j) undef) (X.getD (b+i+j) .none)∧Rep cap σ t (us.getD (i+j) undef) (Y.getD (b+i+j) .none))→
  i+ts.length≤vs.length→i+ts.length≤us.length→
  ∃b,e.ev ρ=.v (.bool b)∧(Op.eqFields (d+1) vs.toArray us.toArray fs).run P w=.ok b w:=by
 intro fs
 induction fs with
 |nil=>
  intro i ts e h _ _ _;cases ts with
  |nil=>simp only[wk,aS] at h;subst h;exact⟨true,rfl,rfl⟩
  |cons t ts=>simp[wk] at h
 |cons f fs ih=>
  intro i ts e h hr l1 l2;cases ts with
  |nil=>simp[wk] at h
  |cons t ts=>
   simp only[wk] at h;cases hc:((f.name != "_")&&Nat.beq f.offset i&&mA P f.type t&&P.plainKey f.type)<;>simp only[hc,cond_true,cond_false] at h
   ·cases h
   simp only[ao,bne_iff_ne,ne_eq] at hc;obtain⟨⟨⟨hn,ho⟩,hk⟩,hp⟩:=hc;have ho:=ay ho;simp only[aq,az] at h;obtain⟨e1,jS,r,mq,rfl⟩:=h
   obtain⟨b2,cf,El⟩:=ih (i+1) ts r mq (fun j t hj=>by
        have:=hr (j+1) t (by simpa using hj)
        rwa [show i+(j+1)=i+1+j by omega,show b+i+(j+1)=b+(i+1)+j by omega] at this) (by simp at l1;omega) (by simp at l2;omega)
   obtain⟨g1,g2⟩:=hr 0 t rfl;rw[iW,iW] at g1 g2;simp only[nL] at l1 l2;have uO:vs.toArray[f.offset]?=some (vs.getD i undef):=by rw[ho];simp[aJ,show i<vs.length by omega]
   have Pg:us.toArray[f.offset]?=some (us.getD i undef):=by rw[ho];simp[aJ,show i<us.length by omega]
   have p1:=run_part_plain (P:=P) (w:=w) hp uO;have p2:=run_part_plain (P:=P) (w:=w) hp Pg;have ex:(PE.cell x (b+i)).ev ρ=X.getD (b+i) .none:=by simp only[PE.ev,hx];rfl
   have ey:(PE.cell y (b+i)).ev ρ=Y.getD (b+i) .none:=by simp only[PE.ev,hy];rfl
   obtain⟨b1,ec,oC⟩:=Xm (P:=P) w d (ρ:=ρ) hk jS (by rw[ex];exact g1) (by rw[ey];exact g2);refine⟨b1&&b2,by simp only[PE.ev,ec,cf];rfl,?_⟩;simp only[Op.eqFields,if_pos hn,Sem.run_bind,p1,p2,oC,Result.andThen_ok];cases b1
   ·rfl
   ·simpa using El
theorem aiS {P:Program}{cap:Nat→Option CSig}{σ:Im}{ρ:Env}{x y:PE}{X Y:List D}(w:World)(hx:x.ev ρ=.agg X)(hy:y.ev ρ=.agg Y){vs us:List Value}(d:Nat):
 ∀(fs:List Field) (i:Nat) (ts:List Ty) (e:PE),wq P x y fs i ts=some e→(∀j t,ts[j]?=some t→Rep cap σ t (vs.getD (i+j) undef) (X.getD (i+j) .none)∧Rep cap σ t (us.getD (i+j) undef) (Y.getD (i+j) .none))→
  i+ts.length≤vs.length→i+ts.length≤us.length→
  ∃b,e.ev ρ=.v (.bool b)∧(Op.eqFields (d+2) vs.toArray us.toArray fs).run P w=.ok b w:=by
 intro fs
 induction fs with
 |nil=>
  intro i ts e h _ _ _;cases ts with
  |nil=>simp only[wq,aS] at h;subst h;exact⟨true,rfl,rfl⟩
  |cons t ts=>simp[wq] at h
 |cons f fs ih=>
  intro i ts e h hr l1 l2;unfold wq at h;split at h
  ·rename_i n bt;cases hb:Nat.ble n ts.length<;>simp only[hb,cond_true,cond_false] at h
   ·cases h
   have hn:=jN hb;simp only[aq,az] at h;obtain⟨e1,jS,r,mq,rfl⟩:=h
   obtain⟨b2,cf,El⟩:=ih (i+n) (ts.drop n) r mq (fun j t hj=>by
        have:=hr (n+j) t (by rw[gj] at hj;exact hj)
        rwa [show i+(n+j)=i+n+j by omega] at this) (by rw[L1];omega) (by rw[L1];omega)
   unfold ZE at bt;split at bt
   case h_2=>cases bt
   rename_i fs' hu;cases hc:((f.name != "_")&&Nat.beq f.offset i&& !P.stoodInHeld f.type)<;>simp only[hc,cond_true,cond_false] at bt
   ·cases bt
   cases bt;simp only[ao,bne_iff_ne,ne_eq,iU] at hc;obtain⟨⟨aw,ho⟩,cH⟩:=hc;have ho:=ay ho;have jz:P.underlying f.type=some (.struct (P.fieldsOf f.type)):=by unfold Program.fieldsOf;rw[hu]
   obtain⟨inf,hi⟩:=info_of_underlying hu
   have oA:∀zs:List Value,(part f.type zs.toArray f.offset).run P w=.ok (.agg ((zs.drop i).take (P.cellsOf f.type)).toArray) w:=fun zs=>by
        have:(zs.toArray.extract f.offset (f.offset+P.cellsOf f.type))=((zs.drop i).take (P.cellsOf f.type)).toArray:=by
         rw[ho];apply sf;rw[Array.toList_extract];simp[List.extract]
        rw[←this];simp[part,isAgg,run_underlying hu,run_sizeOf w hi]
   obtain⟨b1,ec,oC⟩:=aiT (P:=P) (cap:=cap) (σ:=σ) (ρ:=ρ) w hx hy (vs:=(vs.drop i).take (P.cellsOf f.type)) (us:=(us.drop i).take (P.cellsOf f.type)) i d _ 0 (ts.take (P.cellsOf f.type)) e1 jS (fun j t hj=>by
        rw[fM] at hj;split at hj
        ·rename_i wM;have:=hr j t hj;simpa [aJ,fM,wM,gj] using this
        ·cases hj) (by simp only[dW,L1];omega) (by simp only[dW,L1];omega)
   have amN:(Op.equalIn (d+2) f.type (.agg ((vs.drop i).take (P.cellsOf f.type)).toArray) (.agg ((us.drop i).take (P.cellsOf f.type)).toArray)).run P w=.ok b1 w:=by
        rw[run_equalIn_struct w (d+1) f.type _ _ jz cH];exact oC
   refine⟨b1&&b2,by simp only[PE.ev,ec,cf];rfl,?_⟩;simp only[Op.eqFields,if_pos aw,Sem.run_bind,oA,amN,Result.andThen_ok];cases b1
   ·rfl
   ·simpa using El
  ·split at h
   ·rename_i t ts;cases hc:((f.name != "_")&&Nat.beq f.offset i&&mA P f.type t&&P.plainKey f.type)<;>simp only[hc,cond_true,cond_false] at h
    ·cases h
    simp only[ao,bne_iff_ne,ne_eq] at hc;obtain⟨⟨⟨hn,ho⟩,hk⟩,hp⟩:=hc;have ho:=ay ho;simp only[aq,az] at h;obtain⟨e1,jS,r,mq,rfl⟩:=h
    obtain⟨b2,cf,El⟩:=ih (i+1) ts r mq (fun j t hj=>by
     have:=hr (j+1) t (by simpa using hj)
     rwa [show i+(j+1)=i+1+j by omega] at this) (by simp at l1;omega) (by simp at l2;omega)
    obtain⟨g1,g2⟩:=hr 0 t rfl;rw[iW] at g1 g2;simp only[nL] at l1 l2;have uO:vs.toArray[f.offset]?=some (vs.getD i undef):=by rw[ho];simp[aJ,show i<vs.length by omega]
    have Pg:us.toArray[f.offset]?=some (us.getD i undef):=by rw[ho];simp[aJ,show i<us.length by omega]
    have p1:=run_part_plain (P:=P) (w:=w) hp uO;have p2:=run_part_plain (P:=P) (w:=w) hp Pg;have ex:(PE.cell x i).ev ρ=X.getD i .none:=by simp only[PE.ev,hx];rfl
    have ey:(PE.cell y i).ev ρ=Y.getD i .none:=by simp only[PE.ev,hy];rfl
    obtain⟨b1,ec,oC⟩:=Xm (P:=P) w (d+1) (ρ:=ρ) hk jS (by rw[ex];exact g1) (by rw[ey];exact g2);refine⟨b1&&b2,by simp only[PE.ev,ec,cf];rfl,?_⟩;simp only[Op.eqFields,if_pos hn,Sem.run_bind,p1,p2,oC,Result.andThen_ok];cases b1
    ·rfl
    ·simpa using El
   ·cases h
theorem apN (h:Inv C S ρ σ own hv w0 σ0 A a w)(hC:CtxOK C σ0)(hg:holds gs ρ=true){op:BinOp}{T T':TypeId}{x y:Operand}{r:Sh×List PI}(hr:AT C S gs dst op T x y=some r){o:Oper}(ho:o.op=.binOp op T x y T'):
 eG C S ρ σ hv Φ dst a w o r:=by
 simp only[AT,aq] at hr;obtain⟨p,hp,q,hq,hr⟩:=hr;have aT:=cr h hC hg hp;have dF:=cr h hC hg hq;split at hr
 ·rename_i k k' e1 e2;rw[e1] at aT;rw[e2] at dF;obtain⟨n,aQ,bl,b1,b2⟩:=aT.int_inv;obtain⟨m,iL,ed,b3,b4⟩:=dF.int_inv;have ah:=Lc (C:=C) (w:=w) ho aQ iL (by intro u e;cases e) (by intro e;cases e);cases fV:(op==.shl||op==.shr)<;>simp only[fV,cond_true,cond_false] at hr
  ·cases uE:(k==k')<;>simp only[uE,cond_true,cond_false] at hr
   ·cases hr
   ·have Oo:k=k':=by simpa using uE
    subst Oo;cases OZ:(op==.quo||op==.rem)<;>simp only[OZ,cond_true,cond_false] at hr
    ·cases har:GZ op<;>simp only[har,cond_true,cond_false] at hr
     ·cases m4:zF op<;>simp only[m4,cond_true,cond_false] at hr
      ·cases hr
      ·cases hr;refine .dat (v:=.bool (jt op n m)) ?_ ?_
       ·rw[ah];cases op<;>simp_all [zF]<;>simp[binOp,Op.intCmp,jt,Sem.run,pure,Sem.bind]
       ·simp only[PE.ev,bl,ed,D.i_int];exact .bool _
     ·cases hr;refine .dat (v:=.int k (cK op k n m)) ?_ ?_
      ·rw[ah];cases op<;>simp_all [GZ]<;>simp[binOp,Op.intArith,Op.intBits,cK,Sem.run,pure,Sem.bind]
      ·simp only[PE.ev,bl,ed,D.i_int];refine .int _ _ ?_ ?_<;>(cases op<;>simp_all [GZ]<;>first|exact(sd _ _).1|exact(sd _ _).2)
    ·cases hr;refine .datc hg fun hc=>⟨.int k (cK op k n m),?_,?_⟩
     ·have aw:m≠0:=by simpa [PE.ev,ed,D.i_int,D.b_bool,jt,D.int] using hc
      rw[ah];rcases(by simpa using OZ:op=.quo∨op=.rem) with rfl|rfl<;>simp[binOp,Op.intDiv,cK,Sem.run,pure,Sem.bind,aw]
     ·simp only[PE.ev,bl,ed,D.i_int];cases op<;>simp_all
      ·exact .int _ _ (sd _ _).1 (sd _ _).2
      ·exact .int _ _ (aep k ⟨b1,b2⟩).1 (aep k ⟨b1,b2⟩).2
  ·cases hr;refine .datc hg fun hc=>⟨.int k (cK op k n m),?_,?_⟩
   ·have aw:¬m<0:=by
     have:0≤m:=by simpa [PE.ev,ed,D.i_int,D.b_bool,jt,D.int] using hc
     omega
    rw[ah];rcases(by simpa using fV:op=.shl∨op=.shr) with rfl|rfl<;>simp[binOp,Op.shift,cK,Sem.run,pure,Sem.bind,aw]
   ·simp only[PE.ev,bl,ed,D.i_int];cases op<;>simp_all
    ·exact .int _ _ (sd _ _).1 (sd _ _).2
    ·exact .int _ _ (Xt k _ ⟨b1,b2⟩).1 (Xt k _ ⟨b1,b2⟩).2
 ·rename_i e1 e2;rw[e1] at aT;rw[e2] at dF;obtain⟨n,aQ,bl⟩:=aT.bool_inv;obtain⟨m,iL,ed⟩:=dF.bool_inv;have ah:=Lc (C:=C) (w:=w) ho aQ iL (by intro u e;cases e) (by intro e;cases e);cases bQ:((op==.eql||op==.neq)&&Pz C.P T)<;>simp only[bQ,cond_true,cond_false] at hr
  ·cases hr
  ·cases hr;simp only[ao] at bQ;obtain⟨bQ,hT⟩:=bQ;have z7:C.P.underlying T=some .bool:=by
        unfold Pz at hT;split at hT
        ·assumption
        ·cases hT
   have heq:(Op.equal T (.bool n) (.bool m)).run C.P w=.ok (n==m) w:=by
        have:∀d,(Op.equalIn (d+1) T (.bool n) (.bool m)).run C.P w=.ok (n==m) w:=fun d=>by simp[Op.equalIn,run_underlying z7]
        exact this 9999
   refine .dat (v:=.bool (zE op n m)) ?_ ?_
   ·rw[ah];rcases(by simpa using bQ:op=.eql∨op=.neq) with rfl|rfl<;>simp[binOp,zE,heq,Sem.run_bind']
   ·simp only[PE.ev,bl,ed,D.b_bool];exact .bool _
 ·rename_i e1 e2;rw[e1] at aT;rw[e2] at dF;obtain⟨n,aQ,bl,_⟩:=aT.str_inv;obtain⟨m,iL,ed,_⟩:=dF.str_inv;have ah:=Lc (C:=C) (w:=w) ho aQ iL (by intro u e;cases e) (by intro e;cases e);cases bQ:zF op<;>simp only[bQ,cond_true,cond_false] at hr
  ·cases hr
  ·cases hr;refine .dat (v:=.bool (zG op n m)) ?_ ?_
   ·rw[ah];cases op<;>simp_all [zF]<;>simp[binOp,Op.stringOp,zG,Sem.run,pure,Sem.bind]
   ·simp only[PE.ev,bl,ed,D.s_str];exact .bool _
 ·rename_i e e' e1 e2;rw[e1] at aT;rw[e2] at dF;split at hr
  case h_2=>cases hr
  rename_i E hT;cases bQ:(op==.eql||op==.neq)<;>simp only[bQ,cond_true,cond_false] at hr
  ·cases hr
  cases hr;obtain⟨n,xs,aQ,bl,amg⟩:∃(n:Bool) (xs:List D),(n=true∧a.eval x=.slice none 0 0∨n=false∧∃k o m c,a.eval x=.slice (some ⟨k,o,none⟩) m c)∧p.2.ev ρ=.list xs∧n=decide (xs=[]):=by
   generalize a.eval x=vv at aT;generalize p.2.ev ρ=dd at aT;cases aT with
   |nsl0=>exact⟨true,[],.inl ⟨rfl,rfl⟩,rfl,rfl⟩
   |nsl _ k o m c xs h hx=>exact⟨false,xs,.inr ⟨rfl,k,o,m,c,rfl⟩,rfl,by simp[hx]⟩
  have iL:a.eval y=.slice none 0 0:=by
   generalize a.eval y=vv at dF;generalize q.2.ev ρ=dd at dF;cases dF;rfl
  have heq:(Op.equal T (a.eval x) (a.eval y)).run C.P w=.ok n w:=by
   have:∀d,(Op.equalIn (d+1) T (a.eval x) (a.eval y)).run C.P w=.ok n w:=fun d=>by
        rw[iL];rcases aQ with⟨rfl,h1⟩|⟨rfl,k,o,m,c,h1⟩<;>rw[h1]<;>simp[Op.equalIn,run_underlying hT]
   exact this 9999
  have ah:=Lc (C:=C) (w:=w) ho rfl rfl (by
   intro u e;rcases aQ with⟨_,h1⟩|⟨_,k,o,m,c,h1⟩<;>rw[h1] at e<;>cases e) (by
   intro e;rcases aQ with⟨_,h1⟩|⟨_,k,o,m,c,h1⟩<;>rw[h1] at e<;>cases e)
  refine .dat (v:=.bool (jt op xs.length 0)) ?_ ?_
  ·have aw:∀(y:D) (ys:List D),¬((ys.length:Int)+1=0):=fun y ys=>by omega
   rw[ah,iL];rw[iL] at heq;rcases aQ with⟨_,h1⟩|⟨_,k,o,m,c,h1⟩<;>rw[h1] at heq ⊢<;>rcases(by simpa using bQ:op=.eql∨op=.neq) with rfl|rfl<;>cases xs<;>simp[binOp,heq,Sem.run_bind',jt,amg]<;>(try omega)
  ·simp only[PE.ev,bl,D.l_list,D.int,D.i_int];exact .bool _
 ·rename_i ts us e1 e2;rw[e1] at aT;rw[e2] at dF;cases bQ:((op==.eql||op==.neq)&&Ty.beqs ts us&&Nt C.P T)<;>simp only[bQ,cond_true,cond_false] at hr
  ·cases hr
  simp only[ao] at bQ;obtain⟨⟨bQ,Pd⟩,cH⟩:=bQ;have:=Ty.beqs_eq _ _ Pd;subst this;simp only[Nt,ao,iU] at cH;obtain⟨⟨Zm,am2⟩,am3⟩:=cH;have jz:C.P.underlying T=some (.struct (C.P.fieldsOf T)):=by
   unfold Program.fieldsOf;split at Zm
   ·rename_i fs hu;rw[hu]
   ·cases Zm
  simp only[az] at hr;obtain⟨e,he,rfl⟩:=hr;obtain⟨vs,ds,aQ,bl,l1,l2,aO,_⟩:=aT.agg_inv;obtain⟨sc,ds',iL,ed,l3,l4,jb,_⟩:=dF.agg_inv
  obtain⟨b,hb,ah⟩:=aiS (P:=C.P) (cap:=C.cap) (σ:=σ) (ρ:=ρ) w bl ed (vs:=vs) (us:=sc) 9997 _ 0 ts e he (fun j t hj=>by
   rw[gS];exact⟨aO j t hj,jb j t hj⟩) (by omega) (by omega)
  have heq:(Op.equalIn 10000 T (.agg vs.toArray) (.agg sc.toArray)).run C.P w=.ok b w:=by
   rw[run_equalIn_struct w 9999 T _ _ jz am2];exact ah
  have km:=run_eqGuard_agg (P:=C.P) (w:=w) op T x y vs.toArray sc.toArray am3
  have Yo:(execOp a.eval o).run C.P w=((binOp op T (.agg vs.toArray) (.agg sc.toArray)).run C.P w).andThen fun r w'=>.ok (.value r) w':=by
   simp only[execOp,ho,aQ,iL,Sem.run_bind,km,Result.andThen_ok];rfl
  rcases(by simpa using bQ:op=.eql∨op=.neq) with rfl|rfl
  ·refine .dat (v:=.bool b) ?_ ?_
   ·rw[Yo,run_eql_struct,heq];rfl
   ·show Rep _ _ .bool _ (PE.ev ρ e);rw[hb];exact .bool _
  ·refine .dat (v:=.bool (!b)) ?_ ?_
   ·rw[Yo,run_neq_struct,heq];rfl
   ·show Rep _ _ .bool _ (PE.ev ρ (.nt e));simp only[PE.ev,hb];exact .bool _
 ·cases hr
theorem aqh (h:Inv C S ρ σ own hv w0 σ0 A a w)(hC:CtxOK C σ0)(hg:holds gs ρ=true){op:UnOp}{T:TypeId}{x:Operand}{r:Sh×List PI}(hr:A6 C S gs dst op x=some r){o:Oper}(ho:o.op=.unOp op T x):
 eG C S ρ σ hv Φ dst a w o r:=by
 simp only[A6,aq] at hr;obtain⟨p,hp,hr⟩:=hr;have aT:=cr h hC hg hp;split at hr
 ·rename_i k e1;rw[e1] at aT;obtain⟨n,aQ,bl,b1,b2⟩:=aT.int_inv;cases hr;refine .dat (v:=.int k (cK .sub k 0 n)) ?_ ?_
  ·simp[execOp,ho,aQ,Op.unary,Op.intArith,cK,Sem.run,pure,bind,Sem.bind]
  ·simp only[PE.ev,bl,D.i_int];exact .int _ _ (sd _ _).1 (sd _ _).2
 ·rename_i e1;rw[e1] at aT;obtain⟨n,aQ,bl⟩:=aT.bool_inv;cases hr;refine .dat (v:=.bool (!n)) ?_ ?_
  ·simp[execOp,ho,aQ,Op.unary,Sem.run,pure,bind,Sem.bind]
  ·simp only[PE.ev,bl,D.b_bool];exact .bool _
 ·cases hr
theorem apR (h:Inv C S ρ σ own hv w0 σ0 A a w)(hC:CtxOK C σ0)(hg:holds gs ρ=true){s d:TypeId}{x:Operand}{r:Sh×List PI}(hr:AV C S gs dst s d x=some r){o:Oper}(ho:o.op=.convert s d x):
 eG C S ρ σ hv Φ dst a w o r:=by
 simp only[AV,aq] at hr;obtain⟨p,hp,hr⟩:=hr;have aT:=cr h hC hg hp;split at hr
 ·rename_i k0 k k1 u1 u2 e1;rw[e1] at aT;obtain⟨n,aQ,bl,b1,b2⟩:=aT.int_inv;cases hr;refine .dat (v:=.int k (k.wrap n)) ?_ ?_
  ·simp[execOp,ho,aQ,convert,run_underlying u1,run_underlying u2,Conv.intToInt]
  ·simp only[PE.ev,bl,D.i_int];exact .int _ _ (sd _ _).1 (sd _ _).2
 ·rename_i u1 u2 e1;rw[e1] at aT;obtain⟨n,aQ,bl,b1⟩:=aT.str_inv;cases hr;refine .dat (v:=.string n) ?_ ?_
  ·simp[execOp,ho,aQ,convert,run_underlying u1,run_underlying u2]
  ·rw[bl];exact .str _ b1
 ·cases hr
end
end Cx
namespace Cx
open Go Go.RowKit
theorem uU {n:Nat}(h:n≤maxLen):IntKind.i64.min≤(n:Int)∧(n:Int)≤IntKind.i64.max:=by
 simp only[maxLen] at h;simp only[IntKind.min,IntKind.max,IntKind.signed,IntKind.bits];simp;omega
section
variable {C:Ctx} {S:St} {ρ:Env} {σ:Im} {own:Nat→Option Nat} {hv:Nat→Value} {w0:World} {σ0:Base} {A:Nat→Prop} {a:Act} {w:World} {gs:List (Nat×Bool)} {Φ:aL} {dst:Nat}
def Mc (C:Ctx)(σ:Im)(w:World)(B:Nat)(t:Ty)(v:Value)(d:D):Prop:=
 Rep C.cap σ t v d∨
 (∃T e cells xs,t=.slice e.rol∧d=.list xs∧w.ownsRow B T e.size v xs.length cells∧eF C.cap σ e cells xs)∨
 (∃k arr clock es kt et,t=.map kt et∧v=.map (some k)∧w.heap[k]?=some (.map arr clock)∧d=.map es∧es.length=arr.size∧es.length≤maxLen∧
    ∀(i:Nat) (e:MapEntry) (p:D×D),arr[i]?=some e→es[i]?=some p→Rep C.cap σ kt e.key p.1∧Rep C.cap σ et e.val p.2)
theorem Vq (h:Inv C S ρ σ own hv w0 σ0 A a w)(hC:CtxOK C σ0)(hg:holds gs ρ=true){x:Operand}{r:Ty×PE}(hu:view C S gs x=some r):Mc C σ w w0.heap.size r.1 (a.eval x) (r.2.ev ρ):=by
 unfold view at hu;split at hu
 ·rename_i r' uJ;cases hu;exact .inl (cr h hC hg uJ)
 ·split at hu
  ·rename_i t _;obtain⟨hs,_⟩:=mK h hg t;split at hu
   ·rename_i j ver e;rw[e] at hs;cases hb:Nat.beq ver (S.ver j)<;>simp only[hb,cond_true,cond_false] at hu
    ·cases hu
    ·have dz:=ay hb;have ho:=h.objs j;have cn:a.eval (.tmp t)=hv j:=hs.2 dz;split at hu
     ·rename_i T e eo;rw[eo] at ho;cases hu;obtain⟨cells,xs,h1,h2,h3,h4⟩:=ho;rw[cn];exact .inr (.inl ⟨T,e,cells,xs,rfl,h1,h2,h3⟩)
     ·rename_i kt et eo;rw[eo] at ho;cases hu;obtain⟨k,arr,clock,es,h1,h2,h3,h4,h5,⟨hx,_⟩,h6⟩:=ho;rw[cn];exact .inr (.inr ⟨k,arr,clock,es,kt,et,rfl,h1,h3,h4,h5,hx,h6⟩)
     ·cases hu
   ·cases hu
  ·cases hu
theorem xF {w:World}{B e size n:Nat}{v:Value}{cells:List Value}(h:w.ownsRow B e size v n cells):∃b c,v=.slice b n c∧n≤maxLen∧n≤c:=by
 rcases h.2 with⟨rfl,rfl⟩|⟨g,cap,cur,rfl,h1,h2,h3,h4,h5⟩
 ·exact⟨none,0,rfl,by decide,bf _⟩
 ·exact⟨_,cap,rfl,iv h3 h4,h3⟩
theorem SH {b:Builtin}{args:Array Operand}{ts:Array TypeId}{o:Oper}(ho:o.op=.call {callee:=.builtin b,args:=args,argTypes:=ts}):
 ∃cs,(execOp a.eval o).run C.P w=(builtin b ts o.type cs (args.map a.eval)).run C.P w:=
 ⟨_,by simp only[execOp,ho,resolve,invoke];rfl⟩
theorem ap4 (h:Inv C S ρ σ own hv w0 σ0 A a w)(hC:CtxOK C σ0)(hg:holds gs ρ=true){T:TypeId}{x:Operand}{r:Sh×List PI}(hr:A1 C S gs dst T x=some r){o:Oper}
 (ho:o.op=.call {callee:=.builtin .len,args:=#[x],argTypes:=#[T]}):eG C S ρ σ hv Φ dst a w o r:=by
 simp only[A1,aq] at hr;obtain⟨p,hp,hr⟩:=hr;have aT:=Vq h hC hg hp;obtain⟨cs,ah⟩:=SH (C:=C) (w:=w) (a:=a) ho;split at hr
 ·rename_i e T' e1 e2;rw[e1] at aT;cases hr;have hx:∃b n c xs,a.eval x=.slice b n c∧p.2.ev ρ=.list xs∧xs.length=n∧n≤maxLen:=by
   rcases aT with aT|⟨T,e,cells,xs,ht,hd,bX,jx⟩|⟨k,arr,clock,es,kt,et,ht,_⟩
   ·obtain⟨xs,hd,⟨⟨p0,aQ⟩,rfl⟩|⟨k,o,c,aQ,h1,h2,_⟩⟩:=aT.slice_inv
    ·exact⟨p0,0,0,[],aQ,hd,rfl,by decide⟩
    ·exact⟨_,_,c,xs,aQ,hd,rfl,by omega⟩
   ·obtain⟨b,c,aQ,h1,_⟩:=xF bX;exact⟨b,_,c,xs,aQ,hd,rfl,h1⟩
   ·cases ht
  obtain⟨b,n,c,xs,aQ,hd,hl,hm⟩:=hx;refine .dat (v:=.int .i64 n) ?_ ?_
  ·rw[ah];simp[builtin,Builtin.len_,aQ,run_underlying e2,goInt]
  ·simp only[PE.ev,hd,D.l_list,hl];exact .int _ _ (uU hm).1 (uU hm).2
 ·rename_i e T' e1 e2;rw[e1] at aT;cases hr;rcases aT with aT|⟨T,e,cells,xs,ht,_⟩|⟨k,arr,clock,es,kt,et,ht,_⟩
  ·generalize w8:a.eval x=v at aT;generalize DJ:p.2.ev ρ=d at aT;cases aT;refine .dat (v:=.int .i64 0) ?_ ?_
   ·rw[ah];simp[builtin,Builtin.len_,w8,run_underlying e2,goInt]
   ·simp only[PE.ev,DJ,D.l_list];exact .int _ _ (by decide) (by decide)
  ·cases ht
  ·cases ht
 ·rename_i e1 e2;rw[e1] at aT;cases hr;rcases aT with aT|⟨T,e,cells,xs,ht,_⟩|⟨k,arr,clock,es,kt,et,ht,_⟩
  ·obtain⟨n,aQ,bl,hm⟩:=aT.str_inv;refine .dat (v:=.int .i64 n.size) ?_ ?_
   ·rw[ah];simp[builtin,Builtin.len_,aQ,run_underlying e2,goInt]
   ·simp only[PE.ev,bl,D.s_str];exact .int _ _ (uU hm).1 (uU hm).2
  ·cases ht
  ·cases ht
 ·rename_i k0 e0 a0 b0 e1 e2;rw[e1] at aT;cases hr;rcases aT with aT|⟨T,e,cells,xs,ht,_⟩|⟨k,arr,clock,es,kt,et,ht,aQ,hb,bl,hl,hx,_⟩
  ·generalize w8:a.eval x=v at aT;generalize DJ:p.2.ev ρ=d at aT;cases aT with
   |mapnil=>
    refine .dat (v:=.int .i64 0) ?_ ?_
    ·rw[ah];simp[builtin,Builtin.len_,w8,run_underlying e2,goInt]
    ·simp only[PE.ev,DJ,D.m];exact .int _ _ (by decide) (by decide)
   |map kt et r gC es hm hl hx hk _=>
    obtain⟨arr,clock,hb,jy⟩:=(h.ok.m _ _ hm).mp (EL hl hk) (aaI hl hk);have hn:arr.size=es.length:=by rw[hl,←jy];simp[entriesOf]
    refine .dat (v:=.int .i64 arr.size) ?_ ?_
    ·rw[ah];simp[builtin,Builtin.len_,w8,run_underlying e2,goInt,getObj,Sem.run,hb]
    ·simp only[PE.ev,DJ,D.m,hn];exact .int _ _ (uU hx).1 (uU hx).2
  ·cases ht
  ·refine .dat (v:=.int .i64 arr.size) ?_ ?_
   ·rw[ah];simp[builtin,Builtin.len_,aQ,run_underlying e2,goInt,getObj,Sem.run,hb]
   ·simp only[PE.ev,bl,D.m,hl];exact .int _ _ (uU (hl▸hx)).1 (uU (hl▸hx)).2
 ·cases hr
theorem acb (h:Inv C S ρ σ own hv w0 σ0 A a w)(hC:CtxOK C σ0)(hg:holds gs ρ=true){mx:Bool}{x y:Operand}{ts:Array TypeId}{r:Sh×List PI}(hr:xA C S gs dst mx x y=some r){o:Oper}
 (ho:o.op=.call {callee:=.builtin (bif mx then .max else .min),args:=#[x,y],argTypes:=ts}):eG C S ρ σ hv Φ dst a w o r:=by
 simp only[xA,aq] at hr;obtain⟨p,hp,q,hq,hr⟩:=hr;have aT:=cr h hC hg hp;have dF:=cr h hC hg hq;obtain⟨cs,ah⟩:=SH (C:=C) (w:=w) (a:=a) ho;split at hr
 ·rename_i k k' e1 e2;rw[e1] at aT;rw[e2] at dF;obtain⟨n,aQ,bl,b1,b2⟩:=aT.int_inv;obtain⟨m,iL,ed,b3,b4⟩:=dF.int_inv;cases uE:(k==k')<;>simp only[uE,cond_true,cond_false] at hr
  ·cases hr
  ·have Oo:k=k':=by simpa using uE
   subst Oo;cases hr;cases mx with
   |true=>
    refine .dat (v:=.int k (if m>n then m else n)) ?_ ?_
    ·rw[ah];simp[builtin,Builtin.max_,Builtin.max2,aQ,iL]
    ·simp only[cond_true,PE.ev,bl,ed,D.i_int];by_cases af:m>n<;>simp[af]<;>constructor<;>assumption
   |false=>
    refine .dat (v:=.int k (if m<n then m else n)) ?_ ?_
    ·rw[ah];simp[builtin,Builtin.min_,Builtin.min2,aQ,iL]
    ·simp only[cond_false,PE.ev,bl,ed,D.i_int];by_cases af:m<n<;>simp[af]<;>constructor<;>assumption
 ·cases hr
theorem apT (h:Inv C S ρ σ own hv w0 σ0 A a w)(hC:CtxOK C σ0)(hg:holds gs ρ=true){x:Operand}{i:Nat}{r:Sh×List PI}(hr:AW C S gs dst x i=some r){o:Oper}(ho:o.op=.extract x i):
 eG C S ρ σ hv Φ dst a w o r:=by
 simp only[AW,aq] at hr;obtain⟨p,hp,hr⟩:=hr;have aT:=cr h hC hg hp;split at hr
 ·rename_i ts e1;rw[e1] at aT;simp only[az] at hr;obtain⟨t,ht,rfl⟩:=hr;obtain⟨vs,ds,aQ,bl,l1,l2,aO⟩:=aT.tup_inv;have hi:i<vs.length:=by rw[l1];exact(fm.1 ht).1
  refine .dat (v:=vs.getD i undef) ?_ ?_
  ·obtain⟨u,hu⟩:∃u,vs[i]?=some u:=⟨_,bA hi⟩
   have km:vs.getD i undef=u:=by rw[aJ,hu];rfl
   rw[km];simp[execOp,ho,aQ,Instr.extract,hu]
  ·simp only[PE.ev,bl];exact aO i t ht
 ·cases hr
end
end Cx
namespace Cx
open Go Go.RowKit
theorem uS {P:Program}{T:TypeId}{ag:Bool}(h:qj P T=some ag)(w:World):(isAgg T).run P w=.ok ag w:=by
 unfold qj at h;split at h
 ·rename_i fs hu;cases h;simp[isAgg,run_underlying hu]
 ·rename_i n e hu;cases h;simp[isAgg,run_underlying hu]
 ·rename_i d h1 h2 hu;cases h;cases d<;>simp_all [isAgg,run_underlying hu]
 ·cases h
theorem sy (k o n:Nat):(⟨k,o,none⟩:Addr).add n=⟨k,o+n,none⟩:=by
 unfold Addr.add;split<;>simp_all
theorem Ld {P:Program}{T:TypeId}{inf:TypeInfo}{ag:Bool}{w:World}{k o:Nat}{cs:List Value}(hi:P.info? T=some inf)(ha:qj P T=some ag)(hl:cs.length=inf.size)
 (h1:ag=false→cs.length=1) (hc:∀j u,cs[j]?=some u→w.cell? ⟨k,o+j,none⟩=some u):(loadVar T ⟨k,o,none⟩).run P w=.ok (rowOf ag cs) w:=by
 cases ag with
 |true=>
  have:=run_loadCells_list (P:=P) w ⟨k,o,none⟩ cs (fun j v hv=>by rw[sy];exact hc j v hv);rw[hl] at this;simp[loadVar,uS ha,Go.sizeOf,run_typeInfo w hi,this,rowOf]
 |false=>
  obtain⟨u,hu⟩:∃u,cs=[u]:=by
   have:=h1 rfl
   match cs,this with
   |[u],_=>exact⟨u,rfl⟩
  subst hu;have h0:=hc 0 u rfl;simp only[iW] at h0;simp[loadVar,uS ha,rowOf,run_load,h0]
section
variable {C:Ctx} {S:St} {ρ:Env} {σ:Im} {own:Nat→Option Nat} {hv:Nat→Value} {w0:World} {σ0:Base} {A:Nat→Prop} {a:Act} {w:World} {gs:List (Nat×Bool)} {Φ:aL} {dst:Nat}
theorem vm {o:Oper}{T:TypeId}{x:Operand}{v:Value}{k off:Nat}(ho:o.op=.load T x)(hx:a.eval x=.pointer (some ⟨k,off,none⟩))(hl:(loadVar T ⟨k,off,none⟩).run C.P w=.ok v w):
 (execOp a.eval o).run C.P w=.ok (.value v) w:=by
 simp[execOp,ho,Instr.loadAt,hx,Instr.sureAddr,hl]
theorem sN {α:Type}{l:List α}{i:Nat}{x d:α}(h:l[i]?=some x):l.getD i d=x:=by
 rw[aJ,h];rfl
theorem Kd {cap:Nat→Option CSig}{ts:List Ty}{vs:List Value}{ds:List D}{ag:Bool}{n off:Nat}{ty:Ty}(hp:va ag n ts off=some ty)
 (h1:vs.length=ts.length) (h2:ds.length=ts.length) (hr:∀(i:Nat) (t:Ty),ts[i]?=some t→Rep cap σ t (vs.getD i undef) (ds.getD i .none)) (ho:∀(i:Nat) (t:Ty),ts[i]?=some t→t.one=true):
 Rep cap σ ty (rowOf ag ((vs.drop off).take n)) (bif ag then .agg ((ds.drop off).take n) else ds.getD off .none)∧((vs.drop off).take n).length=n∧(ag=false→n=1):=by
 unfold va at hp;cases hle:Nat.ble (off+n) ts.length<;>simp only[hle,cond_true,cond_false] at hp
 ·cases hp
 ·have DZ:=jN hle;have hlen:((vs.drop off).take n).length=n:=by simp;omega
  cases ag with
  |true=>
   simp only[cond_true] at hp;cases hp;refine⟨?_,hlen,fun e=>by cases e⟩;simp only[rowOf,if_true,cond_true];refine .agg _ _ _ (by simp;omega) (by simp;omega) (fun i t hi=>?_) (fun i t hi=>?_)
   ·simp only[fM,gj] at hi;split at hi
    ·rename_i bt;have:=hr (off+i) t hi;simpa [aJ,fM,gj,bt] using this
    ·cases hi
   ·simp only[fM,gj] at hi;split at hi
    ·exact ho _ t hi
    ·cases hi
  |false=>
   simp only[cond_false] at hp;cases hn:Nat.beq n 1<;>simp only[hn,cond_true,cond_false] at hp
   ·cases hp
   ·have lI:=ay hn;subst lI;refine⟨?_,hlen,fun _=>rfl⟩;have:=hr off ty hp;have af:off<vs.length:=by omega
    simpa [rowOf,aJ,fM,gj] using this
theorem Kc {ag:Bool}{n:Nat}{e:PE}{off:Nat}{ds:List D}(h:e.ev ρ=.agg ds):(A9 ag n e off).ev ρ=bif ag then .agg ((ds.drop off).take n) else ds.getD off .none:=by
 cases ag<;>simp[A9,PE.ev,h,D.cells,D.c]
theorem Inv.cell (h:Inv C S ρ σ own hv w0 σ0 A a w){k o:Nat}{u:Value}(hc:σ.c k o=some u):w.cell? ⟨k,o,none⟩=some u:=h.ok.c _ _ _ hc
theorem Rep.rowOf {cap:Nat→Option CSig}{t:Ty}{v:Value}{d:D}(h:Rep cap σ t v d):v=Cx.rowOf t.rowT v.cells.toList:=by
 cases h<;>simp[Cx.rowOf,Ty.rowT,Value.cells]
theorem Rep.cells1 {cap:Nat→Option CSig}{t:Ty}{v:Value}{d:D}(h:Rep cap σ t v d)(ht:t.rowT=false):v.cells=#[v]:=by
 cases h<;>simp_all [Ty.rowT,Value.cells]
theorem ap6 (h:Inv C S ρ σ own hv w0 σ0 A a w){T:TypeId}{x:Operand}{inf:TypeInfo}{ag:Bool}(hi:C.P.info? T=some inf)(ha:qj C.P T=some ag){o:Oper}(ho:o.op=.load T x)
 {ty:Ty} {e:PE} (hr:Rep C.cap σ (.ref ty) (a.eval x) (e.ev ρ)) (hs:Nat.beq inf.size ty.size=true) (IJ:(ag==ty.rowT)=true):
 eG C S ρ σ hv Φ dst a w o (.dat ty,[.setR dst (.deref e)]):=by
 obtain⟨k,off,v,y,aQ,bl,bL,jd⟩:=hr.ref_inv;have eT:=ay hs;have DD:ag=ty.rowT:=by simpa using IJ
 have hz:=bL.size;have sW:=bL.rowOf;refine .dat (v:=v) (vm ho aQ ?_) ?_
 ·rw[sW,←DD];refine Ld hi ha (by simp[hz,eT]) (fun e=>?_) (fun j u hu=>?_)
  ·subst e;simp[bL.cells1 DD.symm]
  ·exact h.cell (jd j u (by simpa using hu))
 ·simp only[PE.ev,bl,D.deref];exact bL
theorem M2 {w:World}{k:Nat}{cs:Array Value}{T:TypeId}{fr:Nat×Nat}(hb:w.heap[k]?=some (.cells cs T fr)){i:Nat}(hi:i<cs.size):w.cell? ⟨k,i,none⟩=some (cs.getD i undef):=by
 simp[World.cell?,hb,dV,fL hi]
theorem zU (cs:Array Value)(i:Nat):cs.toList.getD i undef=cs.getD i undef:=by
 simp[aJ,dV]
theorem Wb {cs:Array Value}{ds:List D}:∀(shs:List Sh) (i:Nat) (l:List AgC),ug S shs=some l→(∀m s,shs[m]?=some s→aH C S ρ σ hv s (cs.getD (i+m) undef) (ds.getD (i+m) .none))→
 l.length=shs.length∧∀(m:Nat) (c:AgC),l[m]?=some c→mS C S σ hv c (cs.getD (i+m) undef) (ds.getD (i+m) .none)
 |[],i,l,hl,_=>by simp only[ug,aS] at hl;subst hl;exact⟨rfl,fun m c hm=>by simp at hm⟩
 |s::r,i,l,hl,aO=>by
  simp only[ug,aq] at hl;obtain⟨x,hx,hl⟩:=hl
  obtain⟨g1,g3⟩:=Wb r (i+1) x hx fun m s hm=>by
   have:=aO (m+1) s (by simpa using hm)
   rwa [show i+(m+1)=i+1+m by omega] at this
  have h0:=aO 0 s rfl;rw[iW] at h0;split at hl
  ·rename_i t;cases dc:t.one<;>simp only[dc,cond_true,cond_false] at hl
   ·cases hl
   cases hl;refine⟨by simp[g1],fun m c hm=>?_⟩;cases m with
   |zero=>simp at hm;subst hm;exact⟨dc,h0⟩
   |succ m=>simp at hm;have:=g3 m c hm;rwa [show i+1+m=i+(m+1) by omega] at this
  ·rename_i j ver;cases hb:Nat.beq ver (S.ver j)<;>simp only[hb,cond_true,cond_false] at hl
   ·cases hl
   cases hl;refine⟨by simp[g1],fun m c hm=>?_⟩;cases m with
   |zero=>simp at hm;subst hm;exact h0
   |succ m=>simp at hm;have:=g3 m c hm;rwa [show i+1+m=i+(m+1) by omega] at this
  ·cases hl
theorem af1 {j off n len:Nat}{ds:List D}(h:ρ.o j=.agg ds)(hl:ds.length=len):(Mg j off n len).ev ρ=.agg ((ds.drop off).take n):=by
 unfold Mg;cases hb:(Nat.beq off 0&&Nat.beq n len)
 ·simp only[cond_false,PE.ev,h];rfl
 ·simp only[ao] at hb;obtain rfl:=ay hb.1;obtain rfl:=ay hb.2;simp only[cond_true,PE.ev,h,List.drop_zero,←hl,List.take_length]
theorem ER (h:Inv C S ρ σ own hv w0 σ0 A a w)(hC:CtxOK C σ0)(hg:holds gs ρ=true){T:TypeId}{x:Operand}{r:Sh×List PI}(hr:tp C S gs dst T x=some r){o:Oper}(ho:o.op=.load T x):
 eG C S ρ σ hv Φ dst a w o r:=by
 unfold tp at hr;split at hr
 case h_2=>cases hr
 rename_i inf ag hi ha;have dR:aH C S ρ σ hv (fa S gs x) (a.eval x) ((qB x).ev ρ):=by
  cases x with
  |tmp t=>exact(mK h hg t).1
  |_=>trivial
 split at hr
 ·
  rename_i j ver off es;rw[es] at dR;cases hb:Nat.beq ver (S.ver j)<;>simp only[hb,cond_true,cond_false] at hr
  ·cases hr
  have dz:=ay hb;obtain⟨k,eW,fR⟩:=dR.2 dz;have aX:=h.objs j;split at hr
  ·rename_i bag shs eo;rw[eo] at aX;obtain⟨k',cs,T',ds,h1,h2,h3,h4,h5,h6,h7⟩:=aX;rw[eW] at h1;cases h1;cases ag with
   |true=>
    simp only[cond_true] at hr;cases hle:Nat.ble (off+inf.size) shs.length<;>simp only[hle,cond_true,cond_false] at hr
    ·cases hr
    have DZ:=jN hle;have hlen:((shs.drop off).take inf.size).length=inf.size:=by simp;omega
    have dv:∀m u,((cs.toList.drop off).take inf.size)[m]?=some u→w.cell? ⟨k,off+m,none⟩=some u:=fun m u hu=>by
     simp only[fM,gj] at hu;split at hu
     ·rename_i hm;have:=M2 h3 (i:=off+m) (by omega);rw[this,←zU];exact congrArg some (sN hu)
     ·cases hu
    have Zj:=vm ho fR (Ld hi ha (by simp;omega) (fun e=>by cases e) dv);split at hr
    ·rename_i l hl;cases hr
     revert hl
     cases Me C j
     ·intro hl;cases hl
     intro hl
     obtain⟨ll,lo⟩:=Wb (cs:=cs) (ds:=ds) _ off l hl (fun m s hm=>by
      simp only[fM,gj] at hm;split at hm
      ·exact(h7 (off+m) s hm).2
      ·cases hm)
     rw[hlen] at ll;refine fun ρ' ah=>⟨_,_,tL ah,Zj,⟨(cs.toList.drop off).take inf.size,(ds.drop off).take inf.size,by simp[rowOf],af1 h5 h6,by simp;omega,by simp;omega,fun m c hm=>?_⟩,fun _ _ e=>by cases e⟩
     have p8:m<inf.size:=by have:=(fm.1 hm).1;omega
     have:=lo m c hm;simpa [aJ,fM,gj,p8] using this
    simp only[az] at hr;obtain⟨p,hp,rfl⟩:=hr
    obtain⟨l1,es,⟨he,_⟩,l2,bL⟩:=M8 (b:=.o j) h (cs:=cs.toList) h5 _ off p (fun m s hm=>by
     simp only[fM,gj] at hm;split at hm
     ·have:=(h7 (off+m) s hm).2;rw[zU];exact this
     ·cases hm) hp
    refine .dat (v:=rowOf true ((cs.toList.drop off).take inf.size)) Zj ?_
    ·simp only[PE.ev,rowOf,if_true,he];refine .agg _ _ _ (by simp;omega) (by omega) (fun m t hm=>?_) (fun m t hm=>(bL m t hm).1);have p8:m<inf.size:=by have:=(fm.1 hm).1;omega
     have:=(bL m t hm).2;simpa [aJ,fM,gj,p8] using this
   |false=>
    simp only[cond_false] at hr;split at hr
    ·rename_i ty hs;cases dc:ty.one<;>simp only[dc,cond_true,cond_false] at hr
     ·cases hr
     cases hr;have kl:=(h7 off _ hs).2;have af:off<shs.length:=(fm.1 hs).1;have wR:(loadVar T ⟨k,off,none⟩).run C.P w=.ok (cs.getD off undef) w:=by
      simp[loadVar,uS ha,run_load,M2 h3 (i:=off) (by omega)]
     refine .dat (v:=cs.getD off undef) (vm ho fR wR) ?_;simp only[PE.ev,h5,D.c,D.cells];exact kl
    ·rename_i j' mP hs;cases hr;have kl:=(h7 off _ hs).2;have af:off<shs.length:=(fm.1 hs).1;have wR:(loadVar T ⟨k,off,none⟩).run C.P w=.ok (cs.getD off undef) w:=by
      simp[loadVar,uS ha,run_load,M2 h3 (i:=off) (by omega)]
     intro ρ' ah;exact⟨_,_,tL ah,vm ho fR wR,kl,fun _ _ e=>by cases e⟩
    ·cases hr
  ·rename_i ts eo;rw[eo] at aX;obtain⟨k',v,h1,h2,h3⟩:=aX;rw[eW] at h1;cases h1;simp only[az] at hr;obtain⟨ty,bh,rfl⟩:=hr;obtain⟨vs,ds,rfl,hd,l1,l2,aO,dc⟩:=h2.agg_inv;obtain⟨bL,hlen,lI⟩:=Kd bh l1 l2 aO dc;refine .dat (vm ho fR (Ld hi ha hlen (fun e=>by rw[hlen];exact lI e) (fun m u hu=>h.cell ?_))) (by rw[Kc (e:=.o j) hd];exact bL);simp only[fM,gj] at hu;split at hu
   ·exact h3 (off+m) u (by simpa [Value.cells] using hu)
   ·cases hu
  ·rename_i ty aw eo;rw[eo] at aX;obtain⟨k',v,h1,h2,h3⟩:=aX;rw[eW] at h1;cases h1;cases hc:(!ag&&ty.one&&Nat.beq off 0)<;>simp only[hc,cond_true,cond_false] at hr
   ·cases hr
   cases hr;simp only[ao,iU] at hc;have jA:=ay hc.2;subst jA;have wR:(loadVar T ⟨k,0,none⟩).run C.P w=.ok v w:=by
        have:=h.cell (h3 0 v (by simp[(h2.oneCell hc.1.2).1]));rw[hc.1.1] at ha;simp[loadVar,uS ha,run_load,this]
   exact .dat (vm ho fR wR) h2
  ·cases hr
 ·
  rename_i j ver size off es;rw[es] at dR;cases hb:Nat.beq ver (S.ver j)<;>simp only[hb,cond_true,cond_false] at hr
  ·cases hr
  have dz:=ay hb;obtain⟨k,n,c,ik,i,eW,uA,bt,fR⟩:=dR.2 dz;have aX:=h.objs j;split at hr
  ·rename_i T' ts eo;rw[eo] at aX;obtain⟨cells,xs,h1,h2,⟨vs,h3,h4⟩,h5⟩:=aX;cases aE:Nat.beq size ts.length<;>simp only[aE,cond_true,cond_false] at hr
   ·cases hr
   have ru:=ay aE;simp only[az] at hr;obtain⟨ty,bh,rfl⟩:=hr;rw[eW] at h2;have aY:=h2.cells (g:=k) rfl;obtain⟨b,c',e1,D0,D1⟩:=xF h2;cases e1;obtain⟨y,hy⟩:∃y,xs[i]?=some y:=⟨_,bA bt⟩
   have Jn:=h3 i y hy;obtain⟨us,ds,uO,hd,l1,l2,aO,dc⟩:=Jn.agg_inv;obtain⟨bL,hlen,lI⟩:=Kd bh l1 l2 aO dc;have amk:(PE.nth (.o j) (qB x)).ev ρ=.agg ds:=by
        simp only[PE.ev,h1,D.l_list,uA,D.i_int,vL];rw[sN hy,hd]
   refine .dat (vm ho fR (Ld hi ha hlen (fun e=>by rw[hlen];exact lI e) (fun m u hu=>?_))) (by rw[Kc amk];exact bL);simp only[fM,gj] at hu;split at hu
   ·have:=h4 i (off+m) u (by omega) (by rw[uO];simpa [Value.cells] using hu);have:=aY _ _ this;rw[sy] at this;simpa [Ty.size,ru,ua] using this
   ·cases hu
  ·rename_i T' e aw eo;rw[eo] at aX;obtain⟨cells,xs,h1,h2,⟨vs,h3,h4⟩,h5⟩:=aX;cases hc:(!ag&&e.one&&Nat.beq off 0&&Nat.beq size 1)<;>simp only[hc,cond_true,cond_false] at hr
   ·cases hr
   cases hr;simp only[ao,iU] at hc;have jA:=ay hc.1.2;have aE:=ay hc.2;subst jA;subst aE;rw[eW] at h2;have aY:=h2.cells (g:=k) rfl;obtain⟨b,c',e1,D0,D1⟩:=xF h2;cases e1;obtain⟨y,hy⟩:∃y,xs[i]?=some y:=⟨_,bA bt⟩
   have Jn:=h3 i y hy;have wR:(loadVar T ⟨k,i*1+0,none⟩).run C.P w=.ok (vs i) w:=by
        have h6:=h4 i 0 (vs i) bt (by simp[(Jn.oneCell hc.1.1.2).1]);have:=aY _ _ h6;rw[sy] at this;have DM:e.size=1:=by cases e<;>simp_all [Ty.size,Ty.one]
        rw[hc.1.1.1] at ha;rw[DM] at this;simp only[gS,iW,Nat.mul_one] at this;simp[loadVar,uS ha,run_load,this]
   refine .dat (vm ho fR wR) ?_;simp only[PE.ev,h1,D.l_list,uA,D.i_int,vL];rw[sN hy];exact Jn
  ·cases hr
 ·simp only[aq] at hr;obtain⟨p,hp,hr⟩:=hr;have aT:=cr h hC hg hp;split at hr
  ·rename_i ty e1;rw[e1] at aT;cases hc:(Nat.beq inf.size ty.size&&(ag==ty.rowT))<;>simp only[hc,cond_true,cond_false] at hr
   ·cases hr
   cases hr;simp only[ao] at hc;exact ap6 h hi ha ho aT hc.1 hc.2
  ·cases hr
end
end Cx
namespace Cx
open Go Go.RowKit
section
variable {C:Ctx} {S:St} {ρ:Env} {σ:Im} {own:Nat→Option Nat} {hv:Nat→Value} {w0:World} {σ0:Base} {A:Nat→Prop} {a:Act} {w:World} {gs:List (Nat×Bool)} {Φ:aL} {dst:Nat}
theorem rV (h:Inv C S ρ σ own hv w0 σ0 A a w)(hg:holds gs ρ=true)(x:Operand):aH C S ρ σ hv (fa S gs x) (a.eval x) ((qB x).ev ρ)∧∀bO s,fa S gs x≠.opt bO s:=by
 cases x with
 |tmp t=>exact mK h hg t
 |_=>exact⟨trivial,fun _ _ e=>by cases e⟩
theorem Xu {P:Program}{T:TypeId}{i:Nat}{f:Field}(h:Di P T i=some f):∃fs,P.underlying T=some (.struct fs)∧fs[i]?=some f:=by
 unfold Di at h;split at h
 ·rename_i fs hu;exact⟨fs,hu,h⟩
 ·cases h
theorem SI {o:Oper}{T:TypeId}{x:Operand}{i:Nat}{f:Field}{inf:TypeInfo}{k off:Nat}(ho:o.op=.fieldAddr T x i)(hf:Di C.P T i=some f)(hi:C.P.info? f.type=some inf)(hn:Nat.beq inf.size 0=false)
 (hx:a.eval x=.pointer (some ⟨k,off,none⟩)):(execOp a.eval o).run C.P w=.ok (.value (.pointer (some ⟨k,off+f.offset,none⟩))) w:=by
 obtain⟨fs,hu,wJ⟩:=Xu hf;have iJ:inf.size≠0:=by intro e;simp[e] at hn
 simp[execOp,ho,Instr.fieldAt,run_underlying hu,wJ,hx,Instr.sureAddr,fieldPlace,Go.sizeOf,run_typeInfo w hi,iJ,sy]
theorem apV (h:Inv C S ρ σ own hv w0 σ0 A a w)(hC:CtxOK C σ0)(hg:holds gs ρ=true){T:TypeId}{x:Operand}{i:Nat}{r:Sh×List PI}(hr:AY C S gs dst T x i=some r){o:Oper}(ho:o.op=.fieldAddr T x i):
 eG C S ρ σ hv Φ dst a w o r:=by
 simp only[AY,aq] at hr;obtain⟨f,hf,hr⟩:=hr;obtain⟨dR,eI⟩:=rV h hg x;split at hr
 case h_2=>cases hr
 rename_i inf ag hi ha;cases hn:Nat.beq inf.size 0<;>simp only[hn,cond_true,cond_false] at hr
 case true=>cases hr
 split at hr
 ·rename_i j ver size off es;cases hb:Nat.beq ver (S.ver j)<;>simp only[hb,cond_true,cond_false] at hr
  ·cases hr
  cases hr;rw[es] at dR;intro ρ' ah;obtain⟨k,n,c,ik,idx,eW,uA,bt,fR⟩:=dR.2 (ay hb);exact⟨_,_,tL ah,SI ho hf hi hn fR,⟨dR.1,fun _=>⟨k,n,c,ik,idx,eW,uA,bt,by rw[ua]⟩⟩,fun _ _ e=>by cases e⟩
 ·split at hr
  ·rename_i ts e hu;have aT:=cr h hC hg hu;simp only[az] at hr;obtain⟨ty,bh,rfl⟩:=hr;obtain⟨k,off,v,y,aQ,bl,bL,jd⟩:=Rep.ref_inv aT;obtain⟨vs,ds,rfl,rfl,l1,l2,aO,dc⟩:=bL.agg_inv;obtain⟨oA,hlen,lI⟩:=Kd bh l1 l2 aO dc;refine .dat (SI ho hf hi hn aQ) ?_;have hde:(PE.deref e).ev ρ=.agg ds:=by simp only[PE.ev,bl,D.deref]
   simp only[PE.ev];rw[Kc hde];refine .ref ty k (off+f.offset) _ _ oA (fun j u hu=>?_);have kV:((vs.drop f.offset).take inf.size)[j]?=some u:=by
        cases ag with
        |true=>simpa [rowOf,Value.cells] using hu
        |false=>
         have:=lI rfl;rw[this] at hlen ⊢;obtain⟨q,hq⟩:∃q,(vs.drop f.offset).take 1=[q]:=by
          match(vs.drop f.offset).take 1,hlen with
          |[q],_=>exact⟨q,rfl⟩
         rw[this] at oA hu;rw[hq] at oA hu ⊢;simp only[rowOf,nJ] at oA hu;have uL:ty.rowT=false:=by
          unfold va at bh;cases hle:Nat.ble (f.offset+inf.size) ts.length<;>simp only[hle,cond_true,cond_false] at bh
          ·cases bh
          ·cases hb:Nat.beq inf.size 1<;>simp only[hb,cond_true,cond_false] at bh
           ·cases bh
           ·have:=dc _ _ bh;cases ty<;>simp_all [Ty.one,Ty.rowT]
         rw[oA.cells1 uL] at hu;simpa using hu
   simp only[fM,gj] at kV;split at kV
   ·have:=jd (f.offset+j) u (by simpa [Value.cells] using kV)
    rwa [←ua] at this
   ·cases kV
  ·split at hr
   ·rename_i j ver off es;cases hb:Nat.beq ver (S.ver j)<;>simp only[hb,cond_true,cond_false] at hr
    ·cases hr
    cases hr;rw[es] at dR;intro ρ' ah;obtain⟨k,eW,fR⟩:=dR.2 (ay hb);exact⟨_,_,tL ah,SI ho hf hi hn fR,⟨dR.1,fun _=>⟨k,eW,rfl⟩⟩,fun _ _ e=>by cases e⟩
   ·cases hr
theorem apX (h:Inv C S ρ σ own hv w0 σ0 A a w)(hC:CtxOK C σ0)(hg:holds gs ρ=true){T:TypeId}{x:Operand}{i:Nat}{r:Sh×List PI}(hr:AX C S gs dst T x i=some r){o:Oper}(ho:o.op=.field T x i):
 eG C S ρ σ hv Φ dst a w o r:=by
 simp only[AX,aq] at hr;obtain⟨f,hf,hr⟩:=hr;split at hr
 case h_2=>cases hr
 rename_i inf ag hi ha;split at hr
 case h_2=>cases hr
 rename_i ts e hu;have aT:=cr h hC hg hu;simp only[az] at hr;obtain⟨ty,bh,rfl⟩:=hr;obtain⟨vs,ds,aQ,bl,l1,l2,aO,dc⟩:=Rep.agg_inv aT;obtain⟨oA,hlen,lI⟩:=Kd bh l1 l2 aO dc;obtain⟨fs,kV,wJ⟩:=Xu hf;have hle:f.offset+inf.size≤ts.length:=by
  unfold va at bh;cases hle:Nat.ble (f.offset+inf.size) ts.length<;>simp only[hle,cond_true,cond_false] at bh
  ·cases bh
  ·exact jN hle
 refine .dat (v:=rowOf ag ((vs.drop f.offset).take inf.size)) ?_ (by rw[Kc bl];exact oA);cases ag with
 |true=>
  simp only[execOp,ho,Instr.field,aQ,asAgg,part];simp[run_underlying kV,wJ,uS ha,Go.sizeOf,run_typeInfo w hi,rowOf]
 |false=>
  have hn:=lI rfl;have af:f.offset<vs.length:=by omega
  simp only[execOp,ho,Instr.field,aQ,asAgg,part];simp[run_underlying kV,wJ,uS ha,rowOf,hn,bA af,aJ,fM,gj]
theorem adZ {o:Oper}{T e:TypeId}{x i:Operand}{inf:TypeInfo}{k off n c idx:Nat}{ik:IntKind}(ho:o.op=.indexAddr T x i)(hT:C.P.underlying T=some (.slice e))(hi:C.P.info? e=some inf)
 (hx:a.eval x=.slice (some ⟨k,off,none⟩) n c) (alJ:a.eval i=.int ik idx) (af:idx<n):(execOp a.eval o).run C.P w=.ok (.value (.pointer (some ⟨k,off+idx*inf.size,none⟩))) w:=by
 simp[execOp,ho,Instr.indexAt,run_underlying hT,hx,alJ,asIntOf,af,Go.sizeOf,run_typeInfo w hi,sy]
theorem Ll {P:Program}{T:TypeId}{t:Ty}(h:rW P T t=true):∃inf,P.info? T=some inf∧inf.size=t.size:=by
 unfold rW at h;split at h
 ·rename_i i hi;exact⟨i,hi,ay h⟩
 ·cases h
theorem ap0 (h:Inv C S ρ σ own hv w0 σ0 A a w)(hC:CtxOK C σ0)(hg:holds gs ρ=true){T:TypeId}{x i:Operand}{r:Sh×List PI}(hr:A0 C S gs dst T x i=some r){o:Oper}(ho:o.op=.indexAddr T x i):
 eG C S ρ σ hv Φ dst a w o r:=by
 unfold A0 at hr;split at hr
 case h_2=>cases hr
 rename_i e hT;simp only[aq] at hr;obtain⟨p,hp,hr⟩:=hr;have aT:=cr h hC hg hp;split at hr
 case h_2=>cases hr
 rename_i ik e1;rw[e1] at aT;obtain⟨idx,aQ,bl,b1,b2⟩:=aT.int_inv;split at hr
 ·rename_i t pe hu;have dm:=cr h hC hg hu;cases aE:rW C.P e t<;>simp only[aE,cond_true,cond_false] at hr
  ·cases hr
  cases hr;obtain⟨inf,hi,hs⟩:=Ll aE;obtain⟨xs,hd,re⟩:=Rep.slice_inv dm;refine .datc hg fun hc=>?_;simp only[PE.ev,hd,bl,D.l_list,D.i_int,D.b_bool,decide_eq_true_eq] at hc;rcases re with⟨_,rfl⟩|⟨k,off,c,rv,h1,h2,vs,h3,h4⟩
  ·simp at hc;omega
  ·obtain⟨m,rfl⟩:=tW hc.1;have af:m<xs.length:=by omega
   refine⟨_,adZ ho hT hi rv aQ af,?_⟩;obtain⟨y,hy⟩:∃y,xs[m]?=some y:=⟨_,bA af⟩
   simp only[PE.ev,hd,bl,D.l_list,D.i_int,vL,sN hy];exact .ref t.unf k _ (vs m) y (h3 m y hy) (fun j u hu=>by rw[hs];exact h4 m j u af hu)
 ·cases hr
 ·obtain⟨dR,eI⟩:=rV h hg x;split at hr
  ·rename_i j ver es;rw[es] at dR;cases hb:Nat.beq ver (S.ver j)<;>simp only[hb,cond_true,cond_false] at hr
   ·cases hr
   have dz:=ay hb;have aX:=h.objs j;have cn:=dR.2 dz;split at hr
   ·rename_i T' t eo;rw[eo] at aX;cases aE:rW C.P e t<;>simp only[aE,cond_true,cond_false] at hr
    ·cases hr
    cases hr;obtain⟨inf,hi,hs⟩:=Ll aE;obtain⟨cells,xs,h1,h2,⟨vs,h3,h4⟩,h5⟩:=aX;intro ρ' ah;obtain⟨hc,hρ⟩:=SJ hg ah;simp only[PE.ev,h1,bl,D.l_list,D.i_int,D.b_bool,decide_eq_true_eq] at hc;obtain⟨m,rfl⟩:=tW hc.1;have af:m<xs.length:=by omega
    rcases h2.2 with⟨_,e0⟩|⟨g,cap,cur,eW,_⟩
    ·omega
    ·refine⟨_,_,hρ,adZ ho hT hi (cn.trans eW) aQ af,⟨by omega,fun _=>⟨g,xs.length,cap,ik,m,eW,bl,af,?_⟩⟩,fun _ _ e=>by cases e⟩;rw[hs];simp
   ·cases hr
  ·cases hr
theorem ap2 (h:Inv C S ρ σ own hv w0 σ0 A a w)(hC:CtxOK C σ0)(hg:holds gs ρ=true){T:TypeId}{x i:Operand}{r:Sh×List PI}(hr:AZ C S gs dst T x i=some r){o:Oper}(ho:o.op=.index T x i):
 eG C S ρ σ hv Φ dst a w o r:=by
 unfold AZ at hr;split at hr
 case h_2=>cases hr
 rename_i hT;simp only[aq] at hr;obtain⟨p,hp,q,hq,hr⟩:=hr;have aT:=cr h hC hg hp;have dF:=cr h hC hg hq;split at hr
 case h_2=>cases hr
 rename_i ik e1 e2;rw[e1] at aT;rw[e2] at dF;obtain⟨idx,aQ,bl,b1,b2⟩:=aT.int_inv;obtain⟨s,iL,ed,_⟩:=dF.str_inv;cases hr;refine .datc hg fun hc=>?_;simp only[PE.ev,ed,bl,D.s_str,D.i_int,D.b_bool,decide_eq_true_eq] at hc;obtain⟨m,rfl⟩:=tW hc.1;have af:m<s.size:=by omega
 refine⟨.int .u8 (s.data.getD m 0).toNat,?_,?_⟩
 ·have:s[m]?=some (s.data.getD m 0):=by
   rw[getElem?_pos s m af];simp[ByteArray.getElem_eq_getElem_data,dV,fL (show m<s.data.size from af)]
  simp[execOp,ho,Instr.index,run_underlying hT,aQ,iL,asIntOf,this]
 ·simp only[PE.ev,ed,bl,D.s_str,D.i_int,vL];refine .int _ _ ?_ ?_
  ·simp only[IntKind.min,IntKind.signed];simp
  ·simp only[IntKind.max,IntKind.signed,IntKind.bits];have:=UInt8.toNat_lt (s.data.getD m 0);simp at this ⊢;omega
end
end Cx
namespace Cx
open Go Go.RowKit
section
variable {C:Ctx} {S:St} {ρ:Env} {σ:Im} {own:Nat→Option Nat} {hv:Nat→Value} {w0:World} {σ0:Base} {A:Nat→Prop} {a:Act} {w:World} {gs:List (Nat×Bool)} {Φ:aL} {dst:Nat}
theorem ave (h:Inv C S ρ σ own hv w0 σ0 A a w)(hC:CtxOK C σ0)(hg:holds gs ρ=true){lo:Option Operand}{l:Ty×PE}{k:IntKind}(hl:Gv C S gs lo=some l)(hk:l.1=.int k):
 ∃n,l.2.ev ρ=.v (.int k n)∧((lo=none∧n=0)∨∃x,lo=some x∧a.eval x=.int k n):=by
 cases lo with
 |none=>simp[Gv] at hl;subst hl;simp at hk;subst hk;exact⟨0,rfl,.inl ⟨rfl,rfl⟩⟩
 |some x=>
  have:=cr h hC hg hl;rw[hk] at this;obtain⟨n,h1,h2,_⟩:=this.int_inv;exact⟨n,h2,.inr ⟨x,rfl,h1⟩⟩
theorem avc (h:Inv C S ρ σ own hv w0 σ0 A a w)(hC:CtxOK C σ0)(hg:holds gs ρ=true){e:PE}{hi:Option Operand}{l:Ty×PE}{k:IntKind}(hl:Gu C S gs e hi=some l)(hk:l.1=.int k):
 ∃n,l.2.ev ρ=.v (.int k n)∧((hi=none∧n=(e.ev ρ).l.length)∨∃x,hi=some x∧a.eval x=.int k n):=by
 cases hi with
 |none=>simp[Gu] at hl;subst hl;simp at hk;subst hk;exact⟨_,rfl,.inl ⟨rfl,rfl⟩⟩
 |some x=>
  have:=cr h hC hg hl;rw[hk] at this;obtain⟨n,h1,h2,_⟩:=this.int_inv;exact⟨n,h2,.inr ⟨x,rfl,h1⟩⟩
theorem run_sliceBound {P:Program}{x:Value}{y i:Nat}{k:IntKind}{code:BoundsCode}{w:World}(hx:x=.int k i)(h:i≤y):(Instr.sliceBound x y code).run P w=.ok i w:=by
 subst hx;simp[Instr.sliceBound,asIntOf,h]
theorem aqf (h:Inv C S ρ σ own hv w0 σ0 A a w)(hC:CtxOK C σ0)(hg:holds gs ρ=true){T:TypeId}{x:Operand}{lo hi mx:Option Operand}{r:Sh×List PI}(hr:A5 C S gs dst T x lo hi mx=some r){o:Oper}(ho:o.op=.slice T x lo hi mx):
 eG C S ρ σ hv Φ dst a w o r:=by
 unfold A5 at hr;split at hr
 case h_3=>cases hr
 case h_2=>
  rename_i n e hT;split at hr
  case h_2=>cases hr
  simp only[aq] at hr;obtain⟨p,hp,hr⟩:=hr;have aT:=cr h hC hg hp;split at hr
  case h_2=>cases hr
  rename_i t ts e1;cases hc:(Nat.beq n (ts.length+1)&&ts.all (Ty.beq t)&&t.one&&rW C.P e t&&Nat.ble n maxLen&&(ZK x|| !Ty.beq t (.int .i64)))<;>simp only[hc,cond_true,cond_false] at hr
  ·cases hr
  cases hr;simp only[ao] at hc;obtain⟨⟨⟨⟨⟨c1,c2⟩,c3⟩,c4⟩,c5⟩,c6⟩:=hc;have hn:=ay c1;have hm:=jN c5;obtain⟨inf,ou,hs⟩:=Ll c4;rw[e1] at aT;obtain⟨k,off,x0,y,rv,hd,hr0,jd⟩:=aT.ref_inv;have uP:t=.int .i64→σ.m k=some hG:=by
   rintro rfl;rw[gg] at c6;rcases c6 with c6|c6
   ·cases x with
    |global g=>
     simp only[use,az] at hp;obtain⟨y',hy',_⟩:=hp;have hk:k=g:=by
      have e:a.eval (.global g)=.pointer (some ⟨g,0,none⟩):=rfl;rw[e] at rv;cases rv;rfl
     subst hk;exact h.le.m _ _ (hC.mg _ _ hy')
    |_=>cases c6
   ·exact absurd c6 (by decide)
  obtain⟨vs,ds,rfl,rfl,l1,l2,jx,_⟩:=hr0.agg_inv
  have aO:∀(i:Nat),i<n→(t::ts)[i]?=some t:=fun i hi=>by
   cases i with
   |zero=>rfl
   |succ i=>
    have af:i<ts.length:=by omega
    rw[GK,bA af];rw[Ty.beq_eq _ _ (bF.1 c2 _ (cS af))]
  have Ot:vs.length=n:=by rw[l1,hn];rfl
  have YI:ds.length=n:=by rw[l2,hn];rfl
  have dc:t.size=1:=by cases t<;>simp_all [Ty.one,Ty.size]
  refine eG.dat (v:=.slice (some ⟨k,off,none⟩) n n) ?_ ?_
  ·have:Addr.add ⟨k,off,none⟩ 0=⟨k,off,none⟩:=by simp[Addr.add]
   simp[execOp,ho,Instr.sliceAt,run_underlying hT,rv,Instr.sureAddr,Instr.sliceBounds,Go.sizeOf,run_typeInfo w ou,this]
  ·have al0:(PE.lst ((List.range n).map fun i=>.cell (.deref p.2) i)).ev ρ=.list ds:=by
        simp only[PE.ev]
        congr 1
        have bK:∀l:List PE,PE.evs ρ l=l.map fun e=>e.ev ρ:=fun l=>by induction l with|nil=>rfl|cons e l ih=>simp[PE.evs,ih]
        rw[bK,GN];apply VQ;intro i;rw[ct];by_cases hi:i<n
        ·rw[qK hi,bA (by omega)];simp only[ka,Function.comp,PE.ev,hd,D.deref,D.c,D.cells];rw[aJ,bA (by omega)];rfl
        ·rw[sn (by simp;omega),sn (by omega)];rfl
   rw[al0];refine .slice t k off n n ds (fun i=>vs.getD i undef) YI (bf _) hm (fun i x hx=>?_) (fun i j u hi hu=>?_) uP
   ·have af:i<n:=by rw[←YI];exact(fm.1 hx).1
    have:=jx i t (aO i af);rw[sN hx] at this;exact this.unf
   ·have h1:=(jx i t (aO i hi)).oneCell c3;rw[h1.1] at hu;cases j with
    |zero=>
     simp at hu;have:=jd i (vs.getD i undef) (by
      simp only[Value.cells];rw[GL,bA (by omega),aJ,bA (by omega)];rfl)
     rw[dc,←hu];simpa using this
    |succ j=>simp at hu
 rename_i e hT;simp only[aq] at hr;obtain⟨p,hp,hr⟩:=hr;have aT:=cr h hC hg hp;split at hr
 case h_2=>cases hr
 rename_i t e1;rw[e1] at aT;simp only[aq] at hr;obtain⟨l,hl,u,hu,hr⟩:=hr;split at hr
 case h_2=>cases hr
 rename_i k1 k2 e2 e3;cases aE:rW C.P e t<;>simp only[aE,cond_true,cond_false] at hr
 ·cases hr
 cases hr;obtain⟨inf,ou,hs⟩:=Ll aE;obtain⟨n1,bl,wQ⟩:=ave h hC hg hl e2;obtain⟨n2,ed,Om⟩:=avc h hC hg hu e3;obtain⟨xs,hd,re⟩:=Rep.slice_inv' aT;refine .datc hg fun hc=>?_;simp only[PE.ev,hd,bl,ed,D.l_list,D.i_int,D.b_bool,decide_eq_true_eq] at hc;obtain⟨m1,rfl⟩:=tW hc.1;obtain⟨m2,rfl⟩:=tW (show 0≤n2 by omega);have NM:m1≤m2:=by omega
 have h2l:m2≤xs.length:=by omega
 have Yg:∀c,xs.length≤c→(Instr.sliceBounds true xs.length c (lo.map a.eval) (hi.map a.eval) none).run C.P w=.ok (m1,m2,c) w:=by
  intro c jc
  have hh:∀code,(match hi.map a.eval with|some v=>Instr.sliceBound v c code|none=>(pure xs.length:Sem Nat)).run C.P w=.ok m2 w:=by
   intro code;rcases Om with⟨rfl,e⟩|⟨y,rfl,e⟩
   ·rw[hd,D.l_list] at e;simp;omega
   ·simp only[ka];exact run_sliceBound e (by omega)
  have Oq:∀code,(match lo.map a.eval with|some v=>Instr.sliceBound v m2 code|none=>(pure 0:Sem Nat)).run C.P w=.ok m1 w:=by
   intro code;rcases wQ with⟨rfl,e⟩|⟨y,rfl,e⟩
   ·simp;omega
   ·simp only[ka];exact run_sliceBound e NM
  have Yy:=hh .sliceAcap;have YK:=Oq .sliceB;unfold Instr.sliceBounds;cases hi<;>cases lo<;>simp at Yy YK ⊢<;>simp[Yy,YK]
 rcases re with⟨⟨p0,rv⟩,rfl⟩|⟨k,off,c,rv,h1,h2,uP,vs,h3,h4⟩
 ·have:m2=0:=by simpa using h2l
  have:m1=0:=by omega
  subst_vars
  refine⟨.slice p0 0 0,?_,?_⟩
  ·have hb:=Yg 0 (bf _);simp only[yx] at hb;cases p0 with
   |none=>simp[execOp,ho,Instr.sliceAt,Instr.slice,run_underlying hT,rv,hb,Go.sizeOf,run_typeInfo w ou]
   |some a0=>simp[execOp,ho,Instr.sliceAt,Instr.slice,run_underlying hT,rv,hb,Go.sizeOf,run_typeInfo w ou]
  ·simp only[PE.ev,hd,bl,ed,D.l_list,D.i_int];cases p0 with
   |none=>exact .nil t
   |some a0=>exact .emp t a0
 ·refine⟨.slice (some (if c=m1 then⟨k,off,none⟩ else⟨k,off+m1*inf.size,none⟩)) (m2-m1) (c-m1),?_,?_⟩
  ·have hb:=Yg c h1;simp only[execOp,ho,Option.map_none,Instr.sliceAt,run_underlying hT,rv];simp[run_underlying hT,Instr.slice,hb,Go.sizeOf,run_typeInfo w ou,sy];split<;>simp
  ·simp only[PE.ev,hd,bl,ed,D.l_list,D.i_int,vL];have hlen:((xs.take m2).drop m1).length=m2-m1:=by simp;omega
   have jx:∀(i:Nat) (y:D),((xs.take m2).drop m1)[i]?=some y→xs[m1+i]?=some y:=by
        intro i y hy;simp only[gj,fM] at hy;split at hy
        ·exact hy
        ·cases hy
   have jd:∀(i j:Nat) (v:Value),i<m2-m1→(vs (m1+i)).cells[j]?=some v→σ.c k (off+m1*inf.size+i*t.size+j)=some v:=by
        intro i j v hi hj;have:=h4 (m1+i) j v (by omega) hj;rw[py] at this;rw[hs]
        rwa [←ua] at this
   split
   ·rename_i m4;refine .slice t k off (m2-m1) (c-m1) _ (fun i=>vs (m1+i)) hlen (by omega) (by omega) (fun i y hy=>h3 _ _ (jx i y hy)) (fun i j v hi hj=>by omega) uP
   ·exact .slice t k (off+m1*inf.size) (m2-m1) (c-m1) _ (fun i=>vs (m1+i)) hlen (by omega) (by omega) (fun i y hy=>h3 _ _ (jx i y hy)) jd uP
theorem afa (h:Inv C S ρ σ own hv w0 σ0 A a w)(hC:CtxOK C σ0)(hg:holds gs ρ=true):∀(xs:List Operand) (r:List Ty×List PE),kG C S gs xs=some r→
 r.1.length=xs.length∧r.2.length=xs.length∧∀(i:Nat) (t:Ty),r.1[i]?=some t→Rep C.cap σ t ((xs.map a.eval).getD i undef) ((PE.evs ρ r.2).getD i .none):=by
 intro xs
 induction xs with
 |nil=>intro r hr;simp[kG] at hr;subst hr;exact⟨rfl,rfl,by simp⟩
 |cons x xs ih=>
  intro r hr;simp only[kG,aq,az] at hr;obtain⟨p,hp,q,hq,rfl⟩:=hr;obtain⟨l1,l2,aO⟩:=ih q hq;refine⟨by simp[l1],by simp[l2],fun i t hi=>?_⟩;cases i with
  |zero=>simp at hi;subst hi;simpa [PE.evs] using cr h hC hg hp
  |succ i=>simp at hi;simpa [PE.evs] using aO i t hi
theorem apY (h:Inv C S ρ σ own hv w0 σ0 A a w)(hC:CtxOK C σ0)(hg:holds gs ρ=true){fn:Fn}{first caps:Array Operand}{r:Sh×List PI}(hr:QN C S gs dst fn first caps=some r){o:Oper}(ho:o.op=.makeFunc fn first caps):
 eG C S ρ σ hv Φ dst a w o r:=by
 unfold QN at hr;split at hr
 case h_2=>cases hr
 rename_i f DQ;have DN:first=#[]:=by simpa using DQ
 subst DN;simp only[aq] at hr;obtain⟨cs,dv,p,hp,hr⟩:=hr;cases hb:Ty.subs p.1 cs.caps<;>simp only[hb,cond_true,cond_false] at hr
 ·cases hr
 cases hr;obtain⟨l1,l2,aO⟩:=afa h hC hg _ _ hp;have hl:=Ty.subs_len _ _ hb;refine .dat (v:=.func (.func f) #[] (caps.map a.eval)) ?_ ?_
 ·simp[execOp,ho,Instr.makeFunc]
 ·simp only[PE.ev];have:caps.map a.eval=(caps.toList.map a.eval).toArray:=by apply sf;rw[vH]
  rw[this];have e1:(caps.toList.map a.eval).length=cs.caps.length:=by rw[eN];omega
  have e2:(PE.evs ρ p.2).length=cs.caps.length:=by rw[PE.evs_eq,eN];omega
  refine .fn f cs _ _ dv e1 e2 (fun i t hi=>?_);obtain⟨s,hs,cH⟩:=Ty.subs_get _ _ hb i t hi;exact(aO i s hs).sub cH
theorem aqa (h:Inv C S ρ σ own hv w0 σ0 A a w)(hC:CtxOK C σ0)(hg:holds gs ρ=true){x:Operand}{r:Sh×List PI}(hr:A3 C S gs dst x=some r){o:Oper}(ho:o.op=.nilCheck x):
 eG C S ρ σ hv Φ dst a w o r:=by
 have ah:∀k off,a.eval x=.pointer (some ⟨k,off,none⟩)→(execOp a.eval o).run C.P w=.ok (.value (a.eval x)) w:=by
  intro k off e;simp[execOp,ho,e]
 unfold A3 at hr;split at hr
 ·rename_i t e hu;cases hr;have aT:=cr h hC hg hu;obtain⟨k,off,v,y,aQ,bl,bL,jd⟩:=Rep.ref_inv aT;exact .dat (ah k off aQ) aT
 ·split at hr
  ·rename_i t _;obtain⟨hs,eI⟩:=mK h hg t;split at hr
   ·rename_i j ver off es;rw[es] at hs;cases hb:Nat.beq ver (S.ver j)<;>simp only[hb,cond_true,cond_false] at hr
    ·cases hr
    cases hr;obtain⟨k,eW,fR⟩:=hs.2 (ay hb);intro ρ' uJ;exact⟨_,_,tL uJ,ah k off fR,hs,fun _ _ e=>by cases e⟩
   ·rename_i j ver sz off es;rw[es] at hs;cases hb:Nat.beq ver (S.ver j)<;>simp only[hb,cond_true,cond_false] at hr
    ·cases hr
    cases hr;have eU:=hs;obtain⟨k,n,c,ik,i,eW,uA,bt,fR⟩:=hs.2 (ay hb);intro ρ' uJ;exact⟨_,_,tL uJ,ah _ _ fR,eU,fun _ _ e=>by cases e⟩
   ·cases hr
  ·cases hr
theorem afm {cap:Nat→Option CSig}{t:Ty}{z:Ty×D}{v:Value}(h:qG t=some z)(hz:yj t v=true):Rep cap σ z.1 v z.2∧z.1.one=true∧Ty.sub z.1 t=true:=by
 unfold yj at hz;split at hz
 ·simp at hz;obtain⟨rfl,rfl⟩:=hz;simp[qG] at h;subst h;exact⟨.int _ 0 (by rename_i k;cases k<;>decide) (by rename_i k;cases k<;>decide),rfl,by simp[Ty.sub,Ty.beq]⟩
 ·simp at hz;subst hz;simp[qG] at h;subst h;exact⟨.bool false,rfl,rfl⟩
 ·rename_i s;have:s=ByteArray.empty:=by
   have:s.size=0:=by simpa using hz
   cases s with|mk d=>simp[ByteArray.size] at this;subst this;rfl
  subst this;simp[qG] at h;subst h;exact⟨.str _ (by decide),rfl,rfl⟩
 ·simp[qG] at h;subst h;exact⟨.nils _,rfl,rfl⟩
 ·simp[qG] at h;subst h;refine⟨.mapnil _ _,rfl,?_⟩;simp only[Ty.sub];exact Ty.beq_refl _
 ·simp[qG] at h;subst h;exact⟨.fnnil _ _,rfl,by simp only[Ty.sub];exact Ty.beq_refl _⟩
 ·cases hz
end
end Cx
namespace Cx
open Go Go.RowKit
theorem mapM_some {α β:Type}(f:α→Option β):∀(l:List α) (r:List β),l.mapM f=some r→r.length=l.length∧∀(i:Nat) (x:α),l[i]?=some x→∃y,r[i]?=some y∧f x=some y
 |[],r,h=>by simp at h;subst h;exact⟨rfl,by simp⟩
 |x::l,r,h=>by
  simp only[VV,Option.bind_eq_bind,aq] at h;obtain⟨y,hy,ys,xd,h⟩:=h;cases h;obtain⟨h1,h2⟩:=mapM_some f l ys xd;refine⟨by simp[h1],fun i z hi=>?_⟩;cases i with
  |zero=>simp at hi;subst hi;exact⟨y,rfl,hy⟩
  |succ i=>simp at hi;simpa using h2 i z hi
theorem Vw:∀(ts:List Ty) (vs:List Value),B0 ts vs=true→vs.length=ts.length∧∀(i:Nat) (t:Ty),ts[i]?=some t→∃v,vs[i]?=some v∧yj t v=true
 |[],vs,h=>by cases vs<;>simp_all [B0]
 |t::ts,vs,h=>by
  cases vs with
  |nil=>simp[B0] at h
  |cons v vs=>
   simp only[B0,ao] at h;obtain⟨h1,h2⟩:=Vw ts vs h.2;refine⟨by simp[h1],fun i u hi=>?_⟩;cases i with
   |zero=>simp at hi;subst hi;exact⟨v,rfl,h.1⟩
   |succ i=>simp at hi;simpa using h2 i u hi
theorem yk {cap:Nat→Option CSig}{σ:Im}{t:Ty}{z:Ty×D}{v:Value}(h:pk t=some z)(hz:jL t v=true):Rep cap σ z.1 v z.2∧Ty.sub z.1 t=true∧z.1.one=t.one:=by
 cases t with
 |agg ts=>
  simp only[pk,az] at h;obtain⟨zs,tg,rfl⟩:=h;cases v with
  |agg vs=>
   simp only[jL] at hz;obtain⟨l1,h1⟩:=Vw ts vs.toList hz;obtain⟨l2,h2⟩:=mapM_some _ _ _ tg;have key:∀(i:Nat) (t:Ty),ts[i]?=some t→∃y v,zs[i]?=some y∧vs.toList[i]?=some v∧Rep cap σ y.1 v y.2∧y.1.one=true∧Ty.sub y.1 t=true:=by
      intro i t hi;obtain⟨y,hy,tc⟩:=h2 i t hi;obtain⟨v,hv,iL⟩:=h1 i t hi;obtain⟨g1,g2,g3⟩:=afm (cap:=cap) (σ:=σ) tc iL;exact⟨y,v,hy,hv,g1,g2,g3⟩
   have bS:∀(ts:List Ty) (zs:List (Ty×D)),zs.length=ts.length→(∀(i:Nat) (t:Ty),ts[i]?=some t→∃y,zs[i]?=some y∧Ty.sub y.1 t=true)→Ty.subs (zs.map (·.1)) ts=true:=by
      intro ts
      induction ts with
      |nil=>intro zs hl _;cases zs<;>simp_all [Ty.subs]
      |cons t ts ih=>
       intro zs hl hh;cases zs with
       |nil=>simp at hl
       |cons z zs=>
        simp only[gk,Ty.subs,ao];refine⟨?_,ih zs (by simpa using hl) fun i u hu=>by simpa using hh (i+1) u (by simpa using hu)⟩;obtain⟨y,hy,tc⟩:=hh 0 t rfl;simp at hy;subst hy;exact tc
   refine⟨?_,?_,rfl⟩
   ·have:vs=vs.toList.toArray:=by simp
    rw[this];refine .agg _ _ _ (by rw[eN];omega) (by simp) (fun i t hi=>?_) (fun i t hi=>?_)
    ·simp only[ct,az] at hi;obtain⟨q,hq,rfl⟩:=hi;obtain⟨t',O9⟩:∃t',ts[i]?=some t':=⟨_,bA (by have:=(fm.1 hq).1;omega)⟩
     obtain⟨y,v,hy,hv,g1,g2,g3⟩:=key i t' O9;rw[hq] at hy;cases hy;rw[sN hv,sN (show(zs.map (·.2))[i]?=some q.2 by simp[hq])];exact g1
    ·simp only[ct,az] at hi;obtain⟨q,hq,rfl⟩:=hi;obtain⟨t',O9⟩:∃t',ts[i]?=some t':=⟨_,bA (by have:=(fm.1 hq).1;omega)⟩
     obtain⟨y,v,hy,hv,g1,g2,g3⟩:=key i t' O9;rw[hq] at hy;cases hy;exact g2
   ·simp only[Ty.sub];exact bS ts zs l2 fun i t hi=>by obtain⟨y,v,hy,hv,g1,g2,g3⟩:=key i t hi;exact⟨y,hy,g3⟩
  |_=>simp[jL] at hz
 |_=>
  obtain⟨g1,g2,g3⟩:=afm (cap:=cap) (σ:=σ) (by simpa [pk] using h) (by simpa [jL] using hz);exact⟨g1,g3,(Ty.sub_one _ _ g3).1⟩
theorem agT {a b:ByteArray}(h:(a==b)=true):a=b:=by
 cases a with|mk x=>cases b with|mk y=>
 have:(x==y)=true:=h;rw[eq_of_beq this]
theorem agU (a:ByteArray):(a==a)=true:=by
 cases a with|mk x=>
 show(x==x)=true;simp
theorem PG {P:Program}{K:TypeId}{kt:Ty}(hk:mA P K kt=true):
 (∃k k',kt=.int k∧P.underlying K=some (.int k'))∨(kt=.str∧P.underlying K=some .string)∨(kt=.bool∧P.underlying K=some .bool):=by
 unfold mA at hk;split at hk
 ·split at hk
  ·exact .inl ⟨_,_,rfl,by assumption⟩
  ·cases hk
 ·split at hk
  ·exact .inr (.inl ⟨rfl,by assumption⟩)
  ·cases hk
 ·split at hk
  ·exact .inr (.inr ⟨rfl,by assumption⟩)
  ·cases hk
 ·cases hk
theorem ai2 {cap:Nat→Option CSig}{σ:Im}{P:Program}{K:TypeId}{kt:Ty}{desc:TypeDesc}(hk:mA P K kt=true)(hu:P.underlying K=some desc){v:Value}{d:D}(hv:Rep cap σ kt v d):
 ∀(es:List MapEntry) (ds:List (D×D)) (i:Nat),ds.length=es.length→(∀(j:Nat) (e:MapEntry) (p:D×D),es[j]?=some e→ds[j]?=some p→Rep cap σ kt e.key p.1)→
  (Instr.findNow desc v es i=some none∧∀(j:Nat) (p:D×D),ds[j]?=some p→eJ d p.1=false)∨
  ∃j e p,es[j]?=some e∧ds[j]?=some p∧Instr.findNow desc v es i=some (some (i+j,e.val))∧eJ d p.1=true∧Instr.sameBits 10000 e.key v=true∧∀m q,m<j→ds[m]?=some q→eJ d q.1=false:=by
 have dc:∀(v':Value) (d':D),Rep cap σ kt v' d'→Instr.sameNow desc v v'=some (eJ d d')∧(eJ d d'=true→Instr.sameBits 10000 v' v=true):=by
  intro v' d' h';rcases PG hk with⟨k,k',rfl,kV⟩|⟨rfl,kV⟩|⟨rfl,kV⟩
  ·rw[hu] at kV;cases kV;obtain⟨n,rfl,rfl,_⟩:=hv.int_inv;obtain⟨m,rfl,rfl,_⟩:=h'.int_inv;refine⟨by simp[Instr.sameNow,eJ,D.cells,rz,tj],fun e=>?_⟩;have:n=m:=by simpa [eJ,D.cells,rz,tj] using e
   subst this;simp[Instr.sameBits]
  ·rw[hu] at kV;cases kV;obtain⟨n,rfl,rfl,_⟩:=hv.str_inv;obtain⟨m,rfl,rfl,_⟩:=h'.str_inv;refine⟨by simp[Instr.sameNow,eJ,D.cells,rz,tj],fun e=>?_⟩;have:n=m:=agT (by simpa [eJ,D.cells,rz,tj] using e);subst this;simpa [Instr.sameBits] using agU n
  ·rw[hu] at kV;cases kV;obtain⟨n,rfl,rfl⟩:=hv.bool_inv;obtain⟨m,rfl,rfl⟩:=h'.bool_inv;refine⟨by simp[Instr.sameNow,eJ,D.cells,rz,tj],fun e=>?_⟩;have:n=m:=by simpa [eJ,D.cells,rz,tj] using e
   subst this;simp[Instr.sameBits]
 intro es
 induction es with
 |nil=>intro ds i hl _;left;exact⟨rfl,by cases ds<;>simp_all⟩
 |cons e es ih=>
  intro ds i hl aO;cases ds with
  |nil=>simp at hl
  |cons p ds=>
   obtain⟨hs,hb⟩:=dc e.key p.1 (aO 0 e p rfl rfl);cases m8:eJ d p.1 with
   |true=>
    right;rw[m8] at hs;exact⟨0,e,p,rfl,rfl,by simp[Instr.findNow,hs],m8,hb m8,fun m q hm=>by omega⟩
   |false=>
    rw[m8] at hs;rcases ih ds (i+1) (by simpa using hl) (fun j e' p' he hp=>aO (j+1) e' p' (by simpa using he) (by simpa using hp)) with⟨h1,h2⟩|⟨j,e',p',h1,h2,h3,h4,h5,h6⟩
    ·left;refine⟨by simp[Instr.findNow,hs,h1],fun j q hq=>?_⟩;cases j with
     |zero=>simp at hq;subst hq;exact m8
     |succ j=>exact h2 j q (by simpa using hq)
    ·right;refine⟨j+1,e',p',by simpa using h1,by simpa using h2,?_,h4,h5,fun m q hm hq=>?_⟩
     ·simp[Instr.findNow,hs,h3];omega
     ·cases m with
      |zero=>simp at hq;subst hq;exact m8
      |succ m=>exact h6 m q (by omega) (by simpa using hq)
theorem PU {d:D}:∀{ds:List (D×D)},(∀(j:Nat) (p:D×D),ds[j]?=some p→eJ d p.1=false)→mB d ds=none
 |[],_=>rfl
 |p::ds,h=>by simp only[mB,h 0 p rfl];exact PU fun j q hq=>h (j+1) q (by simpa using hq)
theorem PV {d:D}:∀{ds:List (D×D)} {j:Nat} {p:D×D},ds[j]?=some p→eJ d p.1=true→(∀(m:Nat) (q:D×D),m<j→ds[m]?=some q→eJ d q.1=false)→mB d ds=some p.2
 |[],j,p,hp,_,_=>by simp at hp
 |x::ds,0,p,hp,hk,_=>by simp at hp;subst hp;simp[mB,hk]
 |x::ds,j+1,p,hp,hk,hm=>by
  simp only[mB,hm 0 x (by omega) rfl];exact PV (j:=j) (by simpa using hp) hk fun m q af hq=>hm (m+1) q (by omega) (by simpa using hq)
theorem Q6 {d v:D}:∀{ds:List (D×D)},(∀(j:Nat) (p:D×D),ds[j]?=some p→eJ d p.1=false)→lf d v ds=ds++[(d,v)]
 |[],_=>rfl
 |p::ds,h=>by simp only[lf,h 0 p rfl,vI,if_false,GG];rw[Q6 fun j q hq=>h (j+1) q (by simpa using hq)]
theorem Q7 {d v:D}:∀{ds:List (D×D)} {j:Nat} {p:D×D},ds[j]?=some p→eJ d p.1=true→(∀(m:Nat) (q:D×D),m<j→ds[m]?=some q→eJ d q.1=false)→lf d v ds=ds.set j (d,v)
 |[],j,p,hp,_,_=>by simp at hp
 |x::ds,0,p,hp,hk,_=>by simp at hp;subst hp;simp[lf,hk]
 |x::ds,j+1,p,hp,hk,hm=>by
  simp only[lf,hm 0 x (by omega) rfl,vI,if_false,List.set_cons_succ];rw[Q7 (j:=j) (by simpa using hp) hk fun m q af hq=>hm (m+1) q (by omega) (by simpa using hq)]
theorem ZX {P:Program}{K:TypeId}{kt:Ty}(hk:AI P K kt=true):
 ∃k k' e q i,kt=.agg [.int k,.int k']∧P.underlying K=some (.array 2 e)∧P.underlying e=some (.int q)∧P.plainKey e=true∧P.info? e=some i∧P.cellsOf e=1:=by
 unfold AI at hk;split at hk
 case h_2=>cases hk
 rename_i k k';split at hk
 case h_2=>cases hk
 rename_i n e hu;simp only[ao] at hk;obtain⟨⟨⟨h1,h2⟩,h3⟩,h4⟩:=hk;have hn:=ay h1;subst hn;split at h2
 case h_2=>cases h2
 rename_i q hq;split at h4
 case h_2=>cases h4
 rename_i i hi;exact⟨k,k',e,q,i,rfl,hu,hq,h3,hi,ay h4⟩
theorem Rep.pair_inv {cap:Nat→Option CSig}{σ:Im}{k k':IntKind}{v:Value}{d:D}(h:Rep cap σ (.agg [.int k,.int k']) v d):∃a b,v=.agg #[.int k a,.int k' b]∧d=.agg [.v (.int k a),.v (.int k' b)]:=by
 generalize ht:Ty.agg [.int k,.int k']=t at h;cases h with
 |agg ts vs ds h1 h2 h ho=>
  cases ht;obtain⟨x,y,rfl⟩:∃x y,vs=[x,y]:=by
   match vs,h1 with
   |[x,y],_=>exact⟨x,y,rfl⟩
  obtain⟨p,q,rfl⟩:∃x y,ds=[x,y]:=by
   match ds,h2 with
   |[x,y],_=>exact⟨x,y,rfl⟩
  obtain⟨a,e1,e2,_⟩:=(h 0 _ rfl).int_inv;obtain⟨b,e3,e4,_⟩:=(h 1 _ rfl).int_inv;simp at e1 e2 e3 e4;subst e1 e2 e3 e4;exact⟨a,b,rfl,rfl⟩
 |_=>cases ht
theorem ar2 {P:Program}{K e:TypeId}{q:IntKind}{i:TypeInfo}(hu:P.underlying K=some (.array 2 e))(hq:P.underlying e=some (.int q))(hp:P.plainKey e=true)(hi:P.info? e=some i)(hc:P.cellsOf e=1)(k k':IntKind)(a b c d:Int)(w:World):
 (Op.equal K (.agg #[.int k a,.int k' b]) (.agg #[.int k c,.int k' d])).run P w=.ok (a==c&&b==d) w:=by
 unfold Op.equal;show(Op.equalIn (9999+1) K _ _).run P w=_;rw[run_equalIn_array w 9999 _ _ hu hi,hc];have e0:List.range 2=[0,1]:=rfl;have p0:∀(x y:Value) (w:World),(part e #[x,y] 0).run P w=.ok x w:=fun x y w=>run_part_plain w hp rfl;have p1:∀(x y:Value) (w:World),(part e #[x,y] 1).run P w=.ok y w:=fun x y w=>run_part_plain w hp rfl;have q0:∀(k:IntKind) (a b:Int) (w:World),(Op.equalIn 9999 e (.int k a) (.int k b)).run P w=.ok (a==b) w:=fun k a b w=>run_equalIn_int w 9998 e k q a b hq;rw[e0];simp only[Op.eqItems,Sem.run_bind,Nat.zero_mul,Nat.one_mul,p0,p1,Result.andThen_ok,q0];cases a==c
 ·simp
 ·simp only[sl,vI,if_false,Sem.run_bind,p1,Result.andThen_ok,q0];cases b==d<;>simp
theorem ZW {P:Program}{K:TypeId}{kt:Ty}(hk:uT P K kt=true):mA P K kt=true∨AI P K kt=true:=by
 unfold uT at hk;simpa using hk
theorem ahk {cap:Nat→Option CSig}{σ:Im}{P:Program}{K:TypeId}{kt:Ty}(hk:AI P K kt=true){v:Value}{d:D}(hv:Rep cap σ kt v d){w:World}{b:Bool}:(Instr.checkKey b 10000 K v).run P w=.ok () w:=by
 obtain⟨k,k',e,q,i,rfl,hu,hq,hp,hi,hc⟩:=ZX hk;obtain⟨x,y,rfl,_⟩:=hv.pair_inv;have p0:∀(x y:Value) (w:World),(part e #[x,y] 0).run P w=.ok x w:=fun x y w=>run_part_plain w hp rfl;have p1:∀(x y:Value) (w:World),(part e #[x,y] 1).run P w=.ok y w:=fun x y w=>run_part_plain w hp rfl
 have c0:∀(m:Nat) (k:IntKind) (n:Int) (w:World),(Instr.checkKey b (m+1) e (.int k n)).run P w=.ok () w:=fun m k n w=>by
  simp[Instr.checkKey,run_underlying hq]
 have s0:∀w:World,(Go.sizeOf e).run P w=Result.ok 1 w:=fun w=>by rw[run_sizeOf w hi,hc]
 have main:∀m,(Instr.checkKey b (m+1+1) K (.agg #[.int k x,.int k' y])).run P w=.ok () w:=by
  intro m;rw[Instr.checkKey];simp only[Sem.run_bind,run_underlying hu,Result.andThen_ok,Std.Legacy.Range.forIn_eq_forIn_range',Std.Legacy.Range.size,Nat.sub_zero,Nat.add_one_sub_one,Nat.div_one];simp[List.range',s0,p0,p1,c0,Sem.run_bind,Result.andThen_ok]
 exact main 9998
theorem WO {cap:Nat→Option CSig}{σ:Im}{P:Program}{K:TypeId}{kt:Ty}(hk:uT P K kt=true){v:Value}{d:D}(hv:Rep cap σ kt v d){w:World}{b:Bool}:(Instr.checkKey b 10000 K v).run P w=.ok () w:=by
 rcases ZW hk with hk|hk
 case inr=>exact ahk hk hv
 have:∀n,(Instr.checkKey b (n+1) K v).run P w=.ok () w:=by
  intro n;rcases PG hk with⟨k,k',rfl,hu⟩|⟨rfl,hu⟩|⟨rfl,hu⟩<;>cases v<;>simp[Instr.checkKey,run_underlying hu]
 exact this 9999
section
variable {C:Ctx} {S:St} {ρ:Env} {σ:Im} {own:Nat→Option Nat} {hv:Nat→Value} {w0:World} {σ0:Base} {A:Nat→Prop} {a:Act} {w:World} {gs:List (Nat×Bool)} {Φ:aL} {dst:Nat}
theorem anQ {P:Program}{K:TypeId}{kt:Ty}(hk:mA P K kt=true):∃desc,P.underlying K=some desc:=by
 rcases PG hk with⟨k,k',rfl,hu⟩|⟨rfl,hu⟩|⟨rfl,hu⟩<;>exact⟨_,hu⟩
theorem ar3 {cap:Nat→Option CSig}{P:Program}{K:TypeId}{kt et:Ty}(hk:AI P K kt=true){v:Value}{d:D}(hv:Rep cap σ kt v d)(arr:Array MapEntry)(ds:List (D×D))(hl:ds.length=arr.size)
 (aO:∀(j:Nat) (e:MapEntry) (p:D×D),arr[j]?=some e→ds[j]?=some p→Rep cap σ kt e.key p.1∧Rep cap σ et e.val p.2) (w:World):
 ((Instr.findKey K v arr.toList).run P w=.ok none w∧mB d ds=none∧∀u,lf d u ds=ds++[(d,u)])∨
 ∃j e p,arr[j]?=some e∧ds[j]?=some p∧(Instr.findKey K v arr.toList).run P w=.ok (some (j,e.val)) w∧mB d ds=some p.2∧(∀u,lf d u ds=ds.set j (d,u))∧Instr.sameBits 10000 e.key v=true:=by
 obtain⟨k,k',e,q,i,rfl,hu,hq,hp,hi,hc⟩:=ZX hk;have dc:∀(v':Value) (d':D),Rep cap σ (.agg [.int k,.int k']) v' d'→(Op.equal K v v').run P w=.ok (eJ d d') w∧(eJ d d'=true→Instr.sameBits 10000 v' v=true)∧Instr.sameNow (.array 2 e) v v'=none:=by
  intro v' d' h';obtain⟨a,b,rfl,rfl⟩:=hv.pair_inv;obtain⟨a',b',rfl,rfl⟩:=h'.pair_inv;refine⟨?_,fun he=>?_,rfl⟩
  ·rw[ar2 hu hq hp hi hc];simp[eJ,D.cells,rz,tj]
  ·have:a=a'∧b=b':=by simpa [eJ,D.cells,rz,tj] using he
   obtain⟨rfl,rfl⟩:=this;simp[Instr.sameBits]
 have ask:∀(es:List MapEntry) (ds:List (D×D)) (i:Nat),ds.length=es.length→(∀(j:Nat) (e:MapEntry) (p:D×D),es[j]?=some e→ds[j]?=some p→Rep cap σ (.agg [.int k,.int k']) e.key p.1)→
  ((Instr.findAsking K v es i).run P w=.ok none w∧∀(j:Nat) (p:D×D),ds[j]?=some p→eJ d p.1=false)∨
  ∃j e p,es[j]?=some e∧ds[j]?=some p∧(Instr.findAsking K v es i).run P w=.ok (some (i+j,e.val)) w∧eJ d p.1=true∧Instr.sameBits 10000 e.key v=true∧∀m q,m<j→ds[m]?=some q→eJ d q.1=false:=by
  intro es
  induction es with
  |nil=>intro ds i hl _;left;exact⟨by simp[Instr.findAsking],by cases ds<;>simp_all⟩
  |cons en es ih=>
   intro ds i hl aO;cases ds with
   |nil=>simp at hl
   |cons p ds=>
    obtain⟨hs,hb,_⟩:=dc en.key p.1 (aO 0 en p rfl rfl);cases m8:eJ d p.1 with
    |true=>
     right;rw[m8] at hs;exact⟨0,en,p,rfl,rfl,by simp[Instr.findAsking,hs],m8,hb m8,fun m q hm=>by omega⟩
    |false=>
     rw[m8] at hs;rcases ih ds (i+1) (by simpa using hl) (fun j e' p' he hp=>aO (j+1) e' p' (by simpa using he) (by simpa using hp)) with⟨h1,h2⟩|⟨j,e',p',h1,h2,h3,h4,h5,h6⟩
     ·left;refine⟨by simp[Instr.findAsking,hs,h1],fun j q hq=>?_⟩;cases j with
      |zero=>simp at hq;subst hq;exact m8
      |succ j=>exact h2 j q (by simpa using hq)
     ·right;refine⟨j+1,e',p',by simpa using h1,by simpa using h2,?_,h4,h5,fun m q hm hq=>?_⟩
      ·simp[Instr.findAsking,hs,h3];omega
      ·cases m with
       |zero=>simp at hq;subst hq;exact m8
       |succ m=>exact h6 m q (by omega) (by simpa using hq)
 have kR:(Instr.findKey K v arr.toList).run P w=(Instr.findAsking K v arr.toList 0).run P w:=by
  cases jy:arr.toList with
  |nil=>simp[Instr.findKey,run_underlying hu,Instr.findNow,Instr.findAsking]
  |cons en es=>
   obtain⟨p,Ed⟩:∃p,ds[0]?=some p:=by
        have:0<ds.length:=by rw[hl];have:=congrArg List.length jy;simp at this;omega
        exact⟨_,bA this⟩
   have Of:arr[0]?=some en:=by rw[←B1,jy];rfl
   have:=(dc en.key p.1 (aO 0 en p Of Ed).1).2.2;simp[Instr.findKey,run_underlying hu,Instr.findNow,this]
 rw[kR];rcases ask arr.toList ds 0 (by simpa using hl) (fun j e p he hp=>(aO j e p (by simpa using he) hp).1) with⟨h1,h2⟩|⟨j,e,p,h1,h2,h3,h4,h5,h6⟩
 ·left;exact⟨h1,PU h2,fun u=>Q6 h2⟩
 ·right;simp only[gS] at h3;exact⟨j,e,p,by simpa using h1,h2,h3,PV h2 h4 h6,fun u=>Q7 h2 h4 h6,h5⟩
theorem run_findKey {cap:Nat→Option CSig}{P:Program}{K:TypeId}{kt et:Ty}(iI:uT P K kt=true){v:Value}{d:D}(hv:Rep cap σ kt v d)(arr:Array MapEntry)(ds:List (D×D))(hl:ds.length=arr.size)
 (aO:∀(j:Nat) (e:MapEntry) (p:D×D),arr[j]?=some e→ds[j]?=some p→Rep cap σ kt e.key p.1∧Rep cap σ et e.val p.2) (w:World):
 ((Instr.findKey K v arr.toList).run P w=.ok none w∧mB d ds=none∧∀u,lf d u ds=ds++[(d,u)])∨
 ∃j e p,arr[j]?=some e∧ds[j]?=some p∧(Instr.findKey K v arr.toList).run P w=.ok (some (j,e.val)) w∧mB d ds=some p.2∧(∀u,lf d u ds=ds.set j (d,u))∧Instr.sameBits 10000 e.key v=true:=by
 rcases ZW iI with hk|hk
 case inr=>exact ar3 hk hv arr ds hl aO w
 obtain⟨desc,hu⟩:=anQ hk;rcases ai2 hk hu hv arr.toList ds 0 (by simpa using hl) (fun j e p he hp=>(aO j e p (by simpa using he) hp).1) with⟨h1,h2⟩|⟨j,e,p,h1,h2,h3,h4,h5,h6⟩
 ·left;exact⟨by simp[Instr.findKey,run_underlying hu,h1],PU h2,fun u=>Q6 h2⟩
 ·right;refine⟨j,e,p,by simpa using h1,h2,?_,PV h2 h4 h6,fun u=>Q7 h2 h4 h6,h5⟩;simp only[gS] at h3;simp[Instr.findKey,run_underlying hu,h3]
theorem ap8 (h:Inv C S ρ σ own hv w0 σ0 A a w)(hC:CtxOK C σ0)(hg:holds gs ρ=true){T:TypeId}{m k:Operand}{ok:Bool}{r:Sh×List PI}(hr:A2 C S gs dst T m k ok=some r){o:Oper}(ho:o.op=.lookup T m k ok):
 eG C S ρ σ hv Φ dst a w o r:=by
 unfold A2 at hr;split at hr
 case h_2=>cases hr
 rename_i K E hT;simp only[aq] at hr;obtain⟨p,hp,q,hq,hr⟩:=hr;have aT:=Vq h hC hg hp;have dF:=cr h hC hg hq;split at hr
 case h_2=>cases hr
 rename_i kt et e1;rw[e1] at aT;split at hr
 case h_2=>cases hr
 rename_i z inf hz ou;cases hc:(Ty.beq q.1 kt&&uT C.P K kt&&Ty.sub z.1 et&&tR inf et)<;>simp only[hc,cond_true,cond_false] at hr
 ·cases hr
 simp only[ao] at hc;obtain⟨⟨⟨I7,DW⟩,bS⟩,hzero⟩:=hc;rw[Ty.beq_eq _ _ I7] at dF;obtain⟨v0,sY,Ev⟩:∃v0,inf.zero=some v0∧Rep C.cap σ et v0 z.2:=by
  unfold tR at hzero;split at hzero
  ·rename_i v0 e0;exact⟨v0,e0,(yk hz hzero).1.sub bS⟩
  ·cases hzero
 have als:∃(arr:Array MapEntry) (ds:List (D×D)),(p.2.ev ρ).m=ds∧ds.length=arr.size∧
  (∀(j:Nat) (e:MapEntry) (p:D×D),arr[j]?=some e→ds[j]?=some p→Rep C.cap σ kt e.key p.1∧Rep C.cap σ et e.val p.2)∧
  ((a.eval m=.map none∧arr=#[])∨∃g clock,a.eval m=.map (some g)∧w.heap[g]?=some (.map arr clock)):=by
  rcases aT with aT|⟨T',e,cells,xs,ht,_⟩|⟨g,arr,clock,es,kt',et',ht,Zs,hb,hd,hl,hx,aO⟩
  ·generalize w8:a.eval m=v at aT;generalize DJ:p.2.ev ρ=d at aT;cases aT with
   |mapnil=>exact⟨#[],[],by simp[D.m],rfl,by simp,.inl ⟨rfl,rfl⟩⟩
   |map kt et r gC es hm hl hx hk he=>
    obtain⟨arr,clock,hb,jy⟩:=(h.ok.m _ _ hm).mp (EL hl hk) (aaI hl hk);have hn:es.length=arr.size:=by rw[hl,←jy];simp[entriesOf]
    refine⟨arr,es,by simp[D.m],hn,fun j e p hj hp=>?_,.inr ⟨r,clock,rfl,hb⟩⟩;have:gC[j]?=some (e.key,e.val):=by rw[←jy];simp[entriesOf,hj]
    exact⟨hk j _ p this hp,he j _ p this hp⟩
  ·cases ht
  ·cases ht;exact⟨arr,es,by rw[hd];rfl,hl,aO,.inr ⟨g,clock,Zs,hb⟩⟩
 obtain⟨arr,ds,hd,hl,aO,cn⟩:=als;have ml:∀b,(Instr.checkKey b 10000 K (a.eval k)).run C.P w=.ok () w:=fun b=>WO (cap:=C.cap) (σ:=σ) DW dF;have Ow:∃u b x,(Instr.lookup T (a.eval m) (a.eval k) ok).run C.P w=.ok (if ok then .tuple #[u,.bool b] else u) w∧(mB (q.2.ev ρ) (p.2.ev ρ).m).getD z.2=x∧(mB (q.2.ev ρ) (p.2.ev ρ).m).isSome=b∧Rep C.cap σ et u x:=by
  rw[hd];rcases run_findKey DW dF arr ds hl aO w with⟨h1,h2,_⟩|⟨j,e,x,h1,h2,h3,h4,_,_⟩
  ·refine⟨v0,false,z.2,?_,by rw[h2];rfl,by rw[h2];rfl,Ev⟩;rcases cn with⟨em,rfl⟩|⟨g,clock,em,hb⟩
   ·simp only[List.toList_toArray] at h1;cases ok<;>simp[Instr.lookup,run_underlying hT,em,ml,h1,zeroValue,run_typeInfo w ou,sY]
   ·cases ok<;>simp[Instr.lookup,run_underlying hT,em,getObj,Sem.run,hb,ml,h1,zeroValue,run_typeInfo w ou,sY]
  ·refine⟨e.val,true,x.2,?_,by rw[h4];rfl,by rw[h4];rfl,(aO j e x h1 h2).2⟩;rcases cn with⟨em,rfl⟩|⟨g,clock,em,hb⟩
   ·simp at h1
   ·cases ok<;>simp[Instr.lookup,run_underlying hT,em,getObj,Sem.run,hb,ml,h3]
 obtain⟨u,b,x,ah,oD,Pr,bL⟩:=Ow;cases ok with
 |true=>
  simp only[cond_true] at hr;cases hr;refine .dat (v:=.tuple #[u,.bool b]) (by simp[execOp,ho,ah]) ?_;simp only[PE.ev,PE.evs,oD,Pr];refine .tup [et,.bool] [u,.bool b] [x,.v (.bool b)] rfl rfl (fun i t hi=>?_)
  match i,hi with
  |0,hi=>simp at hi;subst hi;exact bL
  |1,hi=>simp at hi;subst hi;exact .bool b
  |i+2,hi=>simp at hi
 |false=>
  simp only[cond_false] at hr;cases hr;refine .dat (v:=u) (by simp[execOp,ho,ah]) ?_;simp only[PE.ev,oD];exact bL
end
end Cx
namespace Cx
open Go Go.RowKit
theorem XJ (off:Nat):∀(l:List Value) (s:Nat) (cells:Array Value),off+s+l.length≤cells.size→
 ((l.zipIdx s).foldl (fun cs (x:Value×Nat)=>cs.setIfInBounds (off+x.2) x.1) cells).size=cells.size∧
 ∀p,((l.zipIdx s).foldl (fun cs (x:Value×Nat)=>cs.setIfInBounds (off+x.2) x.1) cells)[p]?=if off+s≤p∧p<off+s+l.length then l[p-(off+s)]? else cells[p]?
 |[],s,cells,_=>by
  refine⟨rfl,fun p=>?_⟩;have:¬(off+s≤p∧p<off+s+0):=by omega
  simp only[List.zipIdx_nil,List.foldl_nil,yx];rw[if_neg this]
 |v::l,s,cells,h=>by
  simp only[nL] at h;obtain⟨h1,h2⟩:=XJ off l (s+1) (cells.setIfInBounds (off+s) v) (by simp;omega);simp only[List.zipIdx_cons,GJ];refine⟨by rw[h1];simp,fun p=>?_⟩;rw[h2 p];by_cases hp:p=off+s
  ·subst hp;have c1:¬(off+(s+1)≤off+s∧off+s<off+(s+1)+l.length):=by omega
   have c2:off+s≤off+s∧off+s<off+s+(v::l).length:=by simp
   rw[if_neg c1,if_pos c2,vG,if_pos rfl,if_pos (by omega)];simp
  ·by_cases hc:off+(s+1)≤p∧p<off+(s+1)+l.length
   ·have c2:off+s≤p∧p<off+s+(v::l).length:=by simp only[nL];omega
    rw[if_pos hc,if_pos c2];rw[show p-(off+s)=(p-(off+(s+1)))+1 by omega];simp
   ·have c2:¬(off+s≤p∧p<off+s+(v::l).length):=by simp only[nL];omega
    rw[if_neg hc,if_neg c2,vG];rw[if_neg (by omega)]
theorem Nw (place:Nat→Option (Nat×Nat)):∀(parts:List (Nat×Value)) (cells:Array Value),
 (∀p,p∈parts→∃o,place p.1=some (o,p.2.cells.size)∧o+p.2.cells.size≤cells.size)→
 (∀i j oi si oj sj,i≠j→place i=some (oi,si)→place j=some (oj,sj)→oi+si≤oj∨oj+sj≤oi)→(parts.map (·.1)).Nodup→
 ∃dj,Instr.fill place cells parts=some dj∧dj.size=cells.size∧
  (∀i v o,(i,v)∈parts→place i=some (o,v.cells.size)→∀m,m<v.cells.size→dj[o+m]?=v.cells[m]?)∧
  (∀i o s,i∉parts.map (·.1)→place i=some (o,s)→∀m,m<s→dj[o+m]?=cells[o+m]?)
 |[],cells,_,_,_=>⟨cells,rfl,rfl,by simp,fun _ _ _ _ _ _ _=>rfl⟩
 |(i,v)::parts,cells,h,Ai,bn=>by
  obtain⟨o,hp,hle⟩:=h (i,v) (dB ..);simp only at hp hle;obtain⟨g1,g2⟩:=XJ o v.cells.toList 0 cells (by simp;omega);simp only[gk,mU] at bn
  have hz:v.cells.zipIdx.foldl (fun cs (x:Value×Nat)=>cs.setIfInBounds (o+x.2) x.1) cells=(v.cells.toList.zipIdx 0).foldl (fun cs (x:Value×Nat)=>cs.setIfInBounds (o+x.2) x.1) cells:=by
    rw[←Array.foldl_toList];simp
  generalize Yh:(v.cells.toList.zipIdx 0).foldl (fun cs (x:Value×Nat)=>cs.setIfInBounds (o+x.2) x.1) cells=c1 at g1 g2 hz
  obtain⟨dj,k1,k2,k3,k4⟩:=Nw place parts c1 (fun p hm=>by
    obtain⟨o',h1,h2⟩:=h p (dy _ hm);exact⟨o',h1,by rw[g1];exact h2⟩) Ai bn.2
  refine⟨dj,?_,k2.trans g1,?_,?_⟩
  ·simp only[Instr.fill,hp];have:¬((v.cells.size≠v.cells.size||decide (o+v.cells.size>cells.size))=true):=by simp;omega
   rw[if_neg this];rw[←k1,←hz]
  ·intro j u o' hm Av m af;rcases cT.1 hm with e|dE
   ·cases e;rw[hp] at Av;cases Av;rw[k4 i o v.cells.size bn.1 hp m af,g2];rw[if_pos (by simp;omega)];simp
   ·exact k3 j u o' dE Av m af
  ·intro j o' s' rl Av m af;simp only[gk,cT,not_or] at rl;rw[k4 j o' s' rl.2 Av m af,g2];have:=Ai i j o v.cells.size o' s' (fun e=>rl.1 e.symm) hp Av;rw[if_neg (by simp;omega)]
section
variable {C:Ctx} {S:St} {ρ:Env} {σ:Im} {own:Nat→Option Nat} {hv:Nat→Value} {w0:World} {σ0:Base} {A:Nat→Prop} {a:Act} {w:World} {gs:List (Nat×Bool)} {Φ:aL} {dst:Nat}
theorem Rep.flat {cap:Nat→Option CSig}{t:Ty}{v:Value}{d:D}(h:Rep cap σ t v d)(ht:t.rowT=true∨t.one=true):
 t.flat.length=t.size∧d.cells.length=t.size∧∀(m:Nat) (tm:Ty),t.flat[m]?=some tm→tm.one=true∧Rep cap σ tm (v.cells.getD m undef) (d.cells.getD m .none):=by
 cases h with
 |agg ts vs ds h1 h2 h ho=>
  refine⟨rfl,by simp[D.cells,Ty.size,h2],fun m tm hm=>⟨ho m tm hm,?_⟩⟩;have:=h m tm hm;simpa [Value.cells,D.cells,dV,aJ] using this
 |tup ts vs ds h1 h2 h=>simp[Ty.rowT,Ty.one] at ht
 |_=>
  refine⟨rfl,rfl,fun m tm hm=>?_⟩
  match m,hm with
  |0,hm=>
   simp only[Ty.flat,LZ,aS] at hm;subst hm;refine⟨rfl,?_⟩;simp only[Value.cells,D.cells,nJ];constructor<;>assumption
  |m+1,hm=>simp[Ty.flat] at hm
theorem lL:∀{l:List Nat},gM l=true→l.Nodup
 |[],_=>List.nodup_nil
 |a::r,h=>by
  simp only[gM,ao,iU] at h;refine mU.2 ⟨fun hm=>?_,lL h.2⟩;have:=List.any_eq_false.1 h.1 a hm;simp at this
def Laid (P:Program):List Field→Nat→Prop
 |[],_=>True
 |f::fs,off=>f.offset=off∧∃inf,P.info? f.type=some inf∧Laid P fs (off+inf.size)
theorem Laid.get {P:Program}:∀{fs:List Field} {off:Nat},Laid P fs off→∀(i:Nat) (f:Field),fs[i]?=some f→∃inf,P.info? f.type=some inf∧off≤f.offset∧
 ∀(j:Nat) (g:Field),i<j→fs[j]?=some g→f.offset+inf.size≤g.offset
 |[],_,_,i,f,hi=>by simp at hi
 |f0::fs,off,h,i,f,hi=>by
  obtain⟨h1,inf,h2,h3⟩:=h;cases i with
  |zero=>
   simp at hi;subst hi;refine⟨inf,h2,by omega,fun j g hj hg=>?_⟩;cases j with
   |zero=>omega
   |succ j=>obtain⟨_,_,h4,_⟩:=h3.get j g (by simpa using hg);omega
  |succ i=>
   simp at hi;obtain⟨anD,k1,k2,k3⟩:=h3.get i f hi;refine⟨anD,k1,by omega,fun j g hj hg=>?_⟩;cases j with
   |zero=>omega
   |succ j=>exact k3 j g (by omega) (by simpa using hg)
theorem acq {ft:Ty}{x:Operand}{y:List AgC×PE}(h:tq C S gs ft x=some y):y.1.length=ft.size:=by
 have NF:∀t:Ty,t.flat.length=t.size:=fun t=>by cases t<;>simp[Ty.flat,Ty.size]
 unfold tq at h;split at h
 ·rename_i a _;cases hs:(Ty.sub a.1 ft&&(a.1.rowT||a.1.one))<;>simp only[hs,cond_true,cond_false] at h
  ·cases h
  cases h;simp only[ao] at hs;rw[eN,NF,(Ty.sub_one _ _ hs.1).2]
 ·split at h
  ·rename_i j ver _;cases hb:(Nat.beq ver (S.ver j)&&PA (S.o j)&&Nat.beq ft.size 1)<;>simp only[hb,cond_true,cond_false] at h
   ·cases h
   cases h;simp only[ao] at hb;exact(ay hb.2).symm
  ·cases h
theorem acr (h:Inv C S ρ σ own hv w0 σ0 A a w)(hC:CtxOK C σ0)(hg:holds gs ρ=true){ft:Ty}{x:Operand}{y:List AgC×PE}(hy:tq C S gs ft x=some y):
 (a.eval x).cells.size=ft.size∧(y.2.ev ρ).cells.length=ft.size∧∀(m:Nat) (c:AgC),y.1[m]?=some c→mS C S σ hv c ((a.eval x).cells.getD m undef) ((y.2.ev ρ).cells.getD m .none):=by
 unfold tq at hy;split at hy
 ·rename_i q hq;cases hs:(Ty.sub q.1 ft&&(q.1.rowT||q.1.one))<;>simp only[hs,cond_true,cond_false] at hy
  ·cases hy
  cases hy;simp only[ao,gg] at hs;have hr:=cr h hC hg hq;obtain⟨f1,f2,f3⟩:=hr.flat hs.2;have e:=(Ty.sub_one _ _ hs.1).2;refine⟨by rw[hr.size,e],by rw[f2,e],fun m c hm=>?_⟩;simp only[ct,az] at hm;obtain⟨t,ht,rfl⟩:=hm;exact f3 m t ht
 ·split at hy
  ·rename_i j ver fV;cases hb:(Nat.beq ver (S.ver j)&&PA (S.o j)&&Nat.beq ft.size 1)<;>simp only[hb,cond_true,cond_false] at hy
   ·cases hy
   cases hy;simp only[ao] at hb;obtain⟨⟨ec,cf⟩,Ad⟩:=hb;have dz:=ay ec;have aE:=ay Ad;have dR:aH C S ρ σ hv (fa S gs x) (a.eval x) ((qB x).ev ρ):=by
        cases x with
        |tmp t=>exact(mK h hg t).1
        |_=>cases fV
   rw[fV] at dR;have aQ:=dR.2 dz;have aX:=h.objs j;have hc:(a.eval x).cells=#[a.eval x]:=by
        rw[aQ];cases ho:S.o j with
        |row T e=>
         rw[ho] at aX;obtain⟨cells,xs,_,h2,_⟩:=aX;rcases h2.2 with⟨e1,_⟩|⟨g,cap,cur,e1,_⟩<;>rw[e1]<;>rfl
        |_=>rw[ho] at cf;cases cf
   refine⟨by rw[hc,aE];rfl,by rw[aE];rfl,fun m c hm=>?_⟩;cases m with
   |zero=>
    simp at hm;subst hm;rw[hc];exact dR
   |succ m=>simp at hm
  ·cases hy
theorem agY {zs:List Value}{parts:List (Nat×Operand)}:∀(fs:List Field) (i off:Nat) (r:List AgC×List PE),kN C S gs zs parts fs i off=some r→Laid C.P fs off:=by
 intro fs
 induction fs with
 |nil=>intro i off r _;trivial
 |cons f fs ih=>
  intro i off r h;simp only[kN] at h;split at h
  case h_2=>cases h
  rename_i inf ft hi ht;cases hc:(Nat.beq f.offset off&&Nat.beq inf.size ft.size)<;>simp only[hc,cond_true,cond_false] at h
  ·cases h
  simp only[ao] at hc;simp only[aq] at h;obtain⟨q,hq,_⟩:=h;exact⟨ay hc.1,inf,hi,ih _ _ _ hq⟩
theorem WB {zs:List Value}{parts:List (Nat×Operand)}:∀(fs:List Field) (i off:Nat) (r:List AgC×List PE),kN C S gs zs parts fs i off=some r→off≤zs.length:=by
 intro fs
 induction fs with
 |nil=>intro i off r h;simp only[kN] at h;cases hb:Nat.beq off zs.length<;>simp[hb] at h;exact Nat.le_of_eq (ay hb)
 |cons f fs ih=>
  intro i off r h;simp only[kN] at h;split at h
  case h_2=>cases h
  rename_i inf ft hi ht;cases hc:(Nat.beq f.offset off&&Nat.beq inf.size ft.size)<;>simp only[hc,cond_true,cond_false] at h
  ·cases h
  simp only[aq] at h;obtain⟨q,hq,_⟩:=h;have:=ih _ _ _ hq;omega
theorem agX {zs:List Value}{parts:List (Nat×Operand)}:∀(fs:List Field) (i off:Nat) (r:List AgC×List PE),kN C S gs zs parts fs i off=some r→
 ∃ft:List AgC×List PE,r=ft∧(∀(m:Nat) (f:Field) (inf:TypeInfo),fs[m]?=some f→C.P.info? f.type=some inf→f.offset+inf.size≤zs.length)∧(∀(m:Nat) (x:Nat×Operand) (f:Field) (inf:TypeInfo),fs[m]?=some f→C.P.info? f.type=some inf→parts.find? (fun p=>Nat.beq p.1 (i+m))=some x→∃y ft,tq C S gs ft x.2=some y∧ft.size=inf.size)∧off+r.1.length=zs.length:=by
 intro fs
 induction fs with
 |nil=>intro i off r h;simp only[kN] at h;cases hb:Nat.beq off zs.length<;>simp[hb] at h;subst h;exact⟨_,rfl,by simp,by simp,by simpa using ay hb⟩
 |cons f fs ih=>
  intro i off r h;simp only[kN] at h;split at h
  case h_2=>cases h
  rename_i inf ft hi ht;cases hc:(Nat.beq f.offset off&&Nat.beq inf.size ft.size)<;>simp only[hc,cond_true,cond_false] at h
  ·cases h
  simp only[ao] at hc;have jA:=ay hc.1;have aE:=ay hc.2;simp only[aq] at h;obtain⟨q,hq,h⟩:=h;have hle:=WB _ _ _ _ hq;obtain⟨_,rfl,k1,k2,k3⟩:=ih _ _ _ hq;have e1:∀(m:Nat) (g:Field) (ig:TypeInfo),(f::fs)[m]?=some g→C.P.info? g.type=some ig→g.offset+ig.size≤zs.length:=by
   intro m g ig hm gq;cases m with
   |zero=>simp at hm;subst hm;rw[hi] at gq;cases gq;omega
   |succ m=>exact k1 m g ig (by simpa using hm) gq
  have NF:∀t:Ty,t.flat.length=t.size:=fun t=>by cases t<;>simp[Ty.flat,Ty.size]
  split at h
  ·rename_i x hx;simp only[az] at h;obtain⟨y,hy,rfl⟩:=h;refine⟨_,rfl,e1,fun m x' g ig hm gq hf=>?_,?_⟩
   ·cases m with
    |zero=>
     simp at hm;subst hm;rw[hi] at gq;cases gq;simp only[iW] at hf;rw[hx] at hf;cases hf;exact⟨y,ft,hy,aE.symm⟩
    |succ m=>exact k2 m x' g ig (by simpa using hm) gq (by rwa [show i+(m+1)=i+1+m by omega] at hf)
   ·have:=acq hy;simp only[kL];omega
  ·rename_i hx;cases mw:jL ft (rowOf ft.rowT ((zs.drop off).take inf.size))<;>simp only[mw,cond_true,cond_false] at h
   ·cases h
   simp only[az] at h;obtain⟨z,hz,rfl⟩:=h;have cm:=(yk (cap:=C.cap) (σ:=⟨fun _ _=>none,fun _=>none⟩) hz mw).2.1;refine⟨_,rfl,e1,fun m x' g ig hm gq hf=>?_,?_⟩
   ·cases m with
    |zero=>simp only[iW] at hf;rw[hx] at hf;cases hf
    |succ m=>exact k2 m x' g ig (by simpa using hm) gq (by rwa [show i+(m+1)=i+1+m by omega] at hf)
   ·have:=(Ty.sub_one _ _ cm).2;simp only[kL,eN,NF];omega
theorem agZ (h:Inv C S ρ σ own hv w0 σ0 A a w)(hC:CtxOK C σ0)(hg:holds gs ρ=true){zs:List Value}{parts:List (Nat×Operand)}(cells:Array Value):
 ∀(fs:List Field) (i off:Nat) (r:List AgC×List PE),kN C S gs zs parts fs i off=some r→
  (∀(m:Nat) (f:Field) (inf:TypeInfo),fs[m]?=some f→C.P.info? f.type=some inf→
        (∀x,parts.find? (fun p=>Nat.beq p.1 (i+m))=some x→∀q,q<inf.size→cells[f.offset+q]?=(a.eval x.2).cells[q]?)∧
        (parts.find? (fun p=>Nat.beq p.1 (i+m))=none→∀q,q<inf.size→cells[f.offset+q]?=zs[f.offset+q]?))→
  (PE.evc ρ r.2).length=r.1.length∧∀(m:Nat) (c:AgC),r.1[m]?=some c→mS C S σ hv c (cells.getD (off+m) undef) ((PE.evc ρ r.2).getD m .none):=by
 intro fs
 induction fs with
 |nil=>intro i off r hr _;simp only[kN] at hr;cases hb:Nat.beq off zs.length<;>simp[hb] at hr;subst hr;simp[PE.evc]
 |cons f fs ih=>
  intro i off r hr aO;simp only[kN] at hr;split at hr
  case h_2=>cases hr
  rename_i inf ft hi ht;cases hc:(Nat.beq f.offset off&&Nat.beq inf.size ft.size)<;>simp only[hc,cond_true,cond_false] at hr
  ·cases hr
  simp only[ao] at hc;have jA:=ay hc.1;have aE:=ay hc.2;simp only[aq] at hr;obtain⟨q,hq,hr⟩:=hr
  obtain⟨l1,uK⟩:=ih (i+1) (off+inf.size) q hq (fun m g anE hm gq=>by
   have:=aO (m+1) g anE (by simpa using hm) gq
   rwa [show i+(m+1)=i+1+m by omega] at this)
  obtain⟨hp,hn⟩:=aO 0 f inf rfl hi;have join:∀(l:List AgC) (v:Value) (d:D) (pe:PE),pe.ev ρ=d→l.length=inf.size→d.cells.length=inf.size→(∀m c,l[m]?=some c→mS C S σ hv c (v.cells.getD m undef) (d.cells.getD m .none))→(∀m,m<inf.size→cells[f.offset+m]?=v.cells[m]?)→
        (PE.evc ρ (pe::q.2)).length=(l++q.1).length∧∀(m:Nat) (c:AgC),(l++q.1)[m]?=some c→mS C S σ hv c (cells.getD (off+m) undef) ((PE.evc ρ (pe::q.2)).getD m .none):=by
   intro l v d pe uH f1 f2 f3 aY;simp only[PE.evc,uH];refine⟨by simp[f1,f2,l1],fun m t' hm=>?_⟩;rw[l7] at hm;split at hm
   ·rename_i af;have g2:=f3 m t' hm;have e1:cells.getD (off+m) undef=v.cells.getD m undef:=by
     rw[dV,dV,←jA,aY m (by omega)]
    have e2:(d.cells++PE.evc ρ q.2).getD m .none=d.cells.getD m .none:=by
     rw[aJ,aJ,j6 (by omega)]
    rw[e1,e2];exact g2
   ·rename_i fA;have g2:=uK _ t' hm;have e1:off+inf.size+(m-l.length)=off+m:=by omega
    have e2:(d.cells++PE.evc ρ q.2).getD m .none=(PE.evc ρ q.2).getD (m-l.length) .none:=by
     rw[aJ,aJ,lC (by omega)];rw[f1,←f2]
    rw[e1] at g2;rw[e2];exact g2
  simp only[iW] at hp hn;split at hr
  ·rename_i x hx;simp only[az] at hr;obtain⟨y,hy,rfl⟩:=hr;obtain⟨g1,g2,g3⟩:=acr h hC hg hy;exact join y.1 (a.eval x.2) (y.2.ev ρ) y.2 rfl (by rw[acq hy,aE]) (by rw[g2,aE]) g3 (hp x hx)
  ·rename_i hx;cases mw:jL ft (rowOf ft.rowT ((zs.drop off).take inf.size))<;>simp only[mw,cond_true,cond_false] at hr
   ·cases hr
   simp only[az] at hr;obtain⟨z,hz,rfl⟩:=hr;obtain⟨k1,k2,k3⟩:=yk (cap:=C.cap) (σ:=σ) hz mw;have Jb:(rowOf ft.rowT ((zs.drop off).take inf.size)).cells.size=inf.size:=by rw[k1.size,(Ty.sub_one _ _ k2).2,aE]
   have iK:z.1.rowT=true∨z.1.one=true:=by
        cases ft<;>simp[pk,qG] at hz<;>first|(subst hz;simp[Ty.one])|(obtain⟨_,_,rfl⟩:=hz;simp[Ty.rowT])
   obtain⟨z1,z2,z3⟩:=k1.flat iK;have ez:z.1.size=inf.size:=by rw[(Ty.sub_one _ _ k2).2,aE]
   refine join (z.1.flat.map .dat) (rowOf ft.rowT ((zs.drop off).take inf.size)) z.2 (.con z.2) rfl (by rw[eN,z1,ez]) (by rw[z2,ez]) (fun m c hm=>?_) (fun m hm=>?_)
   ·simp only[ct,az] at hm;obtain⟨t,ht,rfl⟩:=hm;exact z3 m t ht
   ·rw[hn hx m hm,jA];cases uL:ft.rowT with
    |true=>simp[rowOf,Value.cells,fM,gj,hm]
    |false=>
     rw[uL] at Jb k1;have h1:(z.1).rowT=false:=by
       have:=(Ty.sub_one _ _ k2)
       cases ft<;>simp[Ty.rowT] at uL<;>simp[pk,qG] at hz<;>subst hz<;>rfl
     rw[k1.cells1 h1] at Jb ⊢;simp at Jb;have hm0:m=0:=by omega
     subst hm0;have:∃u,zs[off]?=some u:=⟨_,bA (show off<zs.length by have:=WB _ _ _ _ hq;omega)⟩
     simp[rowOf,aJ,fM,gj,←Jb];obtain⟨u,hu⟩:=this;simp[hu]
theorem ZY {P:Program}:∀(fs:List Field) (off:Nat),Laid P fs off→
 ∃l:List (Nat×Nat),fs.mapM (fun f=>(P.info? f.type).map fun i=>(f.offset,i.size))=some l∧l.length=fs.length∧
  ∀(i:Nat) (f:Field) (inf:TypeInfo),fs[i]?=some f→P.info? f.type=some inf→l[i]?=some (f.offset,inf.size)
 |[],_,_=>⟨[],rfl,rfl,by simp⟩
 |f::fs,off,h=>by
  obtain⟨h1,inf,h2,h3⟩:=h;obtain⟨l,k1,k2,k3⟩:=ZY fs _ h3;refine⟨(f.offset,inf.size)::l,?_,by simp[k2],fun i g ig hi gq=>?_⟩
  ·simp[VV,h2,k1]
  ·cases i with
   |zero=>simp at hi;subst hi;rw[h2] at gq;cases gq;rfl
   |succ i=>simp at hi;simpa using k3 i g ig hi gq
theorem Xz {parts:List (Nat×Operand)}(bn:(parts.map (·.1)).Nodup){i:Nat}{x:Operand}(h:(i,x)∈parts):parts.find? (fun p=>Nat.beq p.1 i)=some (i,x):=by
 induction parts with
 |nil=>cases h
 |cons p ps ih=>
  simp only[gk,mU] at bn;rcases cT.1 h with e|hm
  ·subst e;simp
  ·have:¬p.1=i:=fun e=>bn.1 (e▸List.mem_map_of_mem (f:=(·.1)) hm);rw[List.find?_cons_of_neg (by simpa using this)];exact ih bn.2 hm
theorem apP (h:Inv C S ρ σ own hv w0 σ0 A a w)(hC:CtxOK C σ0)(hg:holds gs ρ=true){T:TypeId}{ps:Array (Nat×Operand)}{r:Sh×List PI}(hr:AU C S gs dst T ps.toList=some r){o:Oper}(ho:o.op=.build T ps):
 eG C S ρ σ hv Φ dst a w o r:=by
 unfold AU at hr;split at hr
 case h_3=>cases hr
 case h_2=>
  rename_i n e inf hT ou;split at hr
  case h_2=>cases hr
  rename_i zs ie hz hie;split at hr
  case h_2=>cases hr
  rename_i x y sV;simp only[aq] at hr;obtain⟨p,hp,q,hq,hr⟩:=hr;split at hr
  case h_2=>cases hr
  rename_i k k' hk bm;cases hc:(Nat.beq n 2&&Nat.beq zs.size 2&&Nat.beq ie.size 1)<;>simp only[hc,cond_true,cond_false] at hr
  ·cases hr
  cases hr;simp only[ao] at hc;obtain⟨⟨c1,c2⟩,c3⟩:=hc;have c1:=ay c1;have c2:=ay c2;have c3:=ay c3;subst c1;have hx:=cr h hC hg hp;have hy:=cr h hC hg hq;rw[hk] at hx;rw[bm] at hy;obtain⟨a1,Nn,ea2,_⟩:=hx.int_inv;obtain⟨b1,No,eb2,_⟩:=hy.int_inv;have amC:ps=#[(0,x),(1,y)]:=by rw[←tS];exact sV
  obtain⟨z0,z1,rfl⟩:∃z0 z1,zs=#[z0,z1]:=by
   match zs,c2 with
   |⟨[z0,z1]⟩,_=>exact⟨z0,z1,rfl⟩
  have N5:C.P.built T [(0,a.eval x),(1,a.eval y)]=some #[a.eval x,a.eval y]:=by
   rw[Nn,No];simp only[Program.built,ou,hT,hz,hie,c3];simp[Instr.fill,Value.cells]
  have ah:(execOp a.eval o).run C.P w=.ok (.value (.agg #[a.eval x,a.eval y])) w:=by
   have:=run_build (P:=C.P) w T (ps.map fun(x:Nat×Operand)=>(x.1,a.eval x.2)) #[a.eval x,a.eval y] (by rw[amC];simpa using N5);simp[execOp,ho,this]
  refine .dat ah ?_;have e1:(PE.mk [p.2,q.2]).ev ρ=.agg [p.2.ev ρ,q.2.ev ρ]:=by simp[PE.ev,PE.evc,ea2,eb2,D.cells]
  rw[e1];refine .agg _ [a.eval x,a.eval y] _ rfl rfl (fun i t hi=>?_) (fun i t hi=>?_)
  ·match i,hi with
   |0,hi=>simp at hi;subst hi;rw[hk];simpa using hx
   |1,hi=>simp at hi;subst hi;rw[bm];simpa using hy
   |i+2,hi=>simp at hi
  ·match i,hi with
   |0,hi=>simp at hi;subst hi;rw[hk];rfl
   |1,hi=>simp at hi;subst hi;rw[bm];rfl
   |i+2,hi=>simp at hi
 rename_i fs inf hT ou;split at hr
 case h_2=>cases hr
 rename_i zs hz;cases hc:(gM (ps.toList.map (·.1))&&ps.toList.all (fun p=>Nat.blt p.1 fs.size))<;>simp only[hc,cond_true,cond_false] at hr
 ·cases hr
 simp only[ao] at hc;obtain⟨bn,af⟩:=hc;simp only[az] at hr;obtain⟨q,hq,rfl⟩:=hr;have I9:=agY _ _ _ _ hq;have jU:=lL bn;obtain⟨_,rfl,bt,ank,Og⟩:=agX _ _ _ _ hq;obtain⟨pl,fC,aAg,Eg⟩:=ZY _ _ I9
 have jW:∀p,p∈(ps.toList.map fun(x:Nat×Operand)=>(x.1,a.eval x.2))→∃o,pl.toArray[p.1]?=some (o,p.2.cells.size)∧o+p.2.cells.size≤zs.size:=by
  intro p hp;obtain⟨x,hx,rfl⟩:=ei.1 hp;have xc:x.1<fs.toList.length:=by
   have:=bF.1 af x hx;have h2:x.1<fs.size:=by simpa [iX] using this
   simpa using h2
  obtain⟨f,hf⟩:∃f,fs.toList[x.1]?=some f:=⟨_,bA xc⟩
  obtain⟨ig,gq,_,_⟩:=I9.get _ _ hf;have DP:=Xz jU (i:=x.1) (x:=x.2) hx;obtain⟨y,ft,hy,aE⟩:=ank x.1 (x.1,x.2) f ig hf gq (by simpa using DP);have uM:=(acr h hC hg hy).1;rw[aE] at uM;simp only;refine⟨f.offset,?_,?_⟩
  ·rw[uM];simpa using Eg x.1 f ig hf gq
  ·rw[uM];simpa using bt x.1 f ig hf gq
 have Ai:∀(i j oi si oj sj:Nat),i≠j→pl.toArray[i]?=some (oi,si)→pl.toArray[j]?=some (oj,sj)→oi+si≤oj∨oj+sj≤oi:=by
  intro i j oi si oj sj aw hi hj;simp only[GL] at hi hj;obtain⟨f,hf⟩:∃f,fs.toList[i]?=some f:=⟨_,bA (by have:=(fm.1 hi).1;omega)⟩
  obtain⟨g,An⟩:∃g,fs.toList[j]?=some g:=⟨_,bA (by have:=(fm.1 hj).1;omega)⟩
  obtain⟨ig,gq,_,al4⟩:=I9.get _ _ hf;obtain⟨jg,hjg,_,al5⟩:=I9.get _ _ An;rw[Eg i f ig hf gq] at hi;rw[Eg j g jg An hjg] at hj;cases hi;cases hj;rcases L5 i j with af|fA
  ·exact .inl (al4 j g af An)
  ·exact .inr (al5 i f (by omega) hf)
 obtain⟨dj,f1,f2,f3,f4⟩:=Nw (pl.toArray[·]?) (ps.toList.map fun(x:Nat×Operand)=>(x.1,a.eval x.2)) zs jW Ai (by simpa [GF] using jU)
 have N5:C.P.built T (ps.toList.map fun(x:Nat×Operand)=>(x.1,a.eval x.2))=some dj:=by
  simp only[Program.built,ou,hT,hz,fC];exact f1
 have ah:(execOp a.eval o).run C.P w=.ok (.value (.agg dj)) w:=by
  have:=run_build (P:=C.P) w T (ps.map fun(x:Nat×Operand)=>(x.1,a.eval x.2)) dj (by rw[vH];exact N5);simp[execOp,ho,this]
 have wG:∀(m:Nat) (f:Field) (ig:TypeInfo),fs.toList[m]?=some f→C.P.info? f.type=some ig→
  (∀x,ps.toList.find? (fun p=>Nat.beq p.1 (0+m))=some x→∀q,q<ig.size→dj[f.offset+q]?=(a.eval x.2).cells[q]?)∧
  (ps.toList.find? (fun p=>Nat.beq p.1 (0+m))=none→∀q,q<ig.size→dj[f.offset+q]?=zs.toList[f.offset+q]?):=by
  intro m f ig hm gq;refine⟨fun x hx p hp=>?_,fun hx p hp=>?_⟩
  ·have oD:x.1=m:=by have:=LY hx;simpa using this
   have AE:(x.1,a.eval x.2)∈(ps.toList.map fun(x:Nat×Operand)=>(x.1,a.eval x.2)):=ei.2 ⟨x,vP hx,rfl⟩;obtain⟨o',eA,hle⟩:=jW _ AE;simp only at eA hle;have Za:=Eg m f ig hm gq;simp only[GL,oD] at eA;rw[Za] at eA;simp only[aS,nO] at eA;obtain⟨e1,e2⟩:=eA;exact f3 x.1 (a.eval x.2) f.offset AE (by simp[oD,Za,←e2]) p (by omega)
  ·have rl:m∉(ps.toList.map fun(x:Nat×Operand)=>(x.1,a.eval x.2)).map (·.1):=by
        intro dg;simp only[GN,ei,GF] at dg;obtain⟨x,AE,e⟩:=dg;have:=vN.1 hx x AE;simp[e] at this
   rw[f4 m f.offset ig.size rl (by simpa using Eg m f ig hm gq) p hp];simp
 obtain⟨l1,aO⟩:=agZ h hC hg dj _ _ _ _ hq wG;have Ae:dj=dj.toList.toArray:=by simp
 have hlen:dj.toList.length=q.1.length:=by simp[f2] at Og ⊢;omega
 have jb:∀(i:Nat) (c:AgC),q.1[i]?=some c→mS C S σ hv c (dj.toList.getD i undef) ((PE.evc ρ q.2).getD i .none):=fun i c hi=>by
  have:=aO i c hi;simpa [dV,aJ] using this
 cases N9:q.1.all ZJ
 ·simp only[cond_false];exact fun ρ' oB=>⟨_,_,tL oB,ah,⟨dj.toList,PE.evc ρ q.2,by rw[←Ae],by simp only[PE.ev],hlen,l1,jb⟩,fun _ _ e=>by cases e⟩
 ·simp only[cond_true];refine .dat ah ?_;simp only[PE.ev];rw[Ae]
  have p6:∀(i:Nat) (t:Ty),(q.1.map AgC.ty)[i]?=some t→t.one=true∧Rep C.cap σ t (dj.toList.getD i undef) ((PE.evc ρ q.2).getD i .none):=fun i t hi=>by
   simp only[ct,az] at hi;obtain⟨c,hc,rfl⟩:=hi;have h1:=jb i c hc;have h2:=bF.1 N9 c (jM hc);cases c with
   |dat t=>exact h1
   |obj j ver=>cases h2
  exact .agg _ _ _ (by rw[eN];exact hlen) (by rw[eN];exact l1) (fun i t hi=>(p6 i t hi).2) (fun i t hi=>(p6 i t hi).1)
end
end Cx
