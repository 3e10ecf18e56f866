/-
  Shared texts of this claim.
-/
import Derived.Test.YtmnnipoiigfapaaGreatDoorKAA
import Derived.ChangeKeysEq
import Derived.Laws.Tables
set_option linter.unusedSimpArgs false
set_option linter.unusedVariables false
namespace Cx
open Go Go.RowKit
theorem Rep.int_inv {cap:Nat→Option CSig}{σ:Im}{k:IntKind}{v:Value}{d:D}(h:Rep cap σ (.int k) v d):∃n,v=.int k n∧d=.v (.int k n)∧k.min≤n∧n≤k.max:=by
 cases h with
 |int k n h1 h2=>exact⟨n,rfl,rfl,h1,h2⟩
theorem Rep.bool_inv {cap:Nat→Option CSig}{σ:Im}{v:Value}{d:D}(h:Rep cap σ .bool v d):∃b,v=.bool b∧d=.v (.bool b):=by
 cases h with
 |bool b=>exact⟨b,rfl,rfl⟩
theorem Rep.str_inv {cap:Nat→Option CSig}{σ:Im}{v:Value}{d:D}(h:Rep cap σ .str v d):∃s,v=.string s∧d=.v (.string s)∧s.size≤maxLen:=by
 cases h with
 |str s h=>exact⟨s,rfl,rfl,h⟩
theorem Rep.slice_inv {cap:Nat→Option CSig}{σ:Im}{e:Ty}{v:Value}{d:D}(h:Rep cap σ (.slice e) v d):∃xs,d=.list xs∧
 (((∃p,v=.slice p 0 0)∧xs=[])∨∃k o c,v=.slice (some ⟨k,o,none⟩) xs.length c∧xs.length≤c∧c≤maxLen∧
   ∃vs:Nat→Value,(∀(i:Nat) (x:D),xs[i]?=some x→Rep cap σ e.unf (vs i) x)∧∀(i j:Nat) (u:Value),i<xs.length→(vs i).cells[j]?=some u→σ.c k (o+i*e.size+j)=some u):=by
 cases h with
 |nil e=>exact⟨[],rfl,.inl ⟨⟨_,rfl⟩,rfl⟩⟩
 |emp e a=>exact⟨[],rfl,.inl ⟨⟨_,rfl⟩,rfl⟩⟩
 |slice e k o n c xs vs hn hc hm h hv=>subst hn;exact⟨xs,rfl,.inr ⟨k,o,c,rfl,hc,hm,vs,h,hv⟩⟩
theorem Rep.ref_inv {cap:Nat→Option CSig}{σ:Im}{t:Ty}{v:Value}{d:D}(h:Rep cap σ (.ref t) v d):∃k o x y,v=.pointer (some ⟨k,o,none⟩)∧d=.ref y∧Rep cap σ t x y∧∀(j:Nat) (u:Value),x.cells[j]?=some u→σ.c k (o+j)=some u:=by
 cases h with
 |ref t k o x y h hv=>exact⟨k,o,x,y,rfl,rfl,h,hv⟩
theorem Rep.agg_inv {cap:Nat→Option CSig}{σ:Im}{ts:List Ty}{v:Value}{d:D}(h:Rep cap σ (.agg ts) v d):∃(vs:List Value) (ds:List D),v=.agg vs.toArray∧d=.agg ds∧vs.length=ts.length∧ds.length=ts.length∧
 (∀(i:Nat) (t:Ty),ts[i]?=some t→Rep cap σ t (vs.getD i undef) (ds.getD i .none))∧∀(i:Nat) (t:Ty),ts[i]?=some t→t.one=true:=by
 cases h with
 |agg ts vs ds h1 h2 h ho=>exact⟨vs,ds,rfl,rfl,h1,h2,h,ho⟩
theorem Rep.tup_inv {cap:Nat→Option CSig}{σ:Im}{ts:List Ty}{v:Value}{d:D}(h:Rep cap σ (.tup ts) v d):∃(vs:List Value) (ds:List D),v=.tuple vs.toArray∧d=.tup ds∧vs.length=ts.length∧ds.length=ts.length∧
 (∀(i:Nat) (t:Ty),ts[i]?=some t→Rep cap σ t (vs.getD i undef) (ds.getD i .none)):=by
 cases h with
 |tup ts vs ds h1 h2 h=>exact⟨vs,ds,rfl,rfl,h1,h2,h⟩
theorem qX (k:IntKind)(n:Int):k.min≤k.wrap n∧k.wrap n≤k.max:=by
 cases k<;>simp only[IntKind.min,IntKind.max,IntKind.wrap,IntKind.signed,IntKind.bits]<;>simp<;>(try split)<;>omega
theorem abB (k:IntKind){a b:Int}(ha:k.min≤a∧a≤k.max):k.min≤a.tmod b∧a.tmod b≤k.max:=by
 have h1:k.min≤0:=by cases k<;>decide
 have h2:0≤k.max:=by cases k<;>decide
 have hn:(a.tmod b).natAbs≤a.natAbs:=by rw[Int.natAbs_tmod];exact Nat.mod_le _ _
 rcases Int.le_total 0 a with h|h
 ·have:=Int.tmod_nonneg b h;omega
 ·have:a.tmod b≤0:=by
   have:=Int.tmod_nonneg b (a:=-a) (by omega);rw[Int.neg_tmod] at this;omega
  omega
theorem UR (k:IntKind){a:Int}(n:Nat)(ha:k.min≤a∧a≤k.max):k.min≤a.fdiv (2^n)∧a.fdiv (2^n)≤k.max:=by
 have h1:k.min≤0:=by cases k<;>decide
 have h2:0≤k.max:=by cases k<;>decide
 have hp:(0:Int)<2^n:=Int.pow_pos (by decide);rw[ab3 _ (by omega)];rcases Int.le_total 0 a with h|h
 ·have h3:=Int.ediv_nonneg h (by omega:(0:Int)≤2^n);have h4:=Int.ediv_le_self (b:=2^n) h;omega
 ·have h3:a/2^n≤0:=by
   have:=Int.ediv_le_ediv hp h;simpa using this
  have h4:a≤a/2^n:=by
   rw[Int.le_ediv_iff_mul_le hp];have:a*2^n≤a*1:=Int.mul_le_mul_of_nonpos_left h (by omega);omega
  omega
section
variable {C:Ctx} {S:St} {ρ:Env} {σ:Im} {own:Nat→Option Nat} {hv:Nat→Value} {w0:World} {σ0:Base} {A:Nat→Prop} {a:Act} {w:World} {gs:List (Nat×Bool)} {Φ:aP} {dst:Nat}
theorem uH {e:PE}{ρ':Env}(h:PI.runs Φ [.setR dst e] ρ=some ρ'):ρ'=ρ.setR dst (e.ev ρ):=by
 simp[PI.runs,PI.run] at h;exact h.symm
theorem Qv (hg:holds gs ρ=true){c e:PE}{ρ':Env}(h:PI.runs Φ [p6 gs c,.setR dst e] ρ=some ρ'):(c.ev ρ).b=true∧ρ'=ρ.setR dst (e.ev ρ):=by
 simp only[PI.runs,PI.run,p6] at h;cases dF:gs with
 |nil=>
  subst dF;simp only at h;cases hb:(c.ev ρ).b<;>simp[hb] at h;exact⟨rfl,h.symm⟩
 |cons g r=>
  rw[dF] at h;simp only at h;rw[dF] at hg;cases hb:(c.ev ρ).b
  ·simp[PE.ev,hg,hb,D.b_bool] at h
  ·simp[PE.ev,hg,hb,D.b_bool] at h;exact⟨rfl,h.symm⟩
def dX (C:Ctx)(S:St)(ρ:Env)(σ:Im)(hv:Nat→Value)(Φ:aP)(dst:Nat)(a:Act)(w:World)(o:Oper)(r:Sh×List PI):Prop:=
 ∀ρ',PI.runs Φ r.2 ρ=some ρ'→∃v d,ρ'=ρ.setR dst d∧(execOp a.eval o).run C.P w=.ok (.value v) w∧aH C S ρ σ hv r.1 v d∧∀gs s,r.1≠.opt gs s
theorem dX.dat {o:Oper}{t:Ty}{e:PE}{v:Value}(hx:(execOp a.eval o).run C.P w=.ok (.value v) w)(hr:Rep C.cap σ t v (e.ev ρ)):
 dX C S ρ σ hv Φ dst a w o (.dat t,[.setR dst e]):=by
 intro ρ' h;exact⟨v,e.ev ρ,uH h,hx,hr,fun _ _ e=>by cases e⟩
theorem dX.datc (hg:holds gs ρ=true){o:Oper}{t:Ty}{c e:PE}(hx:(c.ev ρ).b=true→∃v,(execOp a.eval o).run C.P w=.ok (.value v) w∧Rep C.cap σ t v (e.ev ρ)):
 dX C S ρ σ hv Φ dst a w o (.dat t,[p6 gs c,.setR dst e]):=by
 intro ρ' h;obtain⟨hb,he⟩:=Qv hg h;obtain⟨v,h1,h2⟩:=hx hb;exact⟨v,e.ev ρ,he,h1,h2,fun _ _ e=>by cases e⟩
theorem Zw (h:Inv C S ρ σ own hv w0 σ0 A a w)(hC:CtxOK C σ0)(hg:holds gs ρ=true){x:Operand}{r:Sh×List PI}(hr:pv C S gs dst x=some r){o:Oper}(ho:o.op=.move x∨o.op=.assign x):
 dX C S ρ σ hv Φ dst a w o r:=by
 have hx:(execOp a.eval o).run C.P w=.ok (.value (a.eval x)) w:=by rcases ho with ho|ho<;>simp[execOp,ho,Sem.run,pure]
 unfold pv at hr;split at hr
 ·rename_i y hy;cases hr;exact .dat hx (cg h hC hg hy)
 ·split at hr
  ·rename_i t _;obtain⟨hs,hn⟩:=m0 h hg t;split at hr
   ·cases hr
   ·cases hr
   ·cases hr;intro ρ' h';exact⟨_,_,uH h',hx,hs,hn⟩
  ·cases hr
theorem amg (h:Inv C S ρ σ own hv w0 σ0 A a w)(hC:CtxOK C σ0)(hg:holds gs ρ=true){c x y:Operand}{r:Sh×List PI}(hr:zR C S gs dst c x y=some r){o:Oper}(ho:o.op=.pick c x y):
 dX C S ρ σ hv Φ dst a w o r:=by
 unfold zR at hr;split at hr
 ·rename_i t;split at hr
  ·rename_i es;obtain⟨hs,_⟩:=m0 h hg t;rw[es] at hs;obtain⟨b,aQ,bj⟩:=Rep.bool_inv hs;simp only[au] at hr;obtain⟨q1,h1,q2,h2,hr⟩:=hr;cases hb:Ty.beq q1.1 q2.1<;>simp only[hb,cond_true,cond_false] at hr
   ·cases hr
   ·cases hr;have e2:=Ty.beq_eq _ _ hb;have ah:(execOp a.eval o).run C.P w=.ok (.value (if b then a.eval x else a.eval y)) w:=by
     have:a.eval (.tmp t)=.bool b:=aQ;simp[execOp,ho,this,asBool,Sem.run,pure,bind,Sem.bind]
    refine .dat ah ?_;show Rep C.cap σ q1.1 _ (bif (ρ.r t).b then q1.2.ev ρ else q2.2.ev ρ);have gi:(ρ.r t).b=b:=by rw[bj];rfl
    cases b with
    |true=>
     simp only[gi,cond_true,if_true];exact cg h hC (by simp only[holds,pO,gi];exact hg) h1
    |false=>
     simp only[gi,cond_false];rw[e2];exact cg h hC (by simp only[holds,pO,gi];exact hg) h2
  ·cases hr
 ·cases hr
theorem Jq {op:BinOp}{T T':TypeId}{x y:Operand}{v v':Value}{o:Oper}(ho:o.op=.binOp op T x y T')(hv:a.eval x=v)(hv':a.eval y=v')(h1:∀u,v≠.agg u)(h2:v≠.nilIface):
 (execOp a.eval o).run C.P w=((binOp op T v v').bind fun r=>.pure (.value r)).run C.P w:=by
 have he:eqGuard op T x y v v'=.pure ():=by
  cases v<;>first|(exact absurd rfl h2)|(exact absurd rfl (h1 _))|(cases op<;>simp[eqGuard]<;>rfl)
 simp only[execOp,ho,hv,hv',he];rfl
theorem UM {P:Program}{cap:Nat→Option CSig}{σ:Im}{ρ:Env}{x y:PE}(w:World)(d:Nat){t:Ty}{T:TypeId}{v u:Value}{e:PE}(hk:l0 P T t=true)(he:vx t x y=some e)(g1:Rep cap σ t v (x.ev ρ))(g2:Rep cap σ t u (y.ev ρ)):
 ∃b,e.ev ρ=.v (.bool b)∧(Op.equalIn (d+1) T v u).run P w=.ok b w:=by
 cases t with
 |int k=>
  obtain⟨n,v1,d1,_⟩:=g1.int_inv;obtain⟨m,v2,d2,_⟩:=g2.int_inv;simp only[vx,aR] at he;subst he;have hu:∃k',P.underlying T=some (.int k'):=by
   simp only[l0] at hk;split at hk
   ·exact⟨_,by assumption⟩
   ·cases hk
  obtain⟨k',hu⟩:=hu;exact⟨n==m,by simp only[PE.ev,d1,d2];rfl,by rw[v1,v2];exact run_equalIn_int w d T k k' n m hu⟩
 |bool=>
  obtain⟨n,v1,d1⟩:=g1.bool_inv;obtain⟨m,v2,d2⟩:=g2.bool_inv;simp only[vx,aR] at he;subst he;have hu:P.underlying T=some .bool:=by
   simp only[l0] at hk;split at hk
   ·assumption
   ·cases hk
  exact⟨n==m,by simp only[PE.ev,d1,d2];rfl,by rw[v1,v2];exact run_equalIn_bool' w d T n m hu⟩
 |str=>
  obtain⟨n,v1,d1,_⟩:=g1.str_inv;obtain⟨m,v2,d2,_⟩:=g2.str_inv;simp only[vx,aR] at he;subst he;have hu:P.underlying T=some .string:=by
   simp only[l0] at hk;split at hk
   ·assumption
   ·cases hk
  exact⟨n.toList==m.toList,by simp only[PE.ev,d1,d2];rfl,by rw[v1,v2];exact run_equalIn_string w d T n m hu⟩
 |_=>simp[vx] at he
theorem aeU {P:Program}{cap:Nat→Option CSig}{σ:Im}{ρ:Env}{x y:PE}{X Y:List D}(w:World)(hx:x.ev ρ=.agg X)(hy:y.ev ρ=.agg Y){vs us:List Value}(b d:Nat):
 ∀(fs:List Field) (i:Nat) (ts:List Ty) (e:PE),vu P x y b fs i ts=some e→(∀j t,ts[j]?=some t→Rep cap σ t (vs.getD (i+j) undef) (X.getD (b+i+j) .none)∧Rep cap σ t (us.getD (i+j) undef) (Y.getD (b+i+j) .none))→
  i+ts.length≤vs.length→i+ts.length≤us.length→
  ∃b,e.ev ρ=.v (.bool b)∧(Op.eqFields (d+1) vs.toArray us.toArray fs).run P w=.ok b w:=by
 intro fs
 induction fs with
 |nil=>
  intro i ts e h _ _ _;cases ts with
  |nil=>simp only[vu,aR] at h;subst h;exact⟨true,rfl,rfl⟩
  |cons t ts=>simp[vu] at h
 |cons f fs ih=>
  intro i ts e h hr l1 l2;cases ts with
  |nil=>simp[vu] at h
  |cons t ts=>
   simp only[vu] at h;cases hc:((f.name != "_")&&Nat.beq f.offset i&&l0 P f.type t&&P.plainKey f.type)<;>simp only[hc,cond_true,cond_false] at h
   ·cases h
   simp only[ak,bne_iff_ne,ne_eq] at hc;obtain⟨⟨⟨hn,ho⟩,hk⟩,hp⟩:=hc;have ho:=ay ho;simp only[au,az] at h;obtain⟨e1,ju,r,lT,rfl⟩:=h
   obtain⟨b2,cY,CS⟩:=ih (i+1) ts r lT (fun j t hj=>by
        have:=hr (j+1) t (by simpa using hj)
        rwa [show i+(j+1)=i+1+j by omega,show b+i+(j+1)=b+(i+1)+j by omega] at this) (by simp at l1;omega) (by simp at l2;omega)
   obtain⟨g1,g2⟩:=hr 0 t rfl;rw[hG,hG] at g1 g2;simp only[m8] at l1 l2;have tV:vs.toArray[f.offset]?=some (vs.getD i undef):=by rw[ho];simp[aK,show i<vs.length by omega]
   have Na:us.toArray[f.offset]?=some (us.getD i undef):=by rw[ho];simp[aK,show i<us.length by omega]
   have p1:=run_part_plain (P:=P) (w:=w) hp tV;have p2:=run_part_plain (P:=P) (w:=w) hp Na;have ex:(PE.cell x (b+i)).ev ρ=X.getD (b+i) .none:=by simp only[PE.ev,hx];rfl
   have ey:(PE.cell y (b+i)).ev ρ=Y.getD (b+i) .none:=by simp only[PE.ev,hy];rfl
   obtain⟨b1,gP,nD⟩:=UM (P:=P) w d (ρ:=ρ) hk ju (by rw[ex];exact g1) (by rw[ey];exact g2);refine⟨b1&&b2,by simp only[PE.ev,gP,cY];rfl,?_⟩;simp only[Op.eqFields,if_pos hn,Sem.run_bind,p1,p2,nD,Result.andThen_ok];cases b1
   ·rfl
   ·simpa using CS
theorem aeT {P:Program}{cap:Nat→Option CSig}{σ:Im}{ρ:Env}{x y:PE}{X Y:List D}(w:World)(hx:x.ev ρ=.agg X)(hy:y.ev ρ=.agg Y){vs us:List Value}(d:Nat):
 ∀(fs:List Field) (i:Nat) (ts:List Ty) (e:PE),vw P x y fs i ts=some e→(∀j t,ts[j]?=some t→Rep cap σ t (vs.getD (i+j) undef) (X.getD (i+j) .none)∧Rep cap σ t (us.getD (i+j) undef) (Y.getD (i+j) .none))→
  i+ts.length≤vs.length→i+ts.length≤us.length→
  ∃b,e.ev ρ=.v (.bool b)∧(Op.eqFields (d+2) vs.toArray us.toArray fs).run P w=.ok b w:=by
 intro fs
 induction fs with
 |nil=>
  intro i ts e h _ _ _;cases ts with
  |nil=>simp only[vw,aR] at h;subst h;exact⟨true,rfl,rfl⟩
  |cons t ts=>simp[vw] at h
 |cons f fs ih=>
  intro i ts e h hr l1 l2;unfold vw at h;split at h
  ·rename_i n bD;cases hb:Nat.ble n ts.length<;>simp only[hb,cond_true,cond_false] at h
   ·cases h
   have hn:=ji hb;simp only[au,az] at h;obtain⟨e1,ju,r,lT,rfl⟩:=h
   obtain⟨b2,cY,CS⟩:=ih (i+n) (ts.drop n) r lT (fun j t hj=>by
        have:=hr (n+j) t (by rw[fJ] at hj;exact hj)
        rwa [show i+(n+j)=i+n+j by omega] at this) (by rw[J0];omega) (by rw[J0];omega)
   unfold WJ at bD;split at bD
   case h_2=>cases bD
   rename_i fs' hu;cases hc:((f.name != "_")&&Nat.beq f.offset i&& !P.stoodInHeld f.type)<;>simp only[hc,cond_true,cond_false] at bD
   ·cases bD
   cases bD;simp only[ak,bne_iff_ne,ne_eq,gd] at hc;obtain⟨⟨aB,ho⟩,cn⟩:=hc;have ho:=ay ho;have jv:P.underlying f.type=some (.struct (P.fieldsOf f.type)):=by unfold Program.fieldsOf;rw[hu]
   obtain⟨inf,hi⟩:=info_of_underlying hu
   have nC:∀zs:List Value,(part f.type zs.toArray f.offset).run P w=.ok (.agg ((zs.drop i).take (P.cellsOf f.type)).toArray) w:=fun zs=>by
        have:(zs.toArray.extract f.offset (f.offset+P.cellsOf f.type))=((zs.drop i).take (P.cellsOf f.type)).toArray:=by
         rw[ho];apply qZ;rw[Array.toList_extract];simp[List.extract]
        rw[←this];simp[part,isAgg,run_underlying hu,run_sizeOf w hi]
   obtain⟨b1,gP,nD⟩:=aeU (P:=P) (cap:=cap) (σ:=σ) (ρ:=ρ) w hx hy (vs:=(vs.drop i).take (P.cellsOf f.type)) (us:=(us.drop i).take (P.cellsOf f.type)) i d _ 0 (ts.take (P.cellsOf f.type)) e1 ju (fun j t hj=>by
        rw[fj] at hj;split at hj
        ·rename_i vL;have:=hr j t hj;simpa [aK,fj,vL,fJ] using this
        ·cases hj) (by simp only[dR,J0];omega) (by simp only[dR,J0];omega)
   have aiK:(Op.equalIn (d+2) f.type (.agg ((vs.drop i).take (P.cellsOf f.type)).toArray) (.agg ((us.drop i).take (P.cellsOf f.type)).toArray)).run P w=.ok b1 w:=by
        rw[run_equalIn_struct w (d+1) f.type _ _ jv cn];exact nD
   refine⟨b1&&b2,by simp only[PE.ev,gP,cY];rfl,?_⟩;simp only[Op.eqFields,if_pos aB,Sem.run_bind,nC,aiK,Result.andThen_ok];cases b1
   ·rfl
   ·simpa using CS
  ·split at h
   ·rename_i t ts;cases hc:((f.name != "_")&&Nat.beq f.offset i&&l0 P f.type t&&P.plainKey f.type)<;>simp only[hc,cond_true,cond_false] at h
    ·cases h
    simp only[ak,bne_iff_ne,ne_eq] at hc;obtain⟨⟨⟨hn,ho⟩,hk⟩,hp⟩:=hc;have ho:=ay ho;simp only[au,az] at h;obtain⟨e1,ju,r,lT,rfl⟩:=h
    obtain⟨b2,cY,CS⟩:=ih (i+1) ts r lT (fun j t hj=>by
     have:=hr (j+1) t (by simpa using hj)
     rwa [show i+(j+1)=i+1+j by omega] at this) (by simp at l1;omega) (by simp at l2;omega)
    obtain⟨g1,g2⟩:=hr 0 t rfl;rw[hG] at g1 g2;simp only[m8] at l1 l2;have tV:vs.toArray[f.offset]?=some (vs.getD i undef):=by rw[ho];simp[aK,show i<vs.length by omega]
    have Na:us.toArray[f.offset]?=some (us.getD i undef):=by rw[ho];simp[aK,show i<us.length by omega]
    have p1:=run_part_plain (P:=P) (w:=w) hp tV;have p2:=run_part_plain (P:=P) (w:=w) hp Na;have ex:(PE.cell x i).ev ρ=X.getD i .none:=by simp only[PE.ev,hx];rfl
    have ey:(PE.cell y i).ev ρ=Y.getD i .none:=by simp only[PE.ev,hy];rfl
    obtain⟨b1,gP,nD⟩:=UM (P:=P) w (d+1) (ρ:=ρ) hk ju (by rw[ex];exact g1) (by rw[ey];exact g2);refine⟨b1&&b2,by simp only[PE.ev,gP,cY];rfl,?_⟩;simp only[Op.eqFields,if_pos hn,Sem.run_bind,p1,p2,nD,Result.andThen_ok];cases b1
    ·rfl
    ·simpa using CS
   ·cases h
theorem alP (h:Inv C S ρ σ own hv w0 σ0 A a w)(hC:CtxOK C σ0)(hg:holds gs ρ=true){op:BinOp}{T T':TypeId}{x y:Operand}{r:Sh×List PI}(hr:zE C S gs dst op T x y=some r){o:Oper}(ho:o.op=.binOp op T x y T'):
 dX C S ρ σ hv Φ dst a w o r:=by
 simp only[zE,au] at hr;obtain⟨p,hp,q,hq,hr⟩:=hr;have aS:=cg h hC hg hp;have dx:=cg h hC hg hq;split at hr
 ·rename_i k k' e1 e2;rw[e1] at aS;rw[e2] at dx;obtain⟨n,aQ,bj,b1,b2⟩:=aS.int_inv;obtain⟨m,gT,dN,b3,b4⟩:=dx.int_inv;have ah:=Jq (C:=C) (w:=w) ho aQ gT (by intro u e;cases e) (by intro e;cases e);cases gD:(op==.shl||op==.shr)<;>simp only[gD,cond_true,cond_false] at hr
  ·cases lS:(k==k')<;>simp only[lS,cond_true,cond_false] at hr
   ·cases hr
   ·have Mp:k=k':=by simpa using lS
    subst Mp;cases MW:(op==.quo||op==.rem)<;>simp only[MW,cond_true,cond_false] at hr
    ·cases har:E7 op<;>simp only[har,cond_true,cond_false] at hr
     ·cases nu:yA op<;>simp only[nu,cond_true,cond_false] at hr
      ·cases hr
      ·cases hr;refine .dat (v:=.bool (iL op n m)) ?_ ?_
       ·rw[ah];cases op<;>simp_all [yA]<;>simp[binOp,Op.intCmp,iL,Sem.run,pure,Sem.bind]
       ·simp only[PE.ev,bj,dN,D.i_int];exact .bool _
     ·cases hr;refine .dat (v:=.int k (cX op k n m)) ?_ ?_
      ·rw[ah];cases op<;>simp_all [E7]<;>simp[binOp,Op.intArith,Op.intBits,cX,Sem.run,pure,Sem.bind]
      ·simp only[PE.ev,bj,dN,D.i_int];refine .int _ _ ?_ ?_<;>(cases op<;>simp_all [E7]<;>first|exact(qX _ _).1|exact(qX _ _).2)
    ·cases hr;refine .datc hg fun hc=>⟨.int k (cX op k n m),?_,?_⟩
     ·have aB:m≠0:=by simpa [PE.ev,dN,D.i_int,D.b_bool,iL,D.int] using hc
      rw[ah];rcases(by simpa using MW:op=.quo∨op=.rem) with rfl|rfl<;>simp[binOp,Op.intDiv,cX,Sem.run,pure,Sem.bind,aB]
     ·simp only[PE.ev,bj,dN,D.i_int];cases op<;>simp_all
      ·exact .int _ _ (qX _ _).1 (qX _ _).2
      ·exact .int _ _ (abB k ⟨b1,b2⟩).1 (abB k ⟨b1,b2⟩).2
  ·cases hr;refine .datc hg fun hc=>⟨.int k (cX op k n m),?_,?_⟩
   ·have aB:¬m<0:=by
     have:0≤m:=by simpa [PE.ev,dN,D.i_int,D.b_bool,iL,D.int] using hc
     omega
    rw[ah];rcases(by simpa using gD:op=.shl∨op=.shr) with rfl|rfl<;>simp[binOp,Op.shift,cX,Sem.run,pure,Sem.bind,aB]
   ·simp only[PE.ev,bj,dN,D.i_int];cases op<;>simp_all
    ·exact .int _ _ (qX _ _).1 (qX _ _).2
    ·exact .int _ _ (UR k _ ⟨b1,b2⟩).1 (UR k _ ⟨b1,b2⟩).2
 ·rename_i e1 e2;rw[e1] at aS;rw[e2] at dx;obtain⟨n,aQ,bj⟩:=aS.bool_inv;obtain⟨m,gT,dN⟩:=dx.bool_inv;have ah:=Jq (C:=C) (w:=w) ho aQ gT (by intro u e;cases e) (by intro e;cases e);cases bS:((op==.eql||op==.neq)&&Nq C.P T)<;>simp only[bS,cond_true,cond_false] at hr
  ·cases hr
  ·cases hr;simp only[ak] at bS;obtain⟨bS,hT⟩:=bS;have yW:C.P.underlying T=some .bool:=by
        unfold Nq at hT;split at hT
        ·assumption
        ·cases hT
   have heq:(Op.equal T (.bool n) (.bool m)).run C.P w=.ok (n==m) w:=by
        have:∀d,(Op.equalIn (d+1) T (.bool n) (.bool m)).run C.P w=.ok (n==m) w:=fun d=>by simp[Op.equalIn,run_underlying yW]
        exact this 9999
   refine .dat (v:=.bool (yz op n m)) ?_ ?_
   ·rw[ah];rcases(by simpa using bS:op=.eql∨op=.neq) with rfl|rfl<;>simp[binOp,yz,heq,Sem.run_bind']
   ·simp only[PE.ev,bj,dN,D.b_bool];exact .bool _
 ·rename_i e1 e2;rw[e1] at aS;rw[e2] at dx;obtain⟨n,aQ,bj,_⟩:=aS.str_inv;obtain⟨m,gT,dN,_⟩:=dx.str_inv;have ah:=Jq (C:=C) (w:=w) ho aQ gT (by intro u e;cases e) (by intro e;cases e);cases bS:yA op<;>simp only[bS,cond_true,cond_false] at hr
  ·cases hr
  ·cases hr;refine .dat (v:=.bool (yB op n m)) ?_ ?_
   ·rw[ah];cases op<;>simp_all [yA]<;>simp[binOp,Op.stringOp,yB,Sem.run,pure,Sem.bind]
   ·simp only[PE.ev,bj,dN,D.s_str];exact .bool _
 ·rename_i e e' e1 e2;rw[e1] at aS;rw[e2] at dx;split at hr
  case h_2=>cases hr
  rename_i E hT;cases bS:(op==.eql||op==.neq)<;>simp only[bS,cond_true,cond_false] at hr
  ·cases hr
  cases hr;obtain⟨n,xs,aQ,bj,aie⟩:∃(n:Bool) (xs:List D),(n=true∧a.eval x=.slice none 0 0∨n=false∧∃k o m c,a.eval x=.slice (some ⟨k,o,none⟩) m c)∧p.2.ev ρ=.list xs∧n=decide (xs=[]):=by
   generalize a.eval x=vv at aS;generalize p.2.ev ρ=dd at aS;cases aS with
   |nsl0=>exact⟨true,[],.inl ⟨rfl,rfl⟩,rfl,rfl⟩
   |nsl _ k o m c xs h hx=>exact⟨false,xs,.inr ⟨rfl,k,o,m,c,rfl⟩,rfl,by simp[hx]⟩
  have gT:a.eval y=.slice none 0 0:=by
   generalize a.eval y=vv at dx;generalize q.2.ev ρ=dd at dx;cases dx;rfl
  have heq:(Op.equal T (a.eval x) (a.eval y)).run C.P w=.ok n w:=by
   have:∀d,(Op.equalIn (d+1) T (a.eval x) (a.eval y)).run C.P w=.ok n w:=fun d=>by
        rw[gT];rcases aQ with⟨rfl,h1⟩|⟨rfl,k,o,m,c,h1⟩<;>rw[h1]<;>simp[Op.equalIn,run_underlying hT]
   exact this 9999
  have ah:=Jq (C:=C) (w:=w) ho rfl rfl (by
   intro u e;rcases aQ with⟨_,h1⟩|⟨_,k,o,m,c,h1⟩<;>rw[h1] at e<;>cases e) (by
   intro e;rcases aQ with⟨_,h1⟩|⟨_,k,o,m,c,h1⟩<;>rw[h1] at e<;>cases e)
  refine .dat (v:=.bool (iL op xs.length 0)) ?_ ?_
  ·have aB:∀(y:D) (ys:List D),¬((ys.length:Int)+1=0):=fun y ys=>by omega
   rw[ah,gT];rw[gT] at heq;rcases aQ with⟨_,h1⟩|⟨_,k,o,m,c,h1⟩<;>rw[h1] at heq ⊢<;>rcases(by simpa using bS:op=.eql∨op=.neq) with rfl|rfl<;>cases xs<;>simp[binOp,heq,Sem.run_bind',iL,aie]<;>(try omega)
  ·simp only[PE.ev,bj,D.l_list,D.int,D.i_int];exact .bool _
 ·rename_i ts us e1 e2;rw[e1] at aS;rw[e2] at dx;cases bS:((op==.eql||op==.neq)&&Ty.beqs ts us&&Ly C.P T)<;>simp only[bS,cond_true,cond_false] at hr
  ·cases hr
  simp only[ak] at bS;obtain⟨⟨bS,HJ⟩,cn⟩:=bS;have:=Ty.beqs_eq _ _ HJ;subst this;simp only[Ly,ak,gd] at cn;obtain⟨⟨Ws,aiW⟩,aiX⟩:=cn;have jv:C.P.underlying T=some (.struct (C.P.fieldsOf T)):=by
   unfold Program.fieldsOf;split at Ws
   ·rename_i fs hu;rw[hu]
   ·cases Ws
  simp only[az] at hr;obtain⟨e,he,rfl⟩:=hr;obtain⟨vs,ds,aQ,bj,l1,l2,aO,_⟩:=aS.agg_inv;obtain⟨AK,ds',gT,dN,l3,l4,jT,_⟩:=dx.agg_inv
  obtain⟨b,hb,ah⟩:=aeT (P:=C.P) (cap:=C.cap) (σ:=σ) (ρ:=ρ) w bj dN (vs:=vs) (us:=AK) 9997 _ 0 ts e he (fun j t hj=>by
   rw[gz];exact⟨aO j t hj,jT j t hj⟩) (by omega) (by omega)
  have heq:(Op.equalIn 10000 T (.agg vs.toArray) (.agg AK.toArray)).run C.P w=.ok b w:=by
   rw[run_equalIn_struct w 9999 T _ _ jv aiW];exact ah
  have jU:=run_eqGuard_agg (P:=C.P) (w:=w) op T x y vs.toArray AK.toArray aiX
  have VJ:(execOp a.eval o).run C.P w=((binOp op T (.agg vs.toArray) (.agg AK.toArray)).run C.P w).andThen fun r w'=>.ok (.value r) w':=by
   simp only[execOp,ho,aQ,gT,Sem.run_bind,jU,Result.andThen_ok];rfl
  rcases(by simpa using bS:op=.eql∨op=.neq) with rfl|rfl
  ·refine .dat (v:=.bool b) ?_ ?_
   ·rw[VJ,run_eql_struct,heq];rfl
   ·show Rep _ _ .bool _ (PE.ev ρ e);rw[hb];exact .bool _
  ·refine .dat (v:=.bool (!b)) ?_ ?_
   ·rw[VJ,run_neq_struct,heq];rfl
   ·show Rep _ _ .bool _ (PE.ev ρ (.nt e));simp only[PE.ev,hb];exact .bool _
 ·cases hr
theorem aml (h:Inv C S ρ σ own hv w0 σ0 A a w)(hC:CtxOK C σ0)(hg:holds gs ρ=true){op:UnOp}{T:TypeId}{x:Operand}{r:Sh×List PI}(hr:zT C S gs dst op x=some r){o:Oper}(ho:o.op=.unOp op T x):
 dX C S ρ σ hv Φ dst a w o r:=by
 simp only[zT,au] at hr;obtain⟨p,hp,hr⟩:=hr;have aS:=cg h hC hg hp;split at hr
 ·rename_i k e1;rw[e1] at aS;obtain⟨n,aQ,bj,b1,b2⟩:=aS.int_inv;cases hr;refine .dat (v:=.int k (cX .sub k 0 n)) ?_ ?_
  ·simp[execOp,ho,aQ,Op.unary,Op.intArith,cX,Sem.run,pure,bind,Sem.bind]
  ·simp only[PE.ev,bj,D.i_int];exact .int _ _ (qX _ _).1 (qX _ _).2
 ·rename_i e1;rw[e1] at aS;obtain⟨n,aQ,bj⟩:=aS.bool_inv;cases hr;refine .dat (v:=.bool (!n)) ?_ ?_
  ·simp[execOp,ho,aQ,Op.unary,Sem.run,pure,bind,Sem.bind]
  ·simp only[PE.ev,bj,D.b_bool];exact .bool _
 ·cases hr
theorem alT (h:Inv C S ρ σ own hv w0 σ0 A a w)(hC:CtxOK C σ0)(hg:holds gs ρ=true){s d:TypeId}{x:Operand}{r:Sh×List PI}(hr:zH C S gs dst s d x=some r){o:Oper}(ho:o.op=.convert s d x):
 dX C S ρ σ hv Φ dst a w o r:=by
 simp only[zH,au] at hr;obtain⟨p,hp,hr⟩:=hr;have aS:=cg h hC hg hp;split at hr
 ·rename_i k0 k k1 u1 u2 e1;rw[e1] at aS;obtain⟨n,aQ,bj,b1,b2⟩:=aS.int_inv;cases hr;refine .dat (v:=.int k (k.wrap n)) ?_ ?_
  ·simp[execOp,ho,aQ,convert,run_underlying u1,run_underlying u2,Conv.intToInt]
  ·simp only[PE.ev,bj,D.i_int];exact .int _ _ (qX _ _).1 (qX _ _).2
 ·rename_i u1 u2 e1;rw[e1] at aS;obtain⟨n,aQ,bj,b1⟩:=aS.str_inv;cases hr;refine .dat (v:=.string n) ?_ ?_
  ·simp[execOp,ho,aQ,convert,run_underlying u1,run_underlying u2]
  ·rw[bj];exact .str _ b1
 ·cases hr
end
end Cx
namespace Cx
open Go Go.RowKit
theorem uc {n:Nat}(h:n≤maxLen):IntKind.i64.min≤(n:Int)∧(n:Int)≤IntKind.i64.max:=by
 simp only[maxLen] at h;simp only[IntKind.min,IntKind.max,IntKind.signed,IntKind.bits];simp;omega
section
variable {C:Ctx} {S:St} {ρ:Env} {σ:Im} {own:Nat→Option Nat} {hv:Nat→Value} {w0:World} {σ0:Base} {A:Nat→Prop} {a:Act} {w:World} {gs:List (Nat×Bool)} {Φ:aP} {dst:Nat}
def Kc (C:Ctx)(σ:Im)(w:World)(B:Nat)(t:Ty)(v:Value)(d:D):Prop:=
 Rep C.cap σ t v d∨
 (∃T e cells xs,t=.slice e.rol∧d=.list xs∧w.ownsRow B T e.size v xs.length cells∧dW C.cap σ e cells xs)∨
 (∃k arr clock es kt et,t=.map kt et∧v=.map (some k)∧w.heap[k]?=some (.map arr clock)∧d=.map es∧es.length=arr.size∧es.length≤maxLen∧
    ∀(i:Nat) (e:MapEntry) (p:D×D),arr[i]?=some e→es[i]?=some p→Rep C.cap σ kt e.key p.1∧Rep C.cap σ et e.val p.2)
theorem S8 (h:Inv C S ρ σ own hv w0 σ0 A a w)(hC:CtxOK C σ0)(hg:holds gs ρ=true){x:Operand}{r:Ty×PE}(hu:view C S gs x=some r):Kc C σ w w0.heap.size r.1 (a.eval x) (r.2.ev ρ):=by
 unfold view at hu;split at hu
 ·rename_i r' CO;cases hu;exact .inl (cg h hC hg CO)
 ·split at hu
  ·rename_i t _;obtain⟨hs,_⟩:=m0 h hg t;split at hu
   ·rename_i j ver e;rw[e] at hs;cases hb:Nat.beq ver (S.ver j)<;>simp only[hb,cond_true,cond_false] at hu
    ·cases hu
    ·have dH:=ay hb;have ho:=h.objs j;have bZ:a.eval (.tmp t)=hv j:=hs.2 dH;split at hu
     ·rename_i T e eo;rw[eo] at ho;cases hu;obtain⟨cells,xs,h1,h2,h3,h4⟩:=ho;rw[bZ];exact .inr (.inl ⟨T,e,cells,xs,rfl,h1,h2,h3⟩)
     ·rename_i kt et eo;rw[eo] at ho;cases hu;obtain⟨k,arr,clock,es,h1,h2,h3,h4,h5,⟨hx,_⟩,h6⟩:=ho;rw[bZ];exact .inr (.inr ⟨k,arr,clock,es,kt,et,rfl,h1,h3,h4,h5,hx,h6⟩)
     ·cases hu
   ·cases hu
  ·cases hu
theorem wH {w:World}{B e size n:Nat}{v:Value}{cells:List Value}(h:w.ownsRow B e size v n cells):∃b c,v=.slice b n c∧n≤maxLen∧n≤c:=by
 rcases h.2 with⟨rfl,rfl⟩|⟨g,cap,cur,rfl,h1,h2,h3,h4,h5⟩
 ·exact⟨none,0,rfl,by decide,bf _⟩
 ·exact⟨_,cap,rfl,lG h3 h4,h3⟩
theorem Qt {b:Builtin}{args:Array Operand}{ts:Array TypeId}{o:Oper}(ho:o.op=.call {callee:=.builtin b,args:=args,argTypes:=ts}):
 ∃cs,(execOp a.eval o).run C.P w=(builtin b ts o.type cs (args.map a.eval)).run C.P w:=
 ⟨_,by simp only[execOp,ho,resolve,invoke];rfl⟩
theorem al8 (h:Inv C S ρ σ own hv w0 σ0 A a w)(hC:CtxOK C σ0)(hg:holds gs ρ=true){T:TypeId}{x:Operand}{r:Sh×List PI}(hr:zO C S gs dst T x=some r){o:Oper}
 (ho:o.op=.call {callee:=.builtin .len,args:=#[x],argTypes:=#[T]}):dX C S ρ σ hv Φ dst a w o r:=by
 simp only[zO,au] at hr;obtain⟨p,hp,hr⟩:=hr;have aS:=S8 h hC hg hp;obtain⟨cs,ah⟩:=Qt (C:=C) (w:=w) (a:=a) ho;split at hr
 ·rename_i e T' e1 e2;rw[e1] at aS;cases hr;have hx:∃b n c xs,a.eval x=.slice b n c∧p.2.ev ρ=.list xs∧xs.length=n∧n≤maxLen:=by
   rcases aS with aS|⟨T,e,cells,xs,ht,hd,bY,iP⟩|⟨k,arr,clock,es,kt,et,ht,_⟩
   ·obtain⟨xs,hd,⟨⟨p0,aQ⟩,rfl⟩|⟨k,o,c,aQ,h1,h2,_⟩⟩:=aS.slice_inv
    ·exact⟨p0,0,0,[],aQ,hd,rfl,by decide⟩
    ·exact⟨_,_,c,xs,aQ,hd,rfl,by omega⟩
   ·obtain⟨b,c,aQ,h1,_⟩:=wH bY;exact⟨b,_,c,xs,aQ,hd,rfl,h1⟩
   ·cases ht
  obtain⟨b,n,c,xs,aQ,hd,hl,hm⟩:=hx;refine .dat (v:=.int .i64 n) ?_ ?_
  ·rw[ah];simp[builtin,Builtin.len_,aQ,run_underlying e2,goInt]
  ·simp only[PE.ev,hd,D.l_list,hl];exact .int _ _ (uc hm).1 (uc hm).2
 ·rename_i e T' e1 e2;rw[e1] at aS;cases hr;rcases aS with aS|⟨T,e,cells,xs,ht,_⟩|⟨k,arr,clock,es,kt,et,ht,_⟩
  ·generalize v3:a.eval x=v at aS;generalize Cc:p.2.ev ρ=d at aS;cases aS;refine .dat (v:=.int .i64 0) ?_ ?_
   ·rw[ah];simp[builtin,Builtin.len_,v3,run_underlying e2,goInt]
   ·simp only[PE.ev,Cc,D.l_list];exact .int _ _ (by decide) (by decide)
  ·cases ht
  ·cases ht
 ·rename_i e1 e2;rw[e1] at aS;cases hr;rcases aS with aS|⟨T,e,cells,xs,ht,_⟩|⟨k,arr,clock,es,kt,et,ht,_⟩
  ·obtain⟨n,aQ,bj,hm⟩:=aS.str_inv;refine .dat (v:=.int .i64 n.size) ?_ ?_
   ·rw[ah];simp[builtin,Builtin.len_,aQ,run_underlying e2,goInt]
   ·simp only[PE.ev,bj,D.s_str];exact .int _ _ (uc hm).1 (uc hm).2
  ·cases ht
  ·cases ht
 ·rename_i k0 e0 a0 b0 e1 e2;rw[e1] at aS;cases hr;rcases aS with aS|⟨T,e,cells,xs,ht,_⟩|⟨k,arr,clock,es,kt,et,ht,aQ,hb,bj,hl,hx,_⟩
  ·generalize v3:a.eval x=v at aS;generalize Cc:p.2.ev ρ=d at aS;cases aS with
   |mapnil=>
    refine .dat (v:=.int .i64 0) ?_ ?_
    ·rw[ah];simp[builtin,Builtin.len_,v3,run_underlying e2,goInt]
    ·simp only[PE.ev,Cc,D.m];exact .int _ _ (by decide) (by decide)
   |map kt et r jd es hm hl hx hk _=>
    obtain⟨_,arr,clock,hb,iQ⟩:=(h.ok.m _ _ hm).resolve_right (fun e=>Di hl hk e.1);have hn:arr.size=es.length:=by rw[hl,←iQ];simp[entriesOf]
    refine .dat (v:=.int .i64 arr.size) ?_ ?_
    ·rw[ah];simp[builtin,Builtin.len_,v3,run_underlying e2,goInt,getObj,Sem.run,hb]
    ·simp only[PE.ev,Cc,D.m,hn];exact .int _ _ (uc hx).1 (uc hx).2
  ·cases ht
  ·refine .dat (v:=.int .i64 arr.size) ?_ ?_
   ·rw[ah];simp[builtin,Builtin.len_,aQ,run_underlying e2,goInt,getObj,Sem.run,hb]
   ·simp only[PE.ev,bj,D.m,hl];exact .int _ _ (uc (hl▸hx)).1 (uc (hl▸hx)).2
 ·cases hr
theorem Zu (h:Inv C S ρ σ own hv w0 σ0 A a w)(hC:CtxOK C σ0)(hg:holds gs ρ=true){mx:Bool}{x y:Operand}{ts:Array TypeId}{r:Sh×List PI}(hr:wD C S gs dst mx x y=some r){o:Oper}
 (ho:o.op=.call {callee:=.builtin (bif mx then .max else .min),args:=#[x,y],argTypes:=ts}):dX C S ρ σ hv Φ dst a w o r:=by
 simp only[wD,au] at hr;obtain⟨p,hp,q,hq,hr⟩:=hr;have aS:=cg h hC hg hp;have dx:=cg h hC hg hq;obtain⟨cs,ah⟩:=Qt (C:=C) (w:=w) (a:=a) ho;split at hr
 ·rename_i k k' e1 e2;rw[e1] at aS;rw[e2] at dx;obtain⟨n,aQ,bj,b1,b2⟩:=aS.int_inv;obtain⟨m,gT,dN,b3,b4⟩:=dx.int_inv;cases lS:(k==k')<;>simp only[lS,cond_true,cond_false] at hr
  ·cases hr
  ·have Mp:k=k':=by simpa using lS
   subst Mp;cases hr;cases mx with
   |true=>
    refine .dat (v:=.int k (if m>n then m else n)) ?_ ?_
    ·rw[ah];simp[builtin,Builtin.max_,Builtin.max2,aQ,gT]
    ·simp only[cond_true,PE.ev,bj,dN,D.i_int];by_cases af:m>n<;>simp[af]<;>constructor<;>assumption
   |false=>
    refine .dat (v:=.int k (if m<n then m else n)) ?_ ?_
    ·rw[ah];simp[builtin,Builtin.min_,Builtin.min2,aQ,gT]
    ·simp only[cond_false,PE.ev,bj,dN,D.i_int];by_cases af:m<n<;>simp[af]<;>constructor<;>assumption
 ·cases hr
theorem alV (h:Inv C S ρ σ own hv w0 σ0 A a w)(hC:CtxOK C σ0)(hg:holds gs ρ=true){x:Operand}{i:Nat}{r:Sh×List PI}(hr:zI C S gs dst x i=some r){o:Oper}(ho:o.op=.extract x i):
 dX C S ρ σ hv Φ dst a w o r:=by
 simp only[zI,au] at hr;obtain⟨p,hp,hr⟩:=hr;have aS:=cg h hC hg hp;split at hr
 ·rename_i ts e1;rw[e1] at aS;simp only[az] at hr;obtain⟨t,ht,rfl⟩:=hr;obtain⟨vs,ds,aQ,bj,l1,l2,aO⟩:=aS.tup_inv;have hi:i<vs.length:=by rw[l1];exact(eh.1 ht).1
  refine .dat (v:=vs.getD i undef) ?_ ?_
  ·obtain⟨u,hu⟩:∃u,vs[i]?=some u:=⟨_,bA hi⟩
   have jU:vs.getD i undef=u:=by rw[aK,hu];rfl
   rw[jU];simp[execOp,ho,aQ,Instr.extract,hu]
  ·simp only[PE.ev,bj];exact aO i t ht
 ·cases hr
end
end Cx
namespace Cx
open Go Go.RowKit
theorem tZ {P:Program}{T:TypeId}{ag:Bool}(h:pf P T=some ag)(w:World):(isAgg T).run P w=.ok ag w:=by
 unfold pf at h;split at h
 ·rename_i fs hu;cases h;simp[isAgg,run_underlying hu]
 ·rename_i n e hu;cases h;simp[isAgg,run_underlying hu]
 ·rename_i d h1 h2 hu;cases h;cases d<;>simp_all [isAgg,run_underlying hu]
 ·cases h
theorem rq (k o n:Nat):(⟨k,o,none⟩:Addr).add n=⟨k,o+n,none⟩:=by
 unfold Addr.add;split<;>simp_all
theorem Jr {P:Program}{T:TypeId}{inf:TypeInfo}{ag:Bool}{w:World}{k o:Nat}{cs:List Value}(hi:P.info? T=some inf)(ha:pf P T=some ag)(hl:cs.length=inf.size)
 (h1:ag=false→cs.length=1) (hc:∀j u,cs[j]?=some u→w.cell? ⟨k,o+j,none⟩=some u):(loadVar T ⟨k,o,none⟩).run P w=.ok (rowOf ag cs) w:=by
 cases ag with
 |true=>
  have:=run_loadCells_list (P:=P) w ⟨k,o,none⟩ cs (fun j v hv=>by rw[rq];exact hc j v hv);rw[hl] at this;simp[loadVar,tZ ha,Go.sizeOf,run_typeInfo w hi,this,rowOf]
 |false=>
  obtain⟨u,hu⟩:∃u,cs=[u]:=by
   have:=h1 rfl
   match cs,this with
   |[u],_=>exact⟨u,rfl⟩
  subst hu;have h0:=hc 0 u rfl;simp only[hG] at h0;simp[loadVar,tZ ha,rowOf,run_load,h0]
section
variable {C:Ctx} {S:St} {ρ:Env} {σ:Im} {own:Nat→Option Nat} {hv:Nat→Value} {w0:World} {σ0:Base} {A:Nat→Prop} {a:Act} {w:World} {gs:List (Nat×Bool)} {Φ:aP} {dst:Nat}
theorem uG {o:Oper}{T:TypeId}{x:Operand}{v:Value}{k off:Nat}(ho:o.op=.load T x)(hx:a.eval x=.pointer (some ⟨k,off,none⟩))(hl:(loadVar T ⟨k,off,none⟩).run C.P w=.ok v w):
 (execOp a.eval o).run C.P w=.ok (.value v) w:=by
 simp[execOp,ho,Instr.loadAt,hx,Instr.sureAddr,hl]
theorem rL {α:Type}{l:List α}{i:Nat}{x d:α}(h:l[i]?=some x):l.getD i d=x:=by
 rw[aK,h];rfl
theorem Iw {cap:Nat→Option CSig}{ts:List Ty}{vs:List Value}{ds:List D}{ag:Bool}{n off:Nat}{ty:Ty}(hp:um ag n ts off=some ty)
 (h1:vs.length=ts.length) (h2:ds.length=ts.length) (hr:∀(i:Nat) (t:Ty),ts[i]?=some t→Rep cap σ t (vs.getD i undef) (ds.getD i .none)) (ho:∀(i:Nat) (t:Ty),ts[i]?=some t→t.one=true):
 Rep cap σ ty (rowOf ag ((vs.drop off).take n)) (bif ag then .agg ((ds.drop off).take n) else ds.getD off .none)∧((vs.drop off).take n).length=n∧(ag=false→n=1):=by
 unfold um at hp;cases hle:Nat.ble (off+n) ts.length<;>simp only[hle,cond_true,cond_false] at hp
 ·cases hp
 ·have Cu:=ji hle;have hlen:((vs.drop off).take n).length=n:=by simp;omega
  cases ag with
  |true=>
   simp only[cond_true] at hp;cases hp;refine⟨?_,hlen,fun e=>by cases e⟩;simp only[rowOf,if_true,cond_true];refine .agg _ _ _ (by simp;omega) (by simp;omega) (fun i t hi=>?_) (fun i t hi=>?_)
   ·simp only[fj,fJ] at hi;split at hi
    ·rename_i bD;have:=hr (off+i) t hi;simpa [aK,fj,fJ,bD] using this
    ·cases hi
   ·simp only[fj,fJ] at hi;split at hi
    ·exact ho _ t hi
    ·cases hi
  |false=>
   simp only[cond_false] at hp;cases hn:Nat.beq n 1<;>simp only[hn,cond_true,cond_false] at hp
   ·cases hp
   ·have kT:=ay hn;subst kT;refine⟨?_,hlen,fun _=>rfl⟩;have:=hr off ty hp;have af:off<vs.length:=by omega
    simpa [rowOf,aK,fj,fJ] using this
theorem Iv {ag:Bool}{n:Nat}{e:PE}{off:Nat}{ds:List D}(h:e.ev ρ=.agg ds):(zW ag n e off).ev ρ=bif ag then .agg ((ds.drop off).take n) else ds.getD off .none:=by
 cases ag<;>simp[zW,PE.ev,h,D.cells,D.c]
theorem Inv.cell (h:Inv C S ρ σ own hv w0 σ0 A a w){k o:Nat}{u:Value}(hc:σ.c k o=some u):w.cell? ⟨k,o,none⟩=some u:=h.ok.c _ _ _ hc
theorem Rep.rowOf {cap:Nat→Option CSig}{t:Ty}{v:Value}{d:D}(h:Rep cap σ t v d):v=Cx.rowOf t.rowT v.cells.toList:=by
 cases h<;>simp[Cx.rowOf,Ty.rowT,Value.cells]
theorem Rep.cells1 {cap:Nat→Option CSig}{t:Ty}{v:Value}{d:D}(h:Rep cap σ t v d)(ht:t.rowT=false):v.cells=#[v]:=by
 cases h<;>simp_all [Ty.rowT,Value.cells]
theorem ama (h:Inv C S ρ σ own hv w0 σ0 A a w){T:TypeId}{x:Operand}{inf:TypeInfo}{ag:Bool}(hi:C.P.info? T=some inf)(ha:pf C.P T=some ag){o:Oper}(ho:o.op=.load T x)
 {ty:Ty} {e:PE} (hr:Rep C.cap σ (.ref ty) (a.eval x) (e.ev ρ)) (hs:Nat.beq inf.size ty.size=true) (G1:(ag==ty.rowT)=true):
 dX C S ρ σ hv Φ dst a w o (.dat ty,[.setR dst (.deref e)]):=by
 obtain⟨k,off,v,y,aQ,bj,bM,ic⟩:=hr.ref_inv;have er:=ay hs;have B6:ag=ty.rowT:=by simpa using G1
 have hz:=bM.size;have vV:=bM.rowOf;refine .dat (v:=v) (uG ho aQ ?_) ?_
 ·rw[vV,←B6];refine Jr hi ha (by simp[hz,er]) (fun e=>?_) (fun j u hu=>?_)
  ·subst e;simp[bM.cells1 B6.symm]
  ·exact h.cell (ic j u (by simpa using hu))
 ·simp only[PE.ev,bj,D.deref];exact bM
theorem K1 {w:World}{k:Nat}{cs:Array Value}{T:TypeId}{fr:Nat×Nat}(hb:w.heap[k]?=some (.cells cs T fr)){i:Nat}(hi:i<cs.size):w.cell? ⟨k,i,none⟩=some (cs.getD i undef):=by
 simp[World.cell?,hb,dL,fi hi]
theorem yR (cs:Array Value)(i:Nat):cs.toList.getD i undef=cs.getD i undef:=by
 simp[aK,dL]
theorem TR {cs:Array Value}{ds:List D}:∀(shs:List Sh) (i:Nat) (l:List AgC),tc S shs=some l→(∀m s,shs[m]?=some s→aH C S ρ σ hv s (cs.getD (i+m) undef) (ds.getD (i+m) .none))→
 l.length=shs.length∧∀(m:Nat) (c:AgC),l[m]?=some c→sN C S σ hv c (cs.getD (i+m) undef) (ds.getD (i+m) .none)
 |[],i,l,hl,_=>by simp only[tc,aR] at hl;subst hl;exact⟨rfl,fun m c hm=>by simp at hm⟩
 |s::r,i,l,hl,aO=>by
  simp only[tc,au] at hl;obtain⟨x,hx,hl⟩:=hl
  obtain⟨g1,g3⟩:=TR r (i+1) x hx fun m s hm=>by
   have:=aO (m+1) s (by simpa using hm)
   rwa [show i+(m+1)=i+1+m by omega] at this
  have h0:=aO 0 s rfl;rw[hG] at h0;split at hl
  ·rename_i t;cases dp:t.one<;>simp only[dp,cond_true,cond_false] at hl
   ·cases hl
   cases hl;refine⟨by simp[g1],fun m c hm=>?_⟩;cases m with
   |zero=>simp at hm;subst hm;exact⟨dp,h0⟩
   |succ m=>simp at hm;have:=g3 m c hm;rwa [show i+1+m=i+(m+1) by omega] at this
  ·rename_i j ver;cases hb:Nat.beq ver (S.ver j)<;>simp only[hb,cond_true,cond_false] at hl
   ·cases hl
   cases hl;refine⟨by simp[g1],fun m c hm=>?_⟩;cases m with
   |zero=>simp at hm;subst hm;exact h0
   |succ m=>simp at hm;have:=g3 m c hm;rwa [show i+1+m=i+(m+1) by omega] at this
  ·cases hl
theorem acu {j off n len:Nat}{ds:List D}(h:ρ.o j=.agg ds)(hl:ds.length=len):(Kg j off n len).ev ρ=.agg ((ds.drop off).take n):=by
 unfold Kg;cases hb:(Nat.beq off 0&&Nat.beq n len)
 ·simp only[cond_false,PE.ev,h];rfl
 ·simp only[ak] at hb;obtain rfl:=ay hb.1;obtain rfl:=ay hb.2;simp only[cond_true,PE.ev,h,List.drop_zero,←hl,List.take_length]
theorem Dl (h:Inv C S ρ σ own hv w0 σ0 A a w)(hC:CtxOK C σ0)(hg:holds gs ρ=true){T:TypeId}{x:Operand}{r:Sh×List PI}(hr:sm C S gs dst T x=some r){o:Oper}(ho:o.op=.load T x):
 dX C S ρ σ hv Φ dst a w o r:=by
 unfold sm at hr;split at hr
 case h_2=>cases hr
 rename_i inf ag hi ha;have eu:aH C S ρ σ hv (ff S gs x) (a.eval x) ((qM x).ev ρ):=by
  cases x with
  |tmp t=>exact(m0 h hg t).1
  |_=>trivial
 split at hr
 ·
  rename_i j ver off es;rw[es] at eu;cases hb:Nat.beq ver (S.ver j)<;>simp only[hb,cond_true,cond_false] at hr
  ·cases hr
  have dH:=ay hb;obtain⟨k,eA,fw⟩:=eu.2 dH;have aV:=h.objs j;split at hr
  ·rename_i bag shs eo;rw[eo] at aV;obtain⟨k',cs,T',ds,h1,h2,h3,h4,h5,h6,h7⟩:=aV;rw[eA] at h1;cases h1;cases ag with
   |true=>
    simp only[cond_true] at hr;cases hle:Nat.ble (off+inf.size) shs.length<;>simp only[hle,cond_true,cond_false] at hr
    ·cases hr
    have Cu:=ji hle;have hlen:((shs.drop off).take inf.size).length=inf.size:=by simp;omega
    have dE:∀m u,((cs.toList.drop off).take inf.size)[m]?=some u→w.cell? ⟨k,off+m,none⟩=some u:=fun m u hu=>by
     simp only[fj,fJ] at hu;split at hu
     ·rename_i hm;have:=K1 h3 (i:=off+m) (by omega);rw[this,←yR];exact congrArg some (rL hu)
     ·cases hu
    have Wp:=uG ho fw (Jr hi ha (by simp;omega) (fun e=>by cases e) dE);split at hr
    ·rename_i l hl;cases hr
     revert hl
     cases Ke C j
     ·intro hl;cases hl
     intro hl
     obtain⟨ll,lo⟩:=TR (cs:=cs) (ds:=ds) _ off l hl (fun m s hm=>by
      simp only[fj,fJ] at hm;split at hm
      ·exact(h7 (off+m) s hm).2
      ·cases hm)
     rw[hlen] at ll;refine fun ρ' ah=>⟨_,_,uH ah,Wp,⟨(cs.toList.drop off).take inf.size,(ds.drop off).take inf.size,by simp[rowOf],acu h5 h6,by simp;omega,by simp;omega,fun m c hm=>?_⟩,fun _ _ e=>by cases e⟩
     have oS:m<inf.size:=by have:=(eh.1 hm).1;omega
     have:=lo m c hm;simpa [aK,fj,fJ,oS] using this
    simp only[az] at hr;obtain⟨p,hp,rfl⟩:=hr
    obtain⟨l1,es,⟨he,_⟩,l2,bM⟩:=K9 (b:=.o j) h (cs:=cs.toList) h5 _ off p (fun m s hm=>by
     simp only[fj,fJ] at hm;split at hm
     ·have:=(h7 (off+m) s hm).2;rw[yR];exact this
     ·cases hm) hp
    refine .dat (v:=rowOf true ((cs.toList.drop off).take inf.size)) Wp ?_
    ·simp only[PE.ev,rowOf,if_true,he];refine .agg _ _ _ (by simp;omega) (by omega) (fun m t hm=>?_) (fun m t hm=>(bM m t hm).1);have oS:m<inf.size:=by have:=(eh.1 hm).1;omega
     have:=(bM m t hm).2;simpa [aK,fj,fJ,oS] using this
   |false=>
    simp only[cond_false] at hr;split at hr
    ·rename_i ty hs;cases dp:ty.one<;>simp only[dp,cond_true,cond_false] at hr
     ·cases hr
     cases hr;have oP:=(h7 off _ hs).2;have af:off<shs.length:=(eh.1 hs).1;have vQ:(loadVar T ⟨k,off,none⟩).run C.P w=.ok (cs.getD off undef) w:=by
      simp[loadVar,tZ ha,run_load,K1 h3 (i:=off) (by omega)]
     refine .dat (v:=cs.getD off undef) (uG ho fw vQ) ?_;simp only[PE.ev,h5,D.c,D.cells];exact oP
    ·rename_i j' mm hs;cases hr;have oP:=(h7 off _ hs).2;have af:off<shs.length:=(eh.1 hs).1;have vQ:(loadVar T ⟨k,off,none⟩).run C.P w=.ok (cs.getD off undef) w:=by
      simp[loadVar,tZ ha,run_load,K1 h3 (i:=off) (by omega)]
     intro ρ' ah;exact⟨_,_,uH ah,uG ho fw vQ,oP,fun _ _ e=>by cases e⟩
    ·cases hr
  ·rename_i ts eo;rw[eo] at aV;obtain⟨k',v,h1,h2,h3⟩:=aV;rw[eA] at h1;cases h1;simp only[az] at hr;obtain⟨ty,aZ,rfl⟩:=hr;obtain⟨vs,ds,rfl,hd,l1,l2,aO,dp⟩:=h2.agg_inv;obtain⟨bM,hlen,kT⟩:=Iw aZ l1 l2 aO dp;refine .dat (uG ho fw (Jr hi ha hlen (fun e=>by rw[hlen];exact kT e) (fun m u hu=>h.cell ?_))) (by rw[Iv (e:=.o j) hd];exact bM);simp only[fj,fJ] at hu;split at hu
   ·exact h3 (off+m) u (by simpa [Value.cells] using hu)
   ·cases hu
  ·rename_i ty aB eo;rw[eo] at aV;obtain⟨k',v,h1,h2,h3⟩:=aV;rw[eA] at h1;cases h1;cases hc:(!ag&&ty.one&&Nat.beq off 0)<;>simp only[hc,cond_true,cond_false] at hr
   ·cases hr
   cases hr;simp only[ak,gd] at hc;have iS:=ay hc.2;subst iS;have vQ:(loadVar T ⟨k,0,none⟩).run C.P w=.ok v w:=by
        have:=h.cell (h3 0 v (by simp[(h2.oneCell hc.1.2).1]));rw[hc.1.1] at ha;simp[loadVar,tZ ha,run_load,this]
   exact .dat (uG ho fw vQ) h2
  ·cases hr
 ·
  rename_i j ver size off es;rw[es] at eu;cases hb:Nat.beq ver (S.ver j)<;>simp only[hb,cond_true,cond_false] at hr
  ·cases hr
  have dH:=ay hb;obtain⟨k,n,c,ik,i,eA,tI,bD,fw⟩:=eu.2 dH;have aV:=h.objs j;split at hr
  ·rename_i T' ts eo;rw[eo] at aV;obtain⟨cells,xs,h1,h2,⟨vs,h3,h4⟩,h5⟩:=aV;cases aJ:Nat.beq size ts.length<;>simp only[aJ,cond_true,cond_false] at hr
   ·cases hr
   have qs:=ay aJ;simp only[az] at hr;obtain⟨ty,aZ,rfl⟩:=hr;rw[eA] at h2;have aW:=h2.cells (g:=k) rfl;obtain⟨b,c',e1,Cv,Cw⟩:=wH h2;cases e1;obtain⟨y,hy⟩:∃y,xs[i]?=some y:=⟨_,bA bD⟩
   have HF:=h3 i y hy;obtain⟨us,ds,tV,hd,l1,l2,aO,dp⟩:=HF.agg_inv;obtain⟨bM,hlen,kT⟩:=Iw aZ l1 l2 aO dp;have aij:(PE.nth (.o j) (qM x)).ev ρ=.agg ds:=by
        simp only[PE.ev,h1,D.l_list,tI,D.i_int,sR];rw[rL hy,hd]
   refine .dat (uG ho fw (Jr hi ha hlen (fun e=>by rw[hlen];exact kT e) (fun m u hu=>?_))) (by rw[Iv aij];exact bM);simp only[fj,fJ] at hu;split at hu
   ·have:=h4 i (off+m) u (by omega) (by rw[tV];simpa [Value.cells] using hu);have:=aW _ _ this;rw[rq] at this;simpa [Ty.size,qs,uZ] using this
   ·cases hu
  ·rename_i T' e aB eo;rw[eo] at aV;obtain⟨cells,xs,h1,h2,⟨vs,h3,h4⟩,h5⟩:=aV;cases hc:(!ag&&e.one&&Nat.beq off 0&&Nat.beq size 1)<;>simp only[hc,cond_true,cond_false] at hr
   ·cases hr
   cases hr;simp only[ak,gd] at hc;have iS:=ay hc.1.2;have aJ:=ay hc.2;subst iS;subst aJ;rw[eA] at h2;have aW:=h2.cells (g:=k) rfl;obtain⟨b,c',e1,Cv,Cw⟩:=wH h2;cases e1;obtain⟨y,hy⟩:∃y,xs[i]?=some y:=⟨_,bA bD⟩
   have HF:=h3 i y hy;have vQ:(loadVar T ⟨k,i*1+0,none⟩).run C.P w=.ok (vs i) w:=by
        have h6:=h4 i 0 (vs i) bD (by simp[(HF.oneCell hc.1.1.2).1]);have:=aW _ _ h6;rw[rq] at this;have Cf:e.size=1:=by cases e<;>simp_all [Ty.size,Ty.one]
        rw[hc.1.1.1] at ha;rw[Cf] at this;simp only[gz,hG,Nat.mul_one] at this;simp[loadVar,tZ ha,run_load,this]
   refine .dat (uG ho fw vQ) ?_;simp only[PE.ev,h1,D.l_list,tI,D.i_int,sR];rw[rL hy];exact HF
  ·cases hr
 ·simp only[au] at hr;obtain⟨p,hp,hr⟩:=hr;have aS:=cg h hC hg hp;split at hr
  ·rename_i ty e1;rw[e1] at aS;cases hc:(Nat.beq inf.size ty.size&&(ag==ty.rowT))<;>simp only[hc,cond_true,cond_false] at hr
   ·cases hr
   cases hr;simp only[ak] at hc;exact ama h hi ha ho aS hc.1 hc.2
  ·cases hr
end
end Cx
namespace Cx
open Go Go.RowKit
section
variable {C:Ctx} {S:St} {ρ:Env} {σ:Im} {own:Nat→Option Nat} {hv:Nat→Value} {w0:World} {σ0:Base} {A:Nat→Prop} {a:Act} {w:World} {gs:List (Nat×Bool)} {Φ:aP} {dst:Nat}
theorem qQ (h:Inv C S ρ σ own hv w0 σ0 A a w)(hg:holds gs ρ=true)(x:Operand):aH C S ρ σ hv (ff S gs x) (a.eval x) ((qM x).ev ρ)∧∀bI s,ff S gs x≠.opt bI s:=by
 cases x with
 |tmp t=>exact m0 h hg t
 |_=>exact⟨trivial,fun _ _ e=>by cases e⟩
theorem US {P:Program}{T:TypeId}{i:Nat}{f:Field}(h:BO P T i=some f):∃fs,P.underlying T=some (.struct fs)∧fs[i]?=some f:=by
 unfold BO at h;split at h
 ·rename_i fs hu;exact⟨fs,hu,h⟩
 ·cases h
theorem Qu {o:Oper}{T:TypeId}{x:Operand}{i:Nat}{f:Field}{inf:TypeInfo}{k off:Nat}(ho:o.op=.fieldAddr T x i)(hf:BO C.P T i=some f)(hi:C.P.info? f.type=some inf)(hn:Nat.beq inf.size 0=false)
 (hx:a.eval x=.pointer (some ⟨k,off,none⟩)):(execOp a.eval o).run C.P w=.ok (.value (.pointer (some ⟨k,off+f.offset,none⟩))) w:=by
 obtain⟨fs,hu,vJ⟩:=US hf;have jy:inf.size≠0:=by intro e;simp[e] at hn
 simp[execOp,ho,Instr.fieldAt,run_underlying hu,vJ,hx,Instr.sureAddr,fieldPlace,Go.sizeOf,run_typeInfo w hi,jy,rq]
theorem alX (h:Inv C S ρ σ own hv w0 σ0 A a w)(hC:CtxOK C σ0)(hg:holds gs ρ=true){T:TypeId}{x:Operand}{i:Nat}{r:Sh×List PI}(hr:zK C S gs dst T x i=some r){o:Oper}(ho:o.op=.fieldAddr T x i):
 dX C S ρ σ hv Φ dst a w o r:=by
 simp only[zK,au] at hr;obtain⟨f,hf,hr⟩:=hr;obtain⟨eu,dZ⟩:=qQ h hg x;split at hr
 case h_2=>cases hr
 rename_i inf ag hi ha;cases hn:Nat.beq inf.size 0<;>simp only[hn,cond_true,cond_false] at hr
 case true=>cases hr
 split at hr
 ·rename_i j ver size off es;cases hb:Nat.beq ver (S.ver j)<;>simp only[hb,cond_true,cond_false] at hr
  ·cases hr
  cases hr;rw[es] at eu;intro ρ' ah;obtain⟨k,n,c,ik,idx,eA,tI,bD,fw⟩:=eu.2 (ay hb);exact⟨_,_,uH ah,Qu ho hf hi hn fw,⟨eu.1,fun _=>⟨k,n,c,ik,idx,eA,tI,bD,by rw[uZ]⟩⟩,fun _ _ e=>by cases e⟩
 ·split at hr
  ·rename_i ts e hu;have aS:=cg h hC hg hu;simp only[az] at hr;obtain⟨ty,aZ,rfl⟩:=hr;obtain⟨k,off,v,y,aQ,bj,bM,ic⟩:=Rep.ref_inv aS;obtain⟨vs,ds,rfl,rfl,l1,l2,aO,dp⟩:=bM.agg_inv;obtain⟨nC,hlen,kT⟩:=Iw aZ l1 l2 aO dp;refine .dat (Qu ho hf hi hn aQ) ?_;have hde:(PE.deref e).ev ρ=.agg ds:=by simp only[PE.ev,bj,D.deref]
   simp only[PE.ev];rw[Iv hde];refine .ref ty k (off+f.offset) _ _ nC (fun j u hu=>?_);have kF:((vs.drop f.offset).take inf.size)[j]?=some u:=by
        cases ag with
        |true=>simpa [rowOf,Value.cells] using hu
        |false=>
         have:=kT rfl;rw[this] at hlen ⊢;obtain⟨q,hq⟩:∃q,(vs.drop f.offset).take 1=[q]:=by
          match(vs.drop f.offset).take 1,hlen with
          |[q],_=>exact⟨q,rfl⟩
         rw[this] at nC hu;rw[hq] at nC hu ⊢;simp only[rowOf,sS] at nC hu;have tS:ty.rowT=false:=by
          unfold um at aZ;cases hle:Nat.ble (f.offset+inf.size) ts.length<;>simp only[hle,cond_true,cond_false] at aZ
          ·cases aZ
          ·cases hb:Nat.beq inf.size 1<;>simp only[hb,cond_true,cond_false] at aZ
           ·cases aZ
           ·have:=dp _ _ aZ;cases ty<;>simp_all [Ty.one,Ty.rowT]
         rw[nC.cells1 tS] at hu;simpa using hu
   simp only[fj,fJ] at kF;split at kF
   ·have:=ic (f.offset+j) u (by simpa [Value.cells] using kF)
    rwa [←uZ] at this
   ·cases kF
  ·split at hr
   ·rename_i j ver off es;cases hb:Nat.beq ver (S.ver j)<;>simp only[hb,cond_true,cond_false] at hr
    ·cases hr
    cases hr;rw[es] at eu;intro ρ' ah;obtain⟨k,eA,fw⟩:=eu.2 (ay hb);exact⟨_,_,uH ah,Qu ho hf hi hn fw,⟨eu.1,fun _=>⟨k,eA,rfl⟩⟩,fun _ _ e=>by cases e⟩
   ·cases hr
theorem alZ (h:Inv C S ρ σ own hv w0 σ0 A a w)(hC:CtxOK C σ0)(hg:holds gs ρ=true){T:TypeId}{x:Operand}{i:Nat}{r:Sh×List PI}(hr:zJ C S gs dst T x i=some r){o:Oper}(ho:o.op=.field T x i):
 dX C S ρ σ hv Φ dst a w o r:=by
 simp only[zJ,au] at hr;obtain⟨f,hf,hr⟩:=hr;split at hr
 case h_2=>cases hr
 rename_i inf ag hi ha;split at hr
 case h_2=>cases hr
 rename_i ts e hu;have aS:=cg h hC hg hu;simp only[az] at hr;obtain⟨ty,aZ,rfl⟩:=hr;obtain⟨vs,ds,aQ,bj,l1,l2,aO,dp⟩:=Rep.agg_inv aS;obtain⟨nC,hlen,kT⟩:=Iw aZ l1 l2 aO dp;obtain⟨fs,kF,vJ⟩:=US hf;have hle:f.offset+inf.size≤ts.length:=by
  unfold um at aZ;cases hle:Nat.ble (f.offset+inf.size) ts.length<;>simp only[hle,cond_true,cond_false] at aZ
  ·cases aZ
  ·exact ji hle
 refine .dat (v:=rowOf ag ((vs.drop f.offset).take inf.size)) ?_ (by rw[Iv bj];exact nC);cases ag with
 |true=>
  simp only[execOp,ho,Instr.field,aQ,asAgg,part];simp[run_underlying kF,vJ,tZ ha,Go.sizeOf,run_typeInfo w hi,rowOf]
 |false=>
  have hn:=kT rfl;have af:f.offset<vs.length:=by omega
  simp only[execOp,ho,Instr.field,aQ,asAgg,part];simp[run_underlying kF,vJ,tZ ha,rowOf,hn,bA af,aK,fj,fJ]
theorem aa2 {o:Oper}{T e:TypeId}{x i:Operand}{inf:TypeInfo}{k off n c idx:Nat}{ik:IntKind}(ho:o.op=.indexAddr T x i)(hT:C.P.underlying T=some (.slice e))(hi:C.P.info? e=some inf)
 (hx:a.eval x=.slice (some ⟨k,off,none⟩) n c) (ahM:a.eval i=.int ik idx) (af:idx<n):(execOp a.eval o).run C.P w=.ok (.value (.pointer (some ⟨k,off+idx*inf.size,none⟩))) w:=by
 simp[execOp,ho,Instr.indexAt,run_underlying hT,hx,ahM,asIntOf,af,Go.sizeOf,run_typeInfo w hi,rq]
theorem Jw {P:Program}{T:TypeId}{t:Ty}(h:qT P T t=true):∃inf,P.info? T=some inf∧inf.size=t.size:=by
 unfold qT at h;split at h
 ·rename_i i hi;exact⟨i,hi,ay h⟩
 ·cases h
theorem al4 (h:Inv C S ρ σ own hv w0 σ0 A a w)(hC:CtxOK C σ0)(hg:holds gs ρ=true){T:TypeId}{x i:Operand}{r:Sh×List PI}(hr:zN C S gs dst T x i=some r){o:Oper}(ho:o.op=.indexAddr T x i):
 dX C S ρ σ hv Φ dst a w o r:=by
 unfold zN at hr;split at hr
 case h_2=>cases hr
 rename_i e hT;simp only[au] at hr;obtain⟨p,hp,hr⟩:=hr;have aS:=cg h hC hg hp;split at hr
 case h_2=>cases hr
 rename_i ik e1;rw[e1] at aS;obtain⟨idx,aQ,bj,b1,b2⟩:=aS.int_inv;split at hr
 ·rename_i t pe hu;have da:=cg h hC hg hu;cases aJ:qT C.P e t<;>simp only[aJ,cond_true,cond_false] at hr
  ·cases hr
  cases hr;obtain⟨inf,hi,hs⟩:=Jw aJ;obtain⟨xs,hd,y1⟩:=Rep.slice_inv da;refine .datc hg fun hc=>?_;simp only[PE.ev,hd,bj,D.l_list,D.i_int,D.b_bool,decide_eq_true_eq] at hc;rcases y1 with⟨_,rfl⟩|⟨k,off,c,tW,h1,h2,vs,h3,h4⟩
  ·simp at hc;omega
  ·obtain⟨m,rfl⟩:=q9 hc.1;have af:m<xs.length:=by omega
   refine⟨_,aa2 ho hT hi tW aQ af,?_⟩;obtain⟨y,hy⟩:∃y,xs[m]?=some y:=⟨_,bA af⟩
   simp only[PE.ev,hd,bj,D.l_list,D.i_int,sR,rL hy];exact .ref t.unf k _ (vs m) y (h3 m y hy) (fun j u hu=>by rw[hs];exact h4 m j u af hu)
 ·cases hr
 ·obtain⟨eu,dZ⟩:=qQ h hg x;split at hr
  ·rename_i j ver es;rw[es] at eu;cases hb:Nat.beq ver (S.ver j)<;>simp only[hb,cond_true,cond_false] at hr
   ·cases hr
   have dH:=ay hb;have aV:=h.objs j;have bZ:=eu.2 dH;split at hr
   ·rename_i T' t eo;rw[eo] at aV;cases aJ:qT C.P e t<;>simp only[aJ,cond_true,cond_false] at hr
    ·cases hr
    cases hr;obtain⟨inf,hi,hs⟩:=Jw aJ;obtain⟨cells,xs,h1,h2,⟨vs,h3,h4⟩,h5⟩:=aV;intro ρ' ah;obtain⟨hc,hρ⟩:=Qv hg ah;simp only[PE.ev,h1,bj,D.l_list,D.i_int,D.b_bool,decide_eq_true_eq] at hc;obtain⟨m,rfl⟩:=q9 hc.1;have af:m<xs.length:=by omega
    rcases h2.2 with⟨_,e0⟩|⟨g,cap,cur,eA,_⟩
    ·omega
    ·refine⟨_,_,hρ,aa2 ho hT hi (bZ.trans eA) aQ af,⟨by omega,fun _=>⟨g,xs.length,cap,ik,m,eA,bj,af,?_⟩⟩,fun _ _ e=>by cases e⟩;rw[hs];simp
   ·cases hr
  ·cases hr
theorem al6 (h:Inv C S ρ σ own hv w0 σ0 A a w)(hC:CtxOK C σ0)(hg:holds gs ρ=true){T:TypeId}{x i:Operand}{r:Sh×List PI}(hr:zM C S gs dst T x i=some r){o:Oper}(ho:o.op=.index T x i):
 dX C S ρ σ hv Φ dst a w o r:=by
 unfold zM at hr;split at hr
 case h_2=>cases hr
 rename_i hT;simp only[au] at hr;obtain⟨p,hp,q,hq,hr⟩:=hr;have aS:=cg h hC hg hp;have dx:=cg h hC hg hq;split at hr
 case h_2=>cases hr
 rename_i ik e1 e2;rw[e1] at aS;rw[e2] at dx;obtain⟨idx,aQ,bj,b1,b2⟩:=aS.int_inv;obtain⟨s,gT,dN,_⟩:=dx.str_inv;cases hr;refine .datc hg fun hc=>?_;simp only[PE.ev,dN,bj,D.s_str,D.i_int,D.b_bool,decide_eq_true_eq] at hc;obtain⟨m,rfl⟩:=q9 hc.1;have af:m<s.size:=by omega
 refine⟨.int .u8 (s.data.getD m 0).toNat,?_,?_⟩
 ·have:s[m]?=some (s.data.getD m 0):=by
   rw[getElem?_pos s m af];simp[ByteArray.getElem_eq_getElem_data,dL,fi (show m<s.data.size from af)]
  simp[execOp,ho,Instr.index,run_underlying hT,aQ,gT,asIntOf,this]
 ·simp only[PE.ev,dN,bj,D.s_str,D.i_int,sR];refine .int _ _ ?_ ?_
  ·simp only[IntKind.min,IntKind.signed];simp
  ·simp only[IntKind.max,IntKind.signed,IntKind.bits];have:=UInt8.toNat_lt (s.data.getD m 0);simp at this ⊢;omega
end
end Cx
namespace Cx
open Go Go.RowKit
section
variable {C:Ctx} {S:St} {ρ:Env} {σ:Im} {own:Nat→Option Nat} {hv:Nat→Value} {w0:World} {σ0:Base} {A:Nat→Prop} {a:Act} {w:World} {gs:List (Nat×Bool)} {Φ:aP} {dst:Nat}
theorem aqZ (h:Inv C S ρ σ own hv w0 σ0 A a w)(hC:CtxOK C σ0)(hg:holds gs ρ=true){lo:Option Operand}{l:Ty×PE}{k:IntKind}(hl:EM C S gs lo=some l)(hk:l.1=.int k):
 ∃n,l.2.ev ρ=.v (.int k n)∧((lo=none∧n=0)∨∃x,lo=some x∧a.eval x=.int k n):=by
 cases lo with
 |none=>simp[EM] at hl;subst hl;simp at hk;subst hk;exact⟨0,rfl,.inl ⟨rfl,rfl⟩⟩
 |some x=>
  have:=cg h hC hg hl;rw[hk] at this;obtain⟨n,h1,h2,_⟩:=this.int_inv;exact⟨n,h2,.inr ⟨x,rfl,h1⟩⟩
theorem aqX (h:Inv C S ρ σ own hv w0 σ0 A a w)(hC:CtxOK C σ0)(hg:holds gs ρ=true){e:PE}{hi:Option Operand}{l:Ty×PE}{k:IntKind}(hl:EL C S gs e hi=some l)(hk:l.1=.int k):
 ∃n,l.2.ev ρ=.v (.int k n)∧((hi=none∧n=(e.ev ρ).l.length)∨∃x,hi=some x∧a.eval x=.int k n):=by
 cases hi with
 |none=>simp[EL] at hl;subst hl;simp at hk;subst hk;exact⟨_,rfl,.inl ⟨rfl,rfl⟩⟩
 |some x=>
  have:=cg h hC hg hl;rw[hk] at this;obtain⟨n,h1,h2,_⟩:=this.int_inv;exact⟨n,h2,.inr ⟨x,rfl,h1⟩⟩
theorem run_sliceBound {P:Program}{x:Value}{y i:Nat}{k:IntKind}{code:BoundsCode}{w:World}(hx:x=.int k i)(h:i≤y):(Instr.sliceBound x y code).run P w=.ok i w:=by
 subst hx;simp[Instr.sliceBound,asIntOf,h]
theorem amj (h:Inv C S ρ σ own hv w0 σ0 A a w)(hC:CtxOK C σ0)(hg:holds gs ρ=true){T:TypeId}{x:Operand}{lo hi mx:Option Operand}{r:Sh×List PI}(hr:zS C S gs dst T x lo hi mx=some r){o:Oper}(ho:o.op=.slice T x lo hi mx):
 dX C S ρ σ hv Φ dst a w o r:=by
 unfold zS at hr;split at hr
 case h_3=>cases hr
 case h_2=>
  rename_i n e hT;split at hr
  case h_2=>cases hr
  simp only[au] at hr;obtain⟨p,hp,hr⟩:=hr;have aS:=cg h hC hg hp;split at hr
  case h_2=>cases hr
  rename_i t ts e1;cases hc:(Nat.beq n (ts.length+1)&&ts.all (Ty.beq t)&&t.one&&qT C.P e t&&Nat.ble n maxLen)<;>simp only[hc,cond_true,cond_false] at hr
  ·cases hr
  cases hr;simp only[ak] at hc;obtain⟨⟨⟨⟨c1,c2⟩,c3⟩,c4⟩,c5⟩:=hc;have hn:=ay c1;have hm:=ji c5;obtain⟨inf,nw,hs⟩:=Jw c4;rw[e1] at aS;obtain⟨k,off,x0,y,tW,hd,hr0,ic⟩:=aS.ref_inv;obtain⟨vs,ds,rfl,rfl,l1,l2,iP,_⟩:=hr0.agg_inv
  have aO:∀(i:Nat),i<n→(t::ts)[i]?=some t:=fun i hi=>by
   cases i with
   |zero=>rfl
   |succ i=>
    have af:i<ts.length:=by omega
    rw[EX,bA af];rw[Ty.beq_eq _ _ (bE.1 c2 _ (dA af))]
  have Mr:vs.length=n:=by rw[l1,hn];rfl
  have V0:ds.length=n:=by rw[l2,hn];rfl
  have dp:t.size=1:=by cases t<;>simp_all [Ty.one,Ty.size]
  refine dX.dat (v:=.slice (some ⟨k,off,none⟩) n n) ?_ ?_
  ·have:Addr.add ⟨k,off,none⟩ 0=⟨k,off,none⟩:=by simp[Addr.add]
   simp[execOp,ho,Instr.sliceAt,run_underlying hT,tW,Instr.sureAddr,Instr.sliceBounds,Go.sizeOf,run_typeInfo w nw,this]
  ·have ah2:(PE.lst ((List.range n).map fun i=>.cell (.deref p.2) i)).ev ρ=.list ds:=by
        simp only[PE.ev]
        congr 1
        have bH:∀l:List PE,PE.evs ρ l=l.map fun e=>e.ev ρ:=fun l=>by induction l with|nil=>rfl|cons e l ih=>simp[PE.evs,ih]
        rw[bH,J2];apply Tz;intro i;rw[cw];by_cases hi:i<n
        ·rw[pQ hi,bA (by omega)];simp only[jO,Function.comp,PE.ev,hd,D.deref,D.c,D.cells];rw[aK,bA (by omega)];rfl
        ·rw[re (by simp;omega),re (by omega)];rfl
   rw[ah2];refine .slice t k off n n ds (fun i=>vs.getD i undef) V0 (bf _) hm (fun i x hx=>?_) (fun i j u hi hu=>?_)
   ·have af:i<n:=by rw[←V0];exact(eh.1 hx).1
    have:=iP i t (aO i af);rw[rL hx] at this;exact this.unf
   ·have h1:=(iP i t (aO i hi)).oneCell c3;rw[h1.1] at hu;cases j with
    |zero=>
     simp at hu;have:=ic i (vs.getD i undef) (by
      simp only[Value.cells];rw[EY,bA (by omega),aK,bA (by omega)];rfl)
     rw[dp,←hu];simpa using this
    |succ j=>simp at hu
 rename_i e hT;simp only[au] at hr;obtain⟨p,hp,hr⟩:=hr;have aS:=cg h hC hg hp;split at hr
 case h_2=>cases hr
 rename_i t e1;rw[e1] at aS;simp only[au] at hr;obtain⟨l,hl,u,hu,hr⟩:=hr;split at hr
 case h_2=>cases hr
 rename_i k1 k2 e2 e3;cases aJ:qT C.P e t<;>simp only[aJ,cond_true,cond_false] at hr
 ·cases hr
 cases hr;obtain⟨inf,nw,hs⟩:=Jw aJ;obtain⟨n1,bj,vP⟩:=aqZ h hC hg hl e2;obtain⟨n2,dN,Mn⟩:=aqX h hC hg hu e3;obtain⟨xs,hd,y1⟩:=Rep.slice_inv aS;refine .datc hg fun hc=>?_;simp only[PE.ev,hd,bj,dN,D.l_list,D.i_int,D.b_bool,decide_eq_true_eq] at hc;obtain⟨m1,rfl⟩:=q9 hc.1;obtain⟨m2,rfl⟩:=q9 (show 0≤n2 by omega);have LR:m1≤m2:=by omega
 have h2l:m2≤xs.length:=by omega
 have VD:∀c,xs.length≤c→(Instr.sliceBounds true xs.length c (lo.map a.eval) (hi.map a.eval) none).run C.P w=.ok (m1,m2,c) w:=by
  intro c ib
  have hh:∀code,(match hi.map a.eval with|some v=>Instr.sliceBound v c code|none=>(pure xs.length:Sem Nat)).run C.P w=.ok m2 w:=by
   intro code;rcases Mn with⟨rfl,e⟩|⟨y,rfl,e⟩
   ·rw[hd,D.l_list] at e;simp;omega
   ·simp only[jO];exact run_sliceBound e (by omega)
  have Mq:∀code,(match lo.map a.eval with|some v=>Instr.sliceBound v m2 code|none=>(pure 0:Sem Nat)).run C.P w=.ok m1 w:=by
   intro code;rcases vP with⟨rfl,e⟩|⟨y,rfl,e⟩
   ·simp;omega
   ·simp only[jO];exact run_sliceBound e LR
  have Hg:=hh .sliceAcap;have V2:=Mq .sliceB;unfold Instr.sliceBounds;cases hi<;>cases lo<;>simp at Hg V2 ⊢<;>simp[Hg,V2]
 rcases y1 with⟨⟨p0,tW⟩,rfl⟩|⟨k,off,c,tW,h1,h2,vs,h3,h4⟩
 ·have:m2=0:=by simpa using h2l
  have:m1=0:=by omega
  subst_vars
  refine⟨.slice p0 0 0,?_,?_⟩
  ·have hb:=VD 0 (bf _);simp only[xn] at hb;cases p0 with
   |none=>simp[execOp,ho,Instr.sliceAt,Instr.slice,run_underlying hT,tW,hb,Go.sizeOf,run_typeInfo w nw]
   |some a0=>simp[execOp,ho,Instr.sliceAt,Instr.slice,run_underlying hT,tW,hb,Go.sizeOf,run_typeInfo w nw]
  ·simp only[PE.ev,hd,bj,dN,D.l_list,D.i_int];cases p0 with
   |none=>exact .nil t
   |some a0=>exact .emp t a0
 ·refine⟨.slice (some (if c=m1 then⟨k,off,none⟩ else⟨k,off+m1*inf.size,none⟩)) (m2-m1) (c-m1),?_,?_⟩
  ·have hb:=VD c h1;simp only[execOp,ho,Option.map_none,Instr.sliceAt,run_underlying hT,tW];simp[run_underlying hT,Instr.slice,hb,Go.sizeOf,run_typeInfo w nw,rq];split<;>simp
  ·simp only[PE.ev,hd,bj,dN,D.l_list,D.i_int,sR];have hlen:((xs.take m2).drop m1).length=m2-m1:=by simp;omega
   have iP:∀(i:Nat) (y:D),((xs.take m2).drop m1)[i]?=some y→xs[m1+i]?=some y:=by
        intro i y hy;simp only[fJ,fj] at hy;split at hy
        ·exact hy
        ·cases hy
   have ic:∀(i j:Nat) (v:Value),i<m2-m1→(vs (m1+i)).cells[j]?=some v→σ.c k (off+m1*inf.size+i*t.size+j)=some v:=by
        intro i j v hi hj;have:=h4 (m1+i) j v (by omega) hj;rw[om] at this;rw[hs]
        rwa [←uZ] at this
   split
   ·rename_i nu;refine .slice t k off (m2-m1) (c-m1) _ (fun i=>vs (m1+i)) hlen (by omega) (by omega) (fun i y hy=>h3 _ _ (iP i y hy)) (fun i j v hi hj=>by omega)
   ·exact .slice t k (off+m1*inf.size) (m2-m1) (c-m1) _ (fun i=>vs (m1+i)) hlen (by omega) (by omega) (fun i y hy=>h3 _ _ (iP i y hy)) ic
theorem abL (h:Inv C S ρ σ own hv w0 σ0 A a w)(hC:CtxOK C σ0)(hg:holds gs ρ=true):∀(xs:List Operand) (r:List Ty×List PE),kf C S gs xs=some r→
 r.1.length=xs.length∧r.2.length=xs.length∧∀(i:Nat) (t:Ty),r.1[i]?=some t→Rep C.cap σ t ((xs.map a.eval).getD i undef) ((PE.evs ρ r.2).getD i .none):=by
 intro xs
 induction xs with
 |nil=>intro r hr;simp[kf] at hr;subst hr;exact⟨rfl,rfl,by simp⟩
 |cons x xs ih=>
  intro r hr;simp only[kf,au,az] at hr;obtain⟨p,hp,q,hq,rfl⟩:=hr;obtain⟨l1,l2,aO⟩:=ih q hq;refine⟨by simp[l1],by simp[l2],fun i t hi=>?_⟩;cases i with
  |zero=>simp at hi;subst hi;simpa [PE.evs] using cg h hC hg hp
  |succ i=>simp at hi;simpa [PE.evs] using aO i t hi
theorem al0 (h:Inv C S ρ σ own hv w0 σ0 A a w)(hC:CtxOK C σ0)(hg:holds gs ρ=true){fn:Fn}{first caps:Array Operand}{r:Sh×List PI}(hr:OG C S gs dst fn first caps=some r){o:Oper}(ho:o.op=.makeFunc fn first caps):
 dX C S ρ σ hv Φ dst a w o r:=by
 unfold OG at hr;split at hr
 case h_2=>cases hr
 rename_i f Cj;have Cg:first=#[]:=by simpa using Cj
 subst Cg;simp only[au] at hr;obtain⟨cs,dE,p,hp,hr⟩:=hr;cases hb:Ty.subs p.1 cs.caps<;>simp only[hb,cond_true,cond_false] at hr
 ·cases hr
 cases hr;obtain⟨l1,l2,aO⟩:=abL h hC hg _ _ hp;have hl:=Ty.subs_len _ _ hb;refine .dat (v:=.func (.func f) #[] (caps.map a.eval)) ?_ ?_
 ·simp[execOp,ho,Instr.makeFunc]
 ·simp only[PE.ev];have:caps.map a.eval=(caps.toList.map a.eval).toArray:=by apply qZ;rw[uV]
  rw[this];have e1:(caps.toList.map a.eval).length=cs.caps.length:=by rw[gw];omega
  have e2:(PE.evs ρ p.2).length=cs.caps.length:=by rw[PE.evs_eq,gw];omega
  refine .fn f cs _ _ dE e1 e2 (fun i t hi=>?_);obtain⟨s,hs,cn⟩:=Ty.subs_get _ _ hb i t hi;exact(aO i s hs).sub cn
theorem ame (h:Inv C S ρ σ own hv w0 σ0 A a w)(hC:CtxOK C σ0)(hg:holds gs ρ=true){x:Operand}{r:Sh×List PI}(hr:zQ C S gs dst x=some r){o:Oper}(ho:o.op=.nilCheck x):
 dX C S ρ σ hv Φ dst a w o r:=by
 have ah:∀k off,a.eval x=.pointer (some ⟨k,off,none⟩)→(execOp a.eval o).run C.P w=.ok (.value (a.eval x)) w:=by
  intro k off e;simp[execOp,ho,e]
 unfold zQ at hr;split at hr
 ·rename_i t e hu;cases hr;have aS:=cg h hC hg hu;obtain⟨k,off,v,y,aQ,bj,bM,ic⟩:=Rep.ref_inv aS;exact .dat (ah k off aQ) aS
 ·split at hr
  ·rename_i t _;obtain⟨hs,dZ⟩:=m0 h hg t;split at hr
   ·rename_i j ver off es;rw[es] at hs;cases hb:Nat.beq ver (S.ver j)<;>simp only[hb,cond_true,cond_false] at hr
    ·cases hr
    cases hr;obtain⟨k,eA,fw⟩:=hs.2 (ay hb);intro ρ' CO;exact⟨_,_,uH CO,ah k off fw,hs,fun _ _ e=>by cases e⟩
   ·rename_i j ver sz off es;rw[es] at hs;cases hb:Nat.beq ver (S.ver j)<;>simp only[hb,cond_true,cond_false] at hr
    ·cases hr
    cases hr;have eY:=hs;obtain⟨k,n,c,ik,i,eA,tI,bD,fw⟩:=hs.2 (ay hb);intro ρ' CO;exact⟨_,_,uH CO,ah _ _ fw,eY,fun _ _ e=>by cases e⟩
   ·cases hr
  ·cases hr
theorem abQ {cap:Nat→Option CSig}{t:Ty}{z:Ty×D}{v:Value}(h:pK t=some z)(hz:xe t v=true):Rep cap σ z.1 v z.2∧z.1.one=true∧Ty.sub z.1 t=true:=by
 unfold xe at hz;split at hz
 ·simp at hz;obtain⟨rfl,rfl⟩:=hz;simp[pK] at h;subst h;exact⟨.int _ 0 (by rename_i k;cases k<;>decide) (by rename_i k;cases k<;>decide),rfl,by simp[Ty.sub,Ty.beq]⟩
 ·simp at hz;subst hz;simp[pK] at h;subst h;exact⟨.bool false,rfl,rfl⟩
 ·rename_i s;have:s=ByteArray.empty:=by
   have:s.size=0:=by simpa using hz
   cases s with|mk d=>simp[ByteArray.size] at this;subst this;rfl
  subst this;simp[pK] at h;subst h;exact⟨.str _ (by decide),rfl,rfl⟩
 ·simp[pK] at h;subst h;exact⟨.nils _,rfl,rfl⟩
 ·simp[pK] at h;subst h;refine⟨.mapnil _ _,rfl,?_⟩;simp only[Ty.sub];exact Ty.beq_refl _
 ·simp[pK] at h;subst h;exact⟨.fnnil _ _,rfl,by simp only[Ty.sub];exact Ty.beq_refl _⟩
 ·cases hz
end
end Cx
namespace Cx
open Go Go.RowKit
theorem mapM_some {α β:Type}(f:α→Option β):∀(l:List α) (r:List β),l.mapM f=some r→r.length=l.length∧∀(i:Nat) (x:α),l[i]?=some x→∃y,r[i]?=some y∧f x=some y
 |[],r,h=>by simp at h;subst h;exact⟨rfl,by simp⟩
 |x::l,r,h=>by
  simp only[TE,Option.bind_eq_bind,au] at h;obtain⟨y,hy,ys,v8,h⟩:=h;cases h;obtain⟨h1,h2⟩:=mapM_some f l ys v8;refine⟨by simp[h1],fun i z hi=>?_⟩;cases i with
  |zero=>simp at hi;subst hi;exact⟨y,rfl,hy⟩
  |succ i=>simp at hi;simpa using h2 i z hi
theorem Th:∀(ts:List Ty) (vs:List Value),AM ts vs=true→vs.length=ts.length∧∀(i:Nat) (t:Ty),ts[i]?=some t→∃v,vs[i]?=some v∧xe t v=true
 |[],vs,h=>by cases vs<;>simp_all [AM]
 |t::ts,vs,h=>by
  cases vs with
  |nil=>simp[AM] at h
  |cons v vs=>
   simp only[AM,ak] at h;obtain⟨h1,h2⟩:=Th ts vs h.2;refine⟨by simp[h1],fun i u hi=>?_⟩;cases i with
   |zero=>simp at hi;subst hi;exact⟨v,rfl,h.1⟩
   |succ i=>simp at hi;simpa using h2 i u hi
theorem xf {cap:Nat→Option CSig}{σ:Im}{t:Ty}{z:Ty×D}{v:Value}(h:od t=some z)(hz:jf t v=true):Rep cap σ z.1 v z.2∧Ty.sub z.1 t=true∧z.1.one=t.one:=by
 cases t with
 |agg ts=>
  simp only[od,az] at h;obtain⟨zs,sd,rfl⟩:=h;cases v with
  |agg vs=>
   simp only[jf] at hz;obtain⟨l1,h1⟩:=Th ts vs.toList hz;obtain⟨l2,h2⟩:=mapM_some _ _ _ sd;have key:∀(i:Nat) (t:Ty),ts[i]?=some t→∃y v,zs[i]?=some y∧vs.toList[i]?=some v∧Rep cap σ y.1 v y.2∧y.1.one=true∧Ty.sub y.1 t=true:=by
      intro i t hi;obtain⟨y,hy,sc⟩:=h2 i t hi;obtain⟨v,hv,gT⟩:=h1 i t hi;obtain⟨g1,g2,g3⟩:=abQ (cap:=cap) (σ:=σ) sc gT;exact⟨y,v,hy,hv,g1,g2,g3⟩
   have bJ:∀(ts:List Ty) (zs:List (Ty×D)),zs.length=ts.length→(∀(i:Nat) (t:Ty),ts[i]?=some t→∃y,zs[i]?=some y∧Ty.sub y.1 t=true)→Ty.subs (zs.map (·.1)) ts=true:=by
      intro ts
      induction ts with
      |nil=>intro zs hl _;cases zs<;>simp_all [Ty.subs]
      |cons t ts ih=>
       intro zs hl hh;cases zs with
       |nil=>simp at hl
       |cons z zs=>
        simp only[gx,Ty.subs,ak];refine⟨?_,ih zs (by simpa using hl) fun i u hu=>by simpa using hh (i+1) u (by simpa using hu)⟩;obtain⟨y,hy,sc⟩:=hh 0 t rfl;simp at hy;subst hy;exact sc
   refine⟨?_,?_,rfl⟩
   ·have:vs=vs.toList.toArray:=by simp
    rw[this];refine .agg _ _ _ (by rw[gw];omega) (by simp) (fun i t hi=>?_) (fun i t hi=>?_)
    ·simp only[cw,az] at hi;obtain⟨q,hq,rfl⟩:=hi;obtain⟨t',CV⟩:∃t',ts[i]?=some t':=⟨_,bA (by have:=(eh.1 hq).1;omega)⟩
     obtain⟨y,v,hy,hv,g1,g2,g3⟩:=key i t' CV;rw[hq] at hy;cases hy;rw[rL hv,rL (show(zs.map (·.2))[i]?=some q.2 by simp[hq])];exact g1
    ·simp only[cw,az] at hi;obtain⟨q,hq,rfl⟩:=hi;obtain⟨t',CV⟩:∃t',ts[i]?=some t':=⟨_,bA (by have:=(eh.1 hq).1;omega)⟩
     obtain⟨y,v,hy,hv,g1,g2,g3⟩:=key i t' CV;rw[hq] at hy;cases hy;exact g2
   ·simp only[Ty.sub];exact bJ ts zs l2 fun i t hi=>by obtain⟨y,v,hy,hv,g1,g2,g3⟩:=key i t hi;exact⟨y,hy,g3⟩
  |_=>simp[jf] at hz
 |_=>
  obtain⟨g1,g2,g3⟩:=abQ (cap:=cap) (σ:=σ) (by simpa [od] using h) (by simpa [jf] using hz);exact⟨g1,g3,(Ty.sub_one _ _ g3).1⟩
theorem acX {a b:ByteArray}(h:(a==b)=true):a=b:=by
 cases a with|mk x=>cases b with|mk y=>
 have:(x==y)=true:=h;rw[eq_of_beq this]
theorem acY (a:ByteArray):(a==a)=true:=by
 cases a with|mk x=>
 show(x==x)=true;simp
theorem Nt {P:Program}{K:TypeId}{kt:Ty}(hk:l0 P K kt=true):
 (∃k k',kt=.int k∧P.underlying K=some (.int k'))∨(kt=.str∧P.underlying K=some .string)∨(kt=.bool∧P.underlying K=some .bool):=by
 unfold l0 at hk;split at hk
 ·split at hk
  ·exact .inl ⟨_,_,rfl,by assumption⟩
  ·cases hk
 ·split at hk
  ·exact .inr (.inl ⟨rfl,by assumption⟩)
  ·cases hk
 ·split at hk
  ·exact .inr (.inr ⟨rfl,by assumption⟩)
  ·cases hk
 ·cases hk
theorem ae2 {cap:Nat→Option CSig}{σ:Im}{P:Program}{K:TypeId}{kt:Ty}{desc:TypeDesc}(hk:l0 P K kt=true)(hu:P.underlying K=some desc){v:Value}{d:D}(hv:Rep cap σ kt v d):
 ∀(es:List MapEntry) (ds:List (D×D)) (i:Nat),ds.length=es.length→(∀(j:Nat) (e:MapEntry) (p:D×D),es[j]?=some e→ds[j]?=some p→Rep cap σ kt e.key p.1)→
  (Instr.findNow desc v es i=some none∧∀(j:Nat) (p:D×D),ds[j]?=some p→ec d p.1=false)∨
  ∃j e p,es[j]?=some e∧ds[j]?=some p∧Instr.findNow desc v es i=some (some (i+j,e.val))∧ec d p.1=true∧Instr.sameBits 10000 e.key v=true∧∀m q,m<j→ds[m]?=some q→ec d q.1=false:=by
 have dp:∀(v':Value) (d':D),Rep cap σ kt v' d'→Instr.sameNow desc v v'=some (ec d d')∧(ec d d'=true→Instr.sameBits 10000 v' v=true):=by
  intro v' d' h';rcases Nt hk with⟨k,k',rfl,kF⟩|⟨rfl,kF⟩|⟨rfl,kF⟩
  ·rw[hu] at kF;cases kF;obtain⟨n,rfl,rfl,_⟩:=hv.int_inv;obtain⟨m,rfl,rfl,_⟩:=h'.int_inv;refine⟨by simp[Instr.sameNow,ec,D.cells,qv,sf],fun e=>?_⟩;have:n=m:=by simpa [ec,D.cells,qv,sf] using e
   subst this;simp[Instr.sameBits]
  ·rw[hu] at kF;cases kF;obtain⟨n,rfl,rfl,_⟩:=hv.str_inv;obtain⟨m,rfl,rfl,_⟩:=h'.str_inv;refine⟨by simp[Instr.sameNow,ec,D.cells,qv,sf],fun e=>?_⟩;have:n=m:=acX (by simpa [ec,D.cells,qv,sf] using e);subst this;simpa [Instr.sameBits] using acY n
  ·rw[hu] at kF;cases kF;obtain⟨n,rfl,rfl⟩:=hv.bool_inv;obtain⟨m,rfl,rfl⟩:=h'.bool_inv;refine⟨by simp[Instr.sameNow,ec,D.cells,qv,sf],fun e=>?_⟩;have:n=m:=by simpa [ec,D.cells,qv,sf] using e
   subst this;simp[Instr.sameBits]
 intro es
 induction es with
 |nil=>intro ds i hl _;left;exact⟨rfl,by cases ds<;>simp_all⟩
 |cons e es ih=>
  intro ds i hl aO;cases ds with
  |nil=>simp at hl
  |cons p ds=>
   obtain⟨hs,hb⟩:=dp e.key p.1 (aO 0 e p rfl rfl);cases mI:ec d p.1 with
   |true=>
    right;rw[mI] at hs;exact⟨0,e,p,rfl,rfl,by simp[Instr.findNow,hs],mI,hb mI,fun m q hm=>by omega⟩
   |false=>
    rw[mI] at hs;rcases ih ds (i+1) (by simpa using hl) (fun j e' p' he hp=>aO (j+1) e' p' (by simpa using he) (by simpa using hp)) with⟨h1,h2⟩|⟨j,e',p',h1,h2,h3,h4,h5,h6⟩
    ·left;refine⟨by simp[Instr.findNow,hs,h1],fun j q hq=>?_⟩;cases j with
     |zero=>simp at hq;subst hq;exact mI
     |succ j=>exact h2 j q (by simpa using hq)
    ·right;refine⟨j+1,e',p',by simpa using h1,by simpa using h2,?_,h4,h5,fun m q hm hq=>?_⟩
     ·simp[Instr.findNow,hs,h3];omega
     ·cases m with
      |zero=>simp at hq;subst hq;exact mI
      |succ m=>exact h6 m q (by omega) (by simpa using hq)
theorem ND {d:D}:∀{ds:List (D×D)},(∀(j:Nat) (p:D×D),ds[j]?=some p→ec d p.1=false)→dI d ds=none
 |[],_=>rfl
 |p::ds,h=>by simp only[dI,h 0 p rfl];exact ND fun j q hq=>h (j+1) q (by simpa using hq)
theorem NF {d:D}:∀{ds:List (D×D)} {j:Nat} {p:D×D},ds[j]?=some p→ec d p.1=true→(∀(m:Nat) (q:D×D),m<j→ds[m]?=some q→ec d q.1=false)→dI d ds=some p.2
 |[],j,p,hp,_,_=>by simp at hp
 |x::ds,0,p,hp,hk,_=>by simp at hp;subst hp;simp[dI,hk]
 |x::ds,j+1,p,hp,hk,hm=>by
  simp only[dI,hm 0 x (by omega) rfl];exact NF (j:=j) (by simpa using hp) hk fun m q af hq=>hm (m+1) q (by omega) (by simpa using hq)
theorem OW {d v:D}:∀{ds:List (D×D)},(∀(j:Nat) (p:D×D),ds[j]?=some p→ec d p.1=false)→cQ d v ds=ds++[(d,v)]
 |[],_=>rfl
 |p::ds,h=>by simp only[cQ,h 0 p rfl,uW,if_false,EV];rw[OW fun j q hq=>h (j+1) q (by simpa using hq)]
theorem OX {d v:D}:∀{ds:List (D×D)} {j:Nat} {p:D×D},ds[j]?=some p→ec d p.1=true→(∀(m:Nat) (q:D×D),m<j→ds[m]?=some q→ec d q.1=false)→cQ d v ds=ds.set j (d,v)
 |[],j,p,hp,_,_=>by simp at hp
 |x::ds,0,p,hp,hk,_=>by simp at hp;subst hp;simp[cQ,hk]
 |x::ds,j+1,p,hp,hk,hm=>by
  simp only[cQ,hm 0 x (by omega) rfl,uW,if_false,List.set_cons_succ];rw[OX (j:=j) (by simpa using hp) hk fun m q af hq=>hm (m+1) q (by omega) (by simpa using hq)]
theorem WX {P:Program}{K:TypeId}{kt:Ty}(hk:zt P K kt=true):
 ∃k k' e q i,kt=.agg [.int k,.int k']∧P.underlying K=some (.array 2 e)∧P.underlying e=some (.int q)∧P.plainKey e=true∧P.info? e=some i∧P.cellsOf e=1:=by
 unfold zt at hk;split at hk
 case h_2=>cases hk
 rename_i k k';split at hk
 case h_2=>cases hk
 rename_i n e hu;simp only[ak] at hk;obtain⟨⟨⟨h1,h2⟩,h3⟩,h4⟩:=hk;have hn:=ay h1;subst hn;split at h2
 case h_2=>cases h2
 rename_i q hq;split at h4
 case h_2=>cases h4
 rename_i i hi;exact⟨k,k',e,q,i,rfl,hu,hq,h3,hi,ay h4⟩
theorem Rep.pair_inv {cap:Nat→Option CSig}{σ:Im}{k k':IntKind}{v:Value}{d:D}(h:Rep cap σ (.agg [.int k,.int k']) v d):∃a b,v=.agg #[.int k a,.int k' b]∧d=.agg [.v (.int k a),.v (.int k' b)]:=by
 generalize ht:Ty.agg [.int k,.int k']=t at h;cases h with
 |agg ts vs ds h1 h2 h ho=>
  cases ht;obtain⟨x,y,rfl⟩:∃x y,vs=[x,y]:=by
   match vs,h1 with
   |[x,y],_=>exact⟨x,y,rfl⟩
  obtain⟨p,q,rfl⟩:∃x y,ds=[x,y]:=by
   match ds,h2 with
   |[x,y],_=>exact⟨x,y,rfl⟩
  obtain⟨a,e1,e2,_⟩:=(h 0 _ rfl).int_inv;obtain⟨b,e3,e4,_⟩:=(h 1 _ rfl).int_inv;simp at e1 e2 e3 e4;subst e1 e2 e3 e4;exact⟨a,b,rfl,rfl⟩
 |_=>cases ht
theorem an3 {P:Program}{K e:TypeId}{q:IntKind}{i:TypeInfo}(hu:P.underlying K=some (.array 2 e))(hq:P.underlying e=some (.int q))(hp:P.plainKey e=true)(hi:P.info? e=some i)(hc:P.cellsOf e=1)(k k':IntKind)(a b c d:Int)(w:World):
 (Op.equal K (.agg #[.int k a,.int k' b]) (.agg #[.int k c,.int k' d])).run P w=.ok (a==c&&b==d) w:=by
 unfold Op.equal;show(Op.equalIn (9999+1) K _ _).run P w=_;rw[run_equalIn_array w 9999 _ _ hu hi,hc];have e0:List.range 2=[0,1]:=rfl;have p0:∀(x y:Value) (w:World),(part e #[x,y] 0).run P w=.ok x w:=fun x y w=>run_part_plain w hp rfl;have p1:∀(x y:Value) (w:World),(part e #[x,y] 1).run P w=.ok y w:=fun x y w=>run_part_plain w hp rfl;have q0:∀(k:IntKind) (a b:Int) (w:World),(Op.equalIn 9999 e (.int k a) (.int k b)).run P w=.ok (a==b) w:=fun k a b w=>run_equalIn_int w 9998 e k q a b hq;rw[e0];simp only[Op.eqItems,Sem.run_bind,Nat.zero_mul,Nat.one_mul,p0,p1,Result.andThen_ok,q0];cases a==c
 ·simp
 ·simp only[q7,uW,if_false,Sem.run_bind,p1,Result.andThen_ok,q0];cases b==d<;>simp
theorem WW {P:Program}{K:TypeId}{kt:Ty}(hk:ub P K kt=true):l0 P K kt=true∨zt P K kt=true:=by
 unfold ub at hk;simpa using hk
theorem adq {cap:Nat→Option CSig}{σ:Im}{P:Program}{K:TypeId}{kt:Ty}(hk:zt P K kt=true){v:Value}{d:D}(hv:Rep cap σ kt v d){w:World}{b:Bool}:(Instr.checkKey b 10000 K v).run P w=.ok () w:=by
 obtain⟨k,k',e,q,i,rfl,hu,hq,hp,hi,hc⟩:=WX hk;obtain⟨x,y,rfl,_⟩:=hv.pair_inv;have p0:∀(x y:Value) (w:World),(part e #[x,y] 0).run P w=.ok x w:=fun x y w=>run_part_plain w hp rfl;have p1:∀(x y:Value) (w:World),(part e #[x,y] 1).run P w=.ok y w:=fun x y w=>run_part_plain w hp rfl
 have c0:∀(m:Nat) (k:IntKind) (n:Int) (w:World),(Instr.checkKey b (m+1) e (.int k n)).run P w=.ok () w:=fun m k n w=>by
  simp[Instr.checkKey,run_underlying hq]
 have s0:∀w:World,(Go.sizeOf e).run P w=Result.ok 1 w:=fun w=>by rw[run_sizeOf w hi,hc]
 have main:∀m,(Instr.checkKey b (m+1+1) K (.agg #[.int k x,.int k' y])).run P w=.ok () w:=by
  intro m;rw[Instr.checkKey];simp only[Sem.run_bind,run_underlying hu,Result.andThen_ok,Std.Legacy.Range.forIn_eq_forIn_range',Std.Legacy.Range.size,Nat.sub_zero,Nat.add_one_sub_one,Nat.div_one];simp[List.range',s0,p0,p1,c0,Sem.run_bind,Result.andThen_ok]
 exact main 9998
theorem Uk {cap:Nat→Option CSig}{σ:Im}{P:Program}{K:TypeId}{kt:Ty}(hk:ub P K kt=true){v:Value}{d:D}(hv:Rep cap σ kt v d){w:World}{b:Bool}:(Instr.checkKey b 10000 K v).run P w=.ok () w:=by
 rcases WW hk with hk|hk
 case inr=>exact adq hk hv
 have:∀n,(Instr.checkKey b (n+1) K v).run P w=.ok () w:=by
  intro n;rcases Nt hk with⟨k,k',rfl,hu⟩|⟨rfl,hu⟩|⟨rfl,hu⟩<;>cases v<;>simp[Instr.checkKey,run_underlying hu]
 exact this 9999
section
variable {C:Ctx} {S:St} {ρ:Env} {σ:Im} {own:Nat→Option Nat} {hv:Nat→Value} {w0:World} {σ0:Base} {A:Nat→Prop} {a:Act} {w:World} {gs:List (Nat×Bool)} {Φ:aP} {dst:Nat}
theorem ajB {P:Program}{K:TypeId}{kt:Ty}(hk:l0 P K kt=true):∃desc,P.underlying K=some desc:=by
 rcases Nt hk with⟨k,k',rfl,hu⟩|⟨rfl,hu⟩|⟨rfl,hu⟩<;>exact⟨_,hu⟩
theorem an4 {cap:Nat→Option CSig}{P:Program}{K:TypeId}{kt et:Ty}(hk:zt P K kt=true){v:Value}{d:D}(hv:Rep cap σ kt v d)(arr:Array MapEntry)(ds:List (D×D))(hl:ds.length=arr.size)
 (aO:∀(j:Nat) (e:MapEntry) (p:D×D),arr[j]?=some e→ds[j]?=some p→Rep cap σ kt e.key p.1∧Rep cap σ et e.val p.2) (w:World):
 ((Instr.findKey K v arr.toList).run P w=.ok none w∧dI d ds=none∧∀u,cQ d u ds=ds++[(d,u)])∨
 ∃j e p,arr[j]?=some e∧ds[j]?=some p∧(Instr.findKey K v arr.toList).run P w=.ok (some (j,e.val)) w∧dI d ds=some p.2∧(∀u,cQ d u ds=ds.set j (d,u))∧Instr.sameBits 10000 e.key v=true:=by
 obtain⟨k,k',e,q,i,rfl,hu,hq,hp,hi,hc⟩:=WX hk;have dp:∀(v':Value) (d':D),Rep cap σ (.agg [.int k,.int k']) v' d'→(Op.equal K v v').run P w=.ok (ec d d') w∧(ec d d'=true→Instr.sameBits 10000 v' v=true)∧Instr.sameNow (.array 2 e) v v'=none:=by
  intro v' d' h';obtain⟨a,b,rfl,rfl⟩:=hv.pair_inv;obtain⟨a',b',rfl,rfl⟩:=h'.pair_inv;refine⟨?_,fun he=>?_,rfl⟩
  ·rw[an3 hu hq hp hi hc];simp[ec,D.cells,qv,sf]
  ·have:a=a'∧b=b':=by simpa [ec,D.cells,qv,sf] using he
   obtain⟨rfl,rfl⟩:=this;simp[Instr.sameBits]
 have ask:∀(es:List MapEntry) (ds:List (D×D)) (i:Nat),ds.length=es.length→(∀(j:Nat) (e:MapEntry) (p:D×D),es[j]?=some e→ds[j]?=some p→Rep cap σ (.agg [.int k,.int k']) e.key p.1)→
  ((Instr.findAsking K v es i).run P w=.ok none w∧∀(j:Nat) (p:D×D),ds[j]?=some p→ec d p.1=false)∨
  ∃j e p,es[j]?=some e∧ds[j]?=some p∧(Instr.findAsking K v es i).run P w=.ok (some (i+j,e.val)) w∧ec d p.1=true∧Instr.sameBits 10000 e.key v=true∧∀m q,m<j→ds[m]?=some q→ec d q.1=false:=by
  intro es
  induction es with
  |nil=>intro ds i hl _;left;exact⟨by simp[Instr.findAsking],by cases ds<;>simp_all⟩
  |cons en es ih=>
   intro ds i hl aO;cases ds with
   |nil=>simp at hl
   |cons p ds=>
    obtain⟨hs,hb,_⟩:=dp en.key p.1 (aO 0 en p rfl rfl);cases mI:ec d p.1 with
    |true=>
     right;rw[mI] at hs;exact⟨0,en,p,rfl,rfl,by simp[Instr.findAsking,hs],mI,hb mI,fun m q hm=>by omega⟩
    |false=>
     rw[mI] at hs;rcases ih ds (i+1) (by simpa using hl) (fun j e' p' he hp=>aO (j+1) e' p' (by simpa using he) (by simpa using hp)) with⟨h1,h2⟩|⟨j,e',p',h1,h2,h3,h4,h5,h6⟩
     ·left;refine⟨by simp[Instr.findAsking,hs,h1],fun j q hq=>?_⟩;cases j with
      |zero=>simp at hq;subst hq;exact mI
      |succ j=>exact h2 j q (by simpa using hq)
     ·right;refine⟨j+1,e',p',by simpa using h1,by simpa using h2,?_,h4,h5,fun m q hm hq=>?_⟩
      ·simp[Instr.findAsking,hs,h3];omega
      ·cases m with
       |zero=>simp at hq;subst hq;exact mI
       |succ m=>exact h6 m q (by omega) (by simpa using hq)
 have kB:(Instr.findKey K v arr.toList).run P w=(Instr.findAsking K v arr.toList 0).run P w:=by
  cases iQ:arr.toList with
  |nil=>simp[Instr.findKey,run_underlying hu,Instr.findNow,Instr.findAsking]
  |cons en es=>
   obtain⟨p,CI⟩:∃p,ds[0]?=some p:=by
        have:0<ds.length:=by rw[hl];have:=congrArg List.length iQ;simp at this;omega
        exact⟨_,bA this⟩
   have Mg:arr[0]?=some en:=by rw[←AN,iQ];rfl
   have:=(dp en.key p.1 (aO 0 en p Mg CI).1).2.2;simp[Instr.findKey,run_underlying hu,Instr.findNow,this]
 rw[kB];rcases ask arr.toList ds 0 (by simpa using hl) (fun j e p he hp=>(aO j e p (by simpa using he) hp).1) with⟨h1,h2⟩|⟨j,e,p,h1,h2,h3,h4,h5,h6⟩
 ·left;exact⟨h1,ND h2,fun u=>OW h2⟩
 ·right;simp only[gz] at h3;exact⟨j,e,p,by simpa using h1,h2,h3,NF h2 h4 h6,fun u=>OX h2 h4 h6,h5⟩
theorem run_findKey {cap:Nat→Option CSig}{P:Program}{K:TypeId}{kt et:Ty}(gR:ub P K kt=true){v:Value}{d:D}(hv:Rep cap σ kt v d)(arr:Array MapEntry)(ds:List (D×D))(hl:ds.length=arr.size)
 (aO:∀(j:Nat) (e:MapEntry) (p:D×D),arr[j]?=some e→ds[j]?=some p→Rep cap σ kt e.key p.1∧Rep cap σ et e.val p.2) (w:World):
 ((Instr.findKey K v arr.toList).run P w=.ok none w∧dI d ds=none∧∀u,cQ d u ds=ds++[(d,u)])∨
 ∃j e p,arr[j]?=some e∧ds[j]?=some p∧(Instr.findKey K v arr.toList).run P w=.ok (some (j,e.val)) w∧dI d ds=some p.2∧(∀u,cQ d u ds=ds.set j (d,u))∧Instr.sameBits 10000 e.key v=true:=by
 rcases WW gR with hk|hk
 case inr=>exact an4 hk hv arr ds hl aO w
 obtain⟨desc,hu⟩:=ajB hk;rcases ae2 hk hu hv arr.toList ds 0 (by simpa using hl) (fun j e p he hp=>(aO j e p (by simpa using he) hp).1) with⟨h1,h2⟩|⟨j,e,p,h1,h2,h3,h4,h5,h6⟩
 ·left;exact⟨by simp[Instr.findKey,run_underlying hu,h1],ND h2,fun u=>OW h2⟩
 ·right;refine⟨j,e,p,by simpa using h1,h2,?_,NF h2 h4 h6,fun u=>OX h2 h4 h6,h5⟩;simp only[gz] at h3;simp[Instr.findKey,run_underlying hu,h3]
theorem amc (h:Inv C S ρ σ own hv w0 σ0 A a w)(hC:CtxOK C σ0)(hg:holds gs ρ=true){T:TypeId}{m k:Operand}{ok:Bool}{r:Sh×List PI}(hr:zP C S gs dst T m k ok=some r){o:Oper}(ho:o.op=.lookup T m k ok):
 dX C S ρ σ hv Φ dst a w o r:=by
 unfold zP at hr;split at hr
 case h_2=>cases hr
 rename_i K E hT;simp only[au] at hr;obtain⟨p,hp,q,hq,hr⟩:=hr;have aS:=S8 h hC hg hp;have dx:=cg h hC hg hq;split at hr
 case h_2=>cases hr
 rename_i kt et e1;rw[e1] at aS;split at hr
 case h_2=>cases hr
 rename_i z inf hz nw;cases hc:(Ty.beq q.1 kt&&ub C.P K kt&&Ty.sub z.1 et&&sM inf et)<;>simp only[hc,cond_true,cond_false] at hr
 ·cases hr
 simp only[ak] at hc;obtain⟨⟨⟨Ho,Cq⟩,bJ⟩,hzero⟩:=hc;rw[Ty.beq_eq _ _ Ho] at dx;obtain⟨v0,rY,C4⟩:∃v0,inf.zero=some v0∧Rep C.cap σ et v0 z.2:=by
  unfold sM at hzero;split at hzero
  ·rename_i v0 e0;exact⟨v0,e0,(xf hz hzero).1.sub bJ⟩
  ·cases hzero
 have ahx:∃(arr:Array MapEntry) (ds:List (D×D)),(p.2.ev ρ).m=ds∧ds.length=arr.size∧
  (∀(j:Nat) (e:MapEntry) (p:D×D),arr[j]?=some e→ds[j]?=some p→Rep C.cap σ kt e.key p.1∧Rep C.cap σ et e.val p.2)∧
  ((a.eval m=.map none∧arr=#[])∨∃g clock,a.eval m=.map (some g)∧w.heap[g]?=some (.map arr clock)):=by
  rcases aS with aS|⟨T',e,cells,xs,ht,_⟩|⟨g,arr,clock,es,kt',et',ht,Wy,hb,hd,hl,hx,aO⟩
  ·generalize v3:a.eval m=v at aS;generalize Cc:p.2.ev ρ=d at aS;cases aS with
   |mapnil=>exact⟨#[],[],by simp[D.m],rfl,by simp,.inl ⟨rfl,rfl⟩⟩
   |map kt et r jd es hm hl hx hk he=>
    obtain⟨_,arr,clock,hb,iQ⟩:=(h.ok.m _ _ hm).resolve_right (fun e=>Di hl hk e.1);have hn:es.length=arr.size:=by rw[hl,←iQ];simp[entriesOf]
    refine⟨arr,es,by simp[D.m],hn,fun j e p hj hp=>?_,.inr ⟨r,clock,rfl,hb⟩⟩;have:jd[j]?=some (e.key,e.val):=by rw[←iQ];simp[entriesOf,hj]
    exact⟨hk j _ p this hp,he j _ p this hp⟩
  ·cases ht
  ·cases ht;exact⟨arr,es,by rw[hd];rfl,hl,aO,.inr ⟨g,clock,Wy,hb⟩⟩
 obtain⟨arr,ds,hd,hl,aO,bZ⟩:=ahx;have rQ:∀b,(Instr.checkKey b 10000 K (a.eval k)).run C.P w=.ok () w:=fun b=>Uk (cap:=C.cap) (σ:=σ) Cq dx;have Mu:∃u b x,(Instr.lookup T (a.eval m) (a.eval k) ok).run C.P w=.ok (if ok then .tuple #[u,.bool b] else u) w∧(dI (q.2.ev ρ) (p.2.ev ρ).m).getD z.2=x∧(dI (q.2.ev ρ) (p.2.ev ρ).m).isSome=b∧Rep C.cap σ et u x:=by
  rw[hd];rcases run_findKey Cq dx arr ds hl aO w with⟨h1,h2,_⟩|⟨j,e,x,h1,h2,h3,h4,_,_⟩
  ·refine⟨v0,false,z.2,?_,by rw[h2];rfl,by rw[h2];rfl,C4⟩;rcases bZ with⟨em,rfl⟩|⟨g,clock,em,hb⟩
   ·simp only[List.toList_toArray] at h1;cases ok<;>simp[Instr.lookup,run_underlying hT,em,rQ,h1,zeroValue,run_typeInfo w nw,rY]
   ·cases ok<;>simp[Instr.lookup,run_underlying hT,em,getObj,Sem.run,hb,rQ,h1,zeroValue,run_typeInfo w nw,rY]
  ·refine⟨e.val,true,x.2,?_,by rw[h4];rfl,by rw[h4];rfl,(aO j e x h1 h2).2⟩;rcases bZ with⟨em,rfl⟩|⟨g,clock,em,hb⟩
   ·simp at h1
   ·cases ok<;>simp[Instr.lookup,run_underlying hT,em,getObj,Sem.run,hb,rQ,h3]
 obtain⟨u,b,x,ah,nE,Nj,bM⟩:=Mu;cases ok with
 |true=>
  simp only[cond_true] at hr;cases hr;refine .dat (v:=.tuple #[u,.bool b]) (by simp[execOp,ho,ah]) ?_;simp only[PE.ev,PE.evs,nE,Nj];refine .tup [et,.bool] [u,.bool b] [x,.v (.bool b)] rfl rfl (fun i t hi=>?_)
  match i,hi with
  |0,hi=>simp at hi;subst hi;exact bM
  |1,hi=>simp at hi;subst hi;exact .bool b
  |i+2,hi=>simp at hi
 |false=>
  simp only[cond_false] at hr;cases hr;refine .dat (v:=u) (by simp[execOp,ho,ah]) ?_;simp only[PE.ev,nE];exact bM
end
end Cx
namespace Cx
open Go Go.RowKit
theorem U7 (off:Nat):∀(l:List Value) (s:Nat) (cells:Array Value),off+s+l.length≤cells.size→
 ((l.zipIdx s).foldl (fun cs (x:Value×Nat)=>cs.setIfInBounds (off+x.2) x.1) cells).size=cells.size∧
 ∀p,((l.zipIdx s).foldl (fun cs (x:Value×Nat)=>cs.setIfInBounds (off+x.2) x.1) cells)[p]?=if off+s≤p∧p<off+s+l.length then l[p-(off+s)]? else cells[p]?
 |[],s,cells,_=>by
  refine⟨rfl,fun p=>?_⟩;have:¬(off+s≤p∧p<off+s+0):=by omega
  simp only[List.zipIdx_nil,List.foldl_nil,xn];rw[if_neg this]
 |v::l,s,cells,h=>by
  simp only[m8] at h;obtain⟨h1,h2⟩:=U7 off l (s+1) (cells.setIfInBounds (off+s) v) (by simp;omega);simp only[List.zipIdx_cons,JY];refine⟨by rw[h1];simp,fun p=>?_⟩;rw[h2 p];by_cases hp:p=off+s
  ·subst hp;have c1:¬(off+(s+1)≤off+s∧off+s<off+(s+1)+l.length):=by omega
   have c2:off+s≤off+s∧off+s<off+s+(v::l).length:=by simp
   rw[if_neg c1,if_pos c2,uU,if_pos rfl,if_pos (by omega)];simp
  ·by_cases hc:off+(s+1)≤p∧p<off+(s+1)+l.length
   ·have c2:off+s≤p∧p<off+s+(v::l).length:=by simp only[m8];omega
    rw[if_pos hc,if_pos c2];rw[show p-(off+s)=(p-(off+(s+1)))+1 by omega];simp
   ·have c2:¬(off+s≤p∧p<off+s+(v::l).length):=by simp only[m8];omega
    rw[if_neg hc,if_neg c2,uU];rw[if_neg (by omega)]
theorem LA (place:Nat→Option (Nat×Nat)):∀(parts:List (Nat×Value)) (cells:Array Value),
 (∀p,p∈parts→∃o,place p.1=some (o,p.2.cells.size)∧o+p.2.cells.size≤cells.size)→
 (∀i j oi si oj sj,i≠j→place i=some (oi,si)→place j=some (oj,sj)→oi+si≤oj∨oj+sj≤oi)→(parts.map (·.1)).Nodup→
 ∃dv,Instr.fill place cells parts=some dv∧dv.size=cells.size∧
  (∀i v o,(i,v)∈parts→place i=some (o,v.cells.size)→∀m,m<v.cells.size→dv[o+m]?=v.cells[m]?)∧
  (∀i o s,i∉parts.map (·.1)→place i=some (o,s)→∀m,m<s→dv[o+m]?=cells[o+m]?)
 |[],cells,_,_,_=>⟨cells,rfl,rfl,by simp,fun _ _ _ _ _ _ _=>rfl⟩
 |(i,v)::parts,cells,h,y4,bk=>by
  obtain⟨o,hp,hle⟩:=h (i,v) (dt ..);simp only at hp hle;obtain⟨g1,g2⟩:=U7 o v.cells.toList 0 cells (by simp;omega);simp only[gx,mA] at bk
  have hz:v.cells.zipIdx.foldl (fun cs (x:Value×Nat)=>cs.setIfInBounds (o+x.2) x.1) cells=(v.cells.toList.zipIdx 0).foldl (fun cs (x:Value×Nat)=>cs.setIfInBounds (o+x.2) x.1) cells:=by
    rw[←Array.foldl_toList];simp
  generalize G7:(v.cells.toList.zipIdx 0).foldl (fun cs (x:Value×Nat)=>cs.setIfInBounds (o+x.2) x.1) cells=c1 at g1 g2 hz
  obtain⟨dv,k1,k2,k3,k4⟩:=LA place parts c1 (fun p hm=>by
    obtain⟨o',h1,h2⟩:=h p (dk _ hm);exact⟨o',h1,by rw[g1];exact h2⟩) y4 bk.2
  refine⟨dv,?_,k2.trans g1,?_,?_⟩
  ·simp only[Instr.fill,hp];have:¬((v.cells.size≠v.cells.size||decide (o+v.cells.size>cells.size))=true):=by simp;omega
   rw[if_neg this];rw[←k1,←hz]
  ·intro j u o' hm ze m af;rcases cD.1 hm with e|eV
   ·cases e;rw[hp] at ze;cases ze;rw[k4 i o v.cells.size bk.1 hp m af,g2];rw[if_pos (by simp;omega)];simp
   ·exact k3 j u o' eV ze m af
  ·intro j o' s' vS ze m af;simp only[gx,cD,not_or] at vS;rw[k4 j o' s' vS.2 ze m af,g2];have:=y4 i j o v.cells.size o' s' (fun e=>vS.1 e.symm) hp ze;rw[if_neg (by simp;omega)]
section
variable {C:Ctx} {S:St} {ρ:Env} {σ:Im} {own:Nat→Option Nat} {hv:Nat→Value} {w0:World} {σ0:Base} {A:Nat→Prop} {a:Act} {w:World} {gs:List (Nat×Bool)} {Φ:aP} {dst:Nat}
theorem Rep.flat {cap:Nat→Option CSig}{t:Ty}{v:Value}{d:D}(h:Rep cap σ t v d)(ht:t.rowT=true∨t.one=true):
 t.flat.length=t.size∧d.cells.length=t.size∧∀(m:Nat) (tm:Ty),t.flat[m]?=some tm→tm.one=true∧Rep cap σ tm (v.cells.getD m undef) (d.cells.getD m .none):=by
 cases h with
 |agg ts vs ds h1 h2 h ho=>
  refine⟨rfl,by simp[D.cells,Ty.size,h2],fun m tm hm=>⟨ho m tm hm,?_⟩⟩;have:=h m tm hm;simpa [Value.cells,D.cells,dL,aK] using this
 |tup ts vs ds h1 h2 h=>simp[Ty.rowT,Ty.one] at ht
 |_=>
  refine⟨rfl,rfl,fun m tm hm=>?_⟩
  match m,hm with
  |0,hm=>
   simp only[Ty.flat,JZ,aR] at hm;subst hm;refine⟨rfl,?_⟩;simp only[Value.cells,D.cells,sS];constructor<;>assumption
  |m+1,hm=>simp[Ty.flat] at hm
theorem l6:∀{l:List Nat},gl l=true→l.Nodup
 |[],_=>List.nodup_nil
 |a::r,h=>by
  simp only[gl,ak,gd] at h;refine mA.2 ⟨fun hm=>?_,l6 h.2⟩;have:=List.any_eq_false.1 h.1 a hm;simp at this
def Laid (P:Program):List Field→Nat→Prop
 |[],_=>True
 |f::fs,off=>f.offset=off∧∃inf,P.info? f.type=some inf∧Laid P fs (off+inf.size)
theorem Laid.get {P:Program}:∀{fs:List Field} {off:Nat},Laid P fs off→∀(i:Nat) (f:Field),fs[i]?=some f→∃inf,P.info? f.type=some inf∧off≤f.offset∧
 ∀(j:Nat) (g:Field),i<j→fs[j]?=some g→f.offset+inf.size≤g.offset
 |[],_,_,i,f,hi=>by simp at hi
 |f0::fs,off,h,i,f,hi=>by
  obtain⟨h1,inf,h2,h3⟩:=h;cases i with
  |zero=>
   simp at hi;subst hi;refine⟨inf,h2,by omega,fun j g hj hg=>?_⟩;cases j with
   |zero=>omega
   |succ j=>obtain⟨_,_,h4,_⟩:=h3.get j g (by simpa using hg);omega
  |succ i=>
   simp at hi;obtain⟨ajr,k1,k2,k3⟩:=h3.get i f hi;refine⟨ajr,k1,by omega,fun j g hj hg=>?_⟩;cases j with
   |zero=>omega
   |succ j=>exact k3 j g (by omega) (by simpa using hg)
theorem ac1 {zs:List Value}{parts:List (Nat×Operand)}:∀(fs:List Field) (i off:Nat) (r:List Ty×List PE),kp C S gs zs parts fs i off=some r→Laid C.P fs off:=by
 intro fs
 induction fs with
 |nil=>intro i off r _;trivial
 |cons f fs ih=>
  intro i off r h;simp only[kp] at h;split at h
  case h_2=>cases h
  rename_i inf ft hi ht;cases hc:(Nat.beq f.offset off&&Nat.beq inf.size ft.size)<;>simp only[hc,cond_true,cond_false] at h
  ·cases h
  simp only[ak] at hc;simp only[au] at h;obtain⟨q,hq,_⟩:=h;exact⟨ay hc.1,inf,hi,ih _ _ _ hq⟩
theorem T9 {zs:List Value}{parts:List (Nat×Operand)}:∀(fs:List Field) (i off:Nat) (r:List Ty×List PE),kp C S gs zs parts fs i off=some r→off≤zs.length:=by
 intro fs
 induction fs with
 |nil=>intro i off r h;simp only[kp] at h;cases hb:Nat.beq off zs.length<;>simp[hb] at h;exact Nat.le_of_eq (ay hb)
 |cons f fs ih=>
  intro i off r h;simp only[kp] at h;split at h
  case h_2=>cases h
  rename_i inf ft hi ht;cases hc:(Nat.beq f.offset off&&Nat.beq inf.size ft.size)<;>simp only[hc,cond_true,cond_false] at h
  ·cases h
  simp only[au] at h;obtain⟨q,hq,_⟩:=h;have:=ih _ _ _ hq;omega
theorem ac0 {zs:List Value}{parts:List (Nat×Operand)}:∀(fs:List Field) (i off:Nat) (r:List Ty×List PE),kp C S gs zs parts fs i off=some r→
 ∃ft:List Ty×List PE,r=ft∧(∀(m:Nat) (f:Field) (inf:TypeInfo),fs[m]?=some f→C.P.info? f.type=some inf→f.offset+inf.size≤zs.length)∧(∀(m:Nat) (x:Nat×Operand) (f:Field) (inf:TypeInfo),fs[m]?=some f→C.P.info? f.type=some inf→parts.find? (fun p=>Nat.beq p.1 (i+m))=some x→∃y ft,use C S gs x.2=some y∧Ty.sub y.1 ft=true∧ft.size=inf.size)∧off+r.1.length=zs.length:=by
 intro fs
 induction fs with
 |nil=>intro i off r h;simp only[kp] at h;cases hb:Nat.beq off zs.length<;>simp[hb] at h;subst h;exact⟨_,rfl,by simp,by simp,by simpa using ay hb⟩
 |cons f fs ih=>
  intro i off r h;simp only[kp] at h;split at h
  case h_2=>cases h
  rename_i inf ft hi ht;cases hc:(Nat.beq f.offset off&&Nat.beq inf.size ft.size)<;>simp only[hc,cond_true,cond_false] at h
  ·cases h
  simp only[ak] at hc;have iS:=ay hc.1;have aJ:=ay hc.2;simp only[au] at h;obtain⟨q,hq,h⟩:=h;have hle:=T9 _ _ _ _ hq;obtain⟨_,rfl,k1,k2,k3⟩:=ih _ _ _ hq;have e1:∀(m:Nat) (g:Field) (ig:TypeInfo),(f::fs)[m]?=some g→C.P.info? g.type=some ig→g.offset+ig.size≤zs.length:=by
   intro m g ig hm fN;cases m with
   |zero=>simp at hm;subst hm;rw[hi] at fN;cases fN;omega
   |succ m=>exact k1 m g ig (by simpa using hm) fN
  have U6:∀t:Ty,t.flat.length=t.size:=fun t=>by cases t<;>simp[Ty.flat,Ty.size]
  split at h
  ·rename_i x hx;simp only[au] at h;obtain⟨y,hy,h⟩:=h;cases hs:(Ty.sub y.1 ft&&(y.1.rowT||y.1.one))<;>simp only[hs,cond_true,cond_false] at h
   ·cases h
   cases h;simp only[ak] at hs;refine⟨_,rfl,e1,fun m x' g ig hm fN hf=>?_,?_⟩
   ·cases m with
    |zero=>
     simp at hm;subst hm;rw[hi] at fN;cases fN;simp only[hG] at hf;rw[hx] at hf;cases hf;exact⟨y,ft,hy,hs.1,aJ.symm⟩
    |succ m=>exact k2 m x' g ig (by simpa using hm) fN (by rwa [show i+(m+1)=i+1+m by omega] at hf)
   ·have:=(Ty.sub_one _ _ hs.1).2;simp only[ko,U6];omega
  ·rename_i hx;cases lV:jf ft (rowOf ft.rowT ((zs.drop off).take inf.size))<;>simp only[lV,cond_true,cond_false] at h
   ·cases h
   simp only[az] at h;obtain⟨z,hz,rfl⟩:=h;have cu:=(xf (cap:=C.cap) (σ:=⟨fun _ _=>none,fun _=>none⟩) hz lV).2.1;refine⟨_,rfl,e1,fun m x' g ig hm fN hf=>?_,?_⟩
   ·cases m with
    |zero=>simp only[hG] at hf;rw[hx] at hf;cases hf
    |succ m=>exact k2 m x' g ig (by simpa using hm) fN (by rwa [show i+(m+1)=i+1+m by omega] at hf)
   ·have:=(Ty.sub_one _ _ cu).2;simp only[ko,U6];omega
theorem ac2 (h:Inv C S ρ σ own hv w0 σ0 A a w)(hC:CtxOK C σ0)(hg:holds gs ρ=true){zs:List Value}{parts:List (Nat×Operand)}(cells:Array Value):
 ∀(fs:List Field) (i off:Nat) (r:List Ty×List PE),kp C S gs zs parts fs i off=some r→
  (∀(m:Nat) (f:Field) (inf:TypeInfo),fs[m]?=some f→C.P.info? f.type=some inf→
        (∀x,parts.find? (fun p=>Nat.beq p.1 (i+m))=some x→∀q,q<inf.size→cells[f.offset+q]?=(a.eval x.2).cells[q]?)∧
        (parts.find? (fun p=>Nat.beq p.1 (i+m))=none→∀q,q<inf.size→cells[f.offset+q]?=zs[f.offset+q]?))→
  (PE.evc ρ r.2).length=r.1.length∧∀(m:Nat) (t:Ty),r.1[m]?=some t→t.one=true∧Rep C.cap σ t (cells.getD (off+m) undef) ((PE.evc ρ r.2).getD m .none):=by
 intro fs
 induction fs with
 |nil=>intro i off r hr _;simp only[kp] at hr;cases hb:Nat.beq off zs.length<;>simp[hb] at hr;subst hr;simp[PE.evc]
 |cons f fs ih=>
  intro i off r hr aO;simp only[kp] at hr;split at hr
  case h_2=>cases hr
  rename_i inf ft hi ht;cases hc:(Nat.beq f.offset off&&Nat.beq inf.size ft.size)<;>simp only[hc,cond_true,cond_false] at hr
  ·cases hr
  simp only[ak] at hc;have iS:=ay hc.1;have aJ:=ay hc.2;simp only[au] at hr;obtain⟨q,hq,hr⟩:=hr
  obtain⟨l1,tR⟩:=ih (i+1) (off+inf.size) q hq (fun m g ajs hm fN=>by
   have:=aO (m+1) g ajs (by simpa using hm) fN
   rwa [show i+(m+1)=i+1+m by omega] at this)
  obtain⟨hp,hn⟩:=aO 0 f inf rfl hi;have join:∀(t:Ty) (v:Value) (d:D) (pe:PE),Rep C.cap σ t v d→(t.rowT=true∨t.one=true)→pe.ev ρ=d→t.size=inf.size→(∀m,m<inf.size→cells[f.offset+m]?=v.cells[m]?)→
        (PE.evc ρ (pe::q.2)).length=(t.flat++q.1).length∧∀(m:Nat) (t':Ty),(t.flat++q.1)[m]?=some t'→t'.one=true∧Rep C.cap σ t' (cells.getD (off+m) undef) ((PE.evc ρ (pe::q.2)).getD m .none):=by
   intro t v d pe bM gS tP HJ aW;obtain⟨f1,f2,f3⟩:=bM.flat gS;simp only[PE.evc,tP];refine⟨by simp[f1,f2,l1],fun m t' hm=>?_⟩;rw[lD] at hm;split at hm
   ·rename_i af;obtain⟨g1,g2⟩:=f3 m t' hm;refine⟨g1,?_⟩;have e1:cells.getD (off+m) undef=v.cells.getD m undef:=by
     rw[dL,dL,←iS,aW m (by omega)]
    have e2:(d.cells++PE.evc ρ q.2).getD m .none=d.cells.getD m .none:=by
     rw[aK,aK,kl (by omega)]
    rw[e1,e2];exact g2
   ·rename_i eU;obtain⟨g1,g2⟩:=tR _ t' hm;refine⟨g1,?_⟩;have e1:off+inf.size+(m-t.flat.length)=off+m:=by omega
    have e2:(d.cells++PE.evc ρ q.2).getD m .none=(PE.evc ρ q.2).getD (m-t.flat.length) .none:=by
     rw[aK,aK,km (by omega)];rw[f1,←f2]
    rw[e1] at g2;rw[e2];exact g2
  simp only[hG] at hp hn;split at hr
  ·rename_i x hx;simp only[au] at hr;obtain⟨y,hy,hr⟩:=hr;cases hs:(Ty.sub y.1 ft&&(y.1.rowT||y.1.one))<;>simp only[hs,cond_true,cond_false] at hr
   ·cases hr
   cases hr;simp only[ak,gr] at hs;exact join y.1 _ _ y.2 (cg h hC hg hy) hs.2 rfl (by rw[(Ty.sub_one _ _ hs.1).2,aJ]) (hp x hx)
  ·rename_i hx;cases lV:jf ft (rowOf ft.rowT ((zs.drop off).take inf.size))<;>simp only[lV,cond_true,cond_false] at hr
   ·cases hr
   simp only[az] at hr;obtain⟨z,hz,rfl⟩:=hr;obtain⟨k1,k2,k3⟩:=xf (cap:=C.cap) (σ:=σ) hz lV;have Hr:(rowOf ft.rowT ((zs.drop off).take inf.size)).cells.size=inf.size:=by rw[k1.size,(Ty.sub_one _ _ k2).2,aJ]
   refine join z.1 _ z.2 (.con z.2) k1 ?_ rfl (by rw[(Ty.sub_one _ _ k2).2,aJ]) (fun m hm=>?_)
   ·cases ft<;>simp[od,pK] at hz<;>first|(subst hz;simp[Ty.one])|(obtain⟨_,_,rfl⟩:=hz;simp[Ty.rowT])
   ·rw[hn hx m hm,iS];cases tS:ft.rowT with
    |true=>simp[rowOf,Value.cells,fj,fJ,hm]
    |false=>
     rw[tS] at Hr k1;have h1:(z.1).rowT=false:=by
       have:=(Ty.sub_one _ _ k2)
       cases ft<;>simp[Ty.rowT] at tS<;>simp[od,pK] at hz<;>subst hz<;>rfl
     rw[k1.cells1 h1] at Hr ⊢;simp at Hr;have hm0:m=0:=by omega
     subst hm0;have:∃u,zs[off]?=some u:=⟨_,bA (show off<zs.length by have:=T9 _ _ _ _ hq;omega)⟩
     simp[rowOf,aK,fj,fJ,←Hr];obtain⟨u,hu⟩:=this;simp[hu]
theorem WZ {P:Program}:∀(fs:List Field) (off:Nat),Laid P fs off→
 ∃l:List (Nat×Nat),fs.mapM (fun f=>(P.info? f.type).map fun i=>(f.offset,i.size))=some l∧l.length=fs.length∧
  ∀(i:Nat) (f:Field) (inf:TypeInfo),fs[i]?=some f→P.info? f.type=some inf→l[i]?=some (f.offset,inf.size)
 |[],_,_=>⟨[],rfl,rfl,by simp⟩
 |f::fs,off,h=>by
  obtain⟨h1,inf,h2,h3⟩:=h;obtain⟨l,k1,k2,k3⟩:=WZ fs _ h3;refine⟨(f.offset,inf.size)::l,?_,by simp[k2],fun i g ig hi fN=>?_⟩
  ·simp[TE,h2,k1]
  ·cases i with
   |zero=>simp at hi;subst hi;rw[h2] at fN;cases fN;rfl
   |succ i=>simp at hi;simpa using k3 i g ig hi fN
theorem UW {parts:List (Nat×Operand)}(bk:(parts.map (·.1)).Nodup){i:Nat}{x:Operand}(h:(i,x)∈parts):parts.find? (fun p=>Nat.beq p.1 i)=some (i,x):=by
 induction parts with
 |nil=>cases h
 |cons p ps ih=>
  simp only[gx,mA] at bk;rcases cD.1 h with e|hm
  ·subst e;simp
  ·have:¬p.1=i:=fun e=>bk.1 (e▸List.mem_map_of_mem (f:=(·.1)) hm);rw[List.find?_cons_of_neg (by simpa using this)];exact ih bk.2 hm
theorem alR (h:Inv C S ρ σ own hv w0 σ0 A a w)(hC:CtxOK C σ0)(hg:holds gs ρ=true){T:TypeId}{ps:Array (Nat×Operand)}{r:Sh×List PI}(hr:zG C S gs dst T ps.toList=some r){o:Oper}(ho:o.op=.build T ps):
 dX C S ρ σ hv Φ dst a w o r:=by
 unfold zG at hr;split at hr
 case h_3=>cases hr
 case h_2=>
  rename_i n e inf hT nw;split at hr
  case h_2=>cases hr
  rename_i zs ie hz hie;split at hr
  case h_2=>cases hr
  rename_i x y rW;simp only[au] at hr;obtain⟨p,hp,q,hq,hr⟩:=hr;split at hr
  case h_2=>cases hr
  rename_i k k' hk bn;cases hc:(Nat.beq n 2&&Nat.beq zs.size 2&&Nat.beq ie.size 1)<;>simp only[hc,cond_true,cond_false] at hr
  ·cases hr
  cases hr;simp only[ak] at hc;obtain⟨⟨c1,c2⟩,c3⟩:=hc;have c1:=ay c1;have c2:=ay c2;have c3:=ay c3;subst c1;have hx:=cg h hC hg hp;have hy:=cg h hC hg hq;rw[hk] at hx;rw[bn] at hy;obtain⟨a1,Lq,ea2,_⟩:=hx.int_inv;obtain⟨b1,Lr,eb2,_⟩:=hy.int_inv;have aiA:ps=#[(0,x),(1,y)]:=by rw[←sO];exact rW
  obtain⟨z0,z1,rfl⟩:∃z0 z1,zs=#[z0,z1]:=by
   match zs,c2 with
   |⟨[z0,z1]⟩,_=>exact⟨z0,z1,rfl⟩
  have L7:C.P.built T [(0,a.eval x),(1,a.eval y)]=some #[a.eval x,a.eval y]:=by
   rw[Lq,Lr];simp only[Program.built,nw,hT,hz,hie,c3];simp[Instr.fill,Value.cells]
  have ah:(execOp a.eval o).run C.P w=.ok (.value (.agg #[a.eval x,a.eval y])) w:=by
   have:=run_build (P:=C.P) w T (ps.map fun(x:Nat×Operand)=>(x.1,a.eval x.2)) #[a.eval x,a.eval y] (by rw[aiA];simpa using L7);simp[execOp,ho,this]
  refine .dat ah ?_;have e1:(PE.mk [p.2,q.2]).ev ρ=.agg [p.2.ev ρ,q.2.ev ρ]:=by simp[PE.ev,PE.evc,ea2,eb2,D.cells]
  rw[e1];refine .agg _ [a.eval x,a.eval y] _ rfl rfl (fun i t hi=>?_) (fun i t hi=>?_)
  ·match i,hi with
   |0,hi=>simp at hi;subst hi;rw[hk];simpa using hx
   |1,hi=>simp at hi;subst hi;rw[bn];simpa using hy
   |i+2,hi=>simp at hi
  ·match i,hi with
   |0,hi=>simp at hi;subst hi;rw[hk];rfl
   |1,hi=>simp at hi;subst hi;rw[bn];rfl
   |i+2,hi=>simp at hi
 rename_i fs inf hT nw;split at hr
 case h_2=>cases hr
 rename_i zs hz;cases hc:(gl (ps.toList.map (·.1))&&ps.toList.all (fun p=>Nat.blt p.1 fs.size))<;>simp only[hc,cond_true,cond_false] at hr
 ·cases hr
 simp only[ak] at hc;obtain⟨bk,af⟩:=hc;simp only[az] at hr;obtain⟨q,hq,rfl⟩:=hr;have Hp:=ac1 _ _ _ _ hq;have jz:=l6 bk;obtain⟨_,rfl,bD,ajc,Mh⟩:=ac0 _ _ _ _ hq;obtain⟨pl,eX,awk,CL⟩:=WZ _ _ Hp
 have jC:∀p,p∈(ps.toList.map fun(x:Nat×Operand)=>(x.1,a.eval x.2))→∃o,pl.toArray[p.1]?=some (o,p.2.cells.size)∧o+p.2.cells.size≤zs.size:=by
  intro p hp;obtain⟨x,hx,rfl⟩:=eO.1 hp;have v7:x.1<fs.toList.length:=by
   have:=bE.1 af x hx;have h2:x.1<fs.size:=by simpa [hH] using this
   simpa using h2
  obtain⟨f,hf⟩:∃f,fs.toList[x.1]?=some f:=⟨_,bA v7⟩
  obtain⟨ig,fN,_,_⟩:=Hp.get _ _ hf;have Ci:=UW jz (i:=x.1) (x:=x.2) hx;obtain⟨y,ft,hy,bJ,aJ⟩:=ajc x.1 (x.1,x.2) f ig hf fN (by simpa using Ci);have tU:=(cg h hC hg hy).size;rw[(Ty.sub_one _ _ bJ).2,aJ] at tU;simp only;refine⟨f.offset,?_,?_⟩
  ·rw[tU];simpa using CL x.1 f ig hf fN
  ·rw[tU];simpa using bD x.1 f ig hf fN
 have y4:∀(i j oi si oj sj:Nat),i≠j→pl.toArray[i]?=some (oi,si)→pl.toArray[j]?=some (oj,sj)→oi+si≤oj∨oj+sj≤oi:=by
  intro i j oi si oj sj aB hi hj;simp only[EY] at hi hj;obtain⟨f,hf⟩:∃f,fs.toList[i]?=some f:=⟨_,bA (by have:=(eh.1 hi).1;omega)⟩
  obtain⟨g,y7⟩:∃g,fs.toList[j]?=some g:=⟨_,bA (by have:=(eh.1 hj).1;omega)⟩
  obtain⟨ig,fN,_,ah4⟩:=Hp.get _ _ hf;obtain⟨jg,hjg,_,ah5⟩:=Hp.get _ _ y7;rw[CL i f ig hf fN] at hi;rw[CL j g jg y7 hjg] at hj;cases hi;cases hj;rcases J6 i j with af|eU
  ·exact .inl (ah4 j g af y7)
  ·exact .inr (ah5 i f (by omega) hf)
 obtain⟨dv,f1,f2,f3,f4⟩:=LA (pl.toArray[·]?) (ps.toList.map fun(x:Nat×Operand)=>(x.1,a.eval x.2)) zs jC y4 (by simpa [EU] using jz)
 have L7:C.P.built T (ps.toList.map fun(x:Nat×Operand)=>(x.1,a.eval x.2))=some dv:=by
  simp only[Program.built,nw,hT,hz,eX];exact f1
 have ah:(execOp a.eval o).run C.P w=.ok (.value (.agg dv)) w:=by
  have:=run_build (P:=C.P) w T (ps.map fun(x:Nat×Operand)=>(x.1,a.eval x.2)) dv (by rw[uV];exact L7);simp[execOp,ho,this]
 refine .dat ah ?_;have qg:∀(m:Nat) (f:Field) (ig:TypeInfo),fs.toList[m]?=some f→C.P.info? f.type=some ig→
  (∀x,ps.toList.find? (fun p=>Nat.beq p.1 (0+m))=some x→∀q,q<ig.size→dv[f.offset+q]?=(a.eval x.2).cells[q]?)∧
  (ps.toList.find? (fun p=>Nat.beq p.1 (0+m))=none→∀q,q<ig.size→dv[f.offset+q]?=zs.toList[f.offset+q]?):=by
  intro m f ig hm fN;refine⟨fun x hx p hp=>?_,fun hx p hp=>?_⟩
  ·have nE:x.1=m:=by have:=JW hx;simpa using this
   have zp:(x.1,a.eval x.2)∈(ps.toList.map fun(x:Nat×Operand)=>(x.1,a.eval x.2)):=eO.2 ⟨x,xo hx,rfl⟩;obtain⟨o',dT,hle⟩:=jC _ zp;simp only at dT hle;have Wj:=CL m f ig hm fN;simp only[EY,nE] at dT;rw[Wj] at dT;simp only[aR,na] at dT;obtain⟨e1,e2⟩:=dT;exact f3 x.1 (a.eval x.2) f.offset zp (by simp[nE,Wj,←e2]) p (by omega)
  ·have vS:m∉(ps.toList.map fun(x:Nat×Operand)=>(x.1,a.eval x.2)).map (·.1):=by
        intro cV;simp only[J2,eO,EU] at cV;obtain⟨x,zp,e⟩:=cV;have:=xl.1 hx x zp;simp[e] at this
   rw[f4 m f.offset ig.size vS (by simpa using CL m f ig hm fN) p hp];simp
 obtain⟨l1,aO⟩:=ac2 h hC hg dv _ _ _ _ hq qg
 ·simp only[PE.ev];have:dv=dv.toList.toArray:=by simp
  rw[this];have hlen:dv.toList.length=q.1.length:=by simp[f2] at Mh ⊢;omega
  refine .agg _ _ _ hlen l1 (fun i t hi=>?_) (fun i t hi=>(aO i t hi).1);have:=(aO i t hi).2;simpa [dL,aK] using this
end
end Cx
