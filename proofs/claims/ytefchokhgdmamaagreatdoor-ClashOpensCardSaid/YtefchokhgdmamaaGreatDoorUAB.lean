/-
  Shared texts of this claim.
-/
import Derived.Test.YtefchokhgdmamaaGreatDoorUAA
import Derived.ChangeKeysEq
import Derived.Laws.Tables
set_option linter.unusedSimpArgs false
set_option linter.unusedVariables false
namespace Cx
open Go Go.RowKit
theorem Rep.int_inv {cap:Nat→Option CSig}{σ:Im}{k:IntKind}{v:Value}{d:D}(h:Rep cap σ (.int k) v d):∃n,v=.int k n∧d=.v (.int k n)∧k.min≤n∧n≤k.max:=by
 cases h with
 |int k n h1 h2=>exact⟨n,rfl,rfl,h1,h2⟩
theorem Rep.bool_inv {cap:Nat→Option CSig}{σ:Im}{v:Value}{d:D}(h:Rep cap σ .bool v d):∃b,v=.bool b∧d=.v (.bool b):=by
 cases h with
 |bool b=>exact⟨b,rfl,rfl⟩
theorem Rep.str_inv {cap:Nat→Option CSig}{σ:Im}{v:Value}{d:D}(h:Rep cap σ .str v d):∃s,v=.string s∧d=.v (.string s)∧s.size≤maxLen:=by
 cases h with
 |str s h=>exact⟨s,rfl,rfl,h⟩
theorem Rep.slice_inv {cap:Nat→Option CSig}{σ:Im}{e:Ty}{v:Value}{d:D}(h:Rep cap σ (.slice e) v d):∃xs,d=.list xs∧
 (((∃p,v=.slice p 0 0)∧xs=[])∨∃k o c,v=.slice (some ⟨k,o,none⟩) xs.length c∧xs.length≤c∧c≤maxLen∧
   ∃vs:Nat→Value,(∀(i:Nat) (x:D),xs[i]?=some x→Rep cap σ e.unf (vs i) x)∧∀(i j:Nat) (u:Value),i<xs.length→(vs i).cells[j]?=some u→σ.c k (o+i*e.size+j)=some u):=by
 cases h with
 |nil e=>exact⟨[],rfl,.inl ⟨⟨_,rfl⟩,rfl⟩⟩
 |emp e a=>exact⟨[],rfl,.inl ⟨⟨_,rfl⟩,rfl⟩⟩
 |slice e k o n c xs vs hn hc hm h hv=>subst hn;exact⟨xs,rfl,.inr ⟨k,o,c,rfl,hc,hm,vs,h,hv⟩⟩
theorem Rep.ref_inv {cap:Nat→Option CSig}{σ:Im}{t:Ty}{v:Value}{d:D}(h:Rep cap σ (.ref t) v d):∃k o x y,v=.pointer (some ⟨k,o,none⟩)∧d=.ref y∧Rep cap σ t x y∧∀(j:Nat) (u:Value),x.cells[j]?=some u→σ.c k (o+j)=some u:=by
 cases h with
 |ref t k o x y h hv=>exact⟨k,o,x,y,rfl,rfl,h,hv⟩
theorem Rep.agg_inv {cap:Nat→Option CSig}{σ:Im}{ts:List Ty}{v:Value}{d:D}(h:Rep cap σ (.agg ts) v d):∃(vs:List Value) (ds:List D),v=.agg vs.toArray∧d=.agg ds∧vs.length=ts.length∧ds.length=ts.length∧
 (∀(i:Nat) (t:Ty),ts[i]?=some t→Rep cap σ t (vs.getD i undef) (ds.getD i .none))∧∀(i:Nat) (t:Ty),ts[i]?=some t→t.one=true:=by
 cases h with
 |agg ts vs ds h1 h2 h ho=>exact⟨vs,ds,rfl,rfl,h1,h2,h,ho⟩
theorem Rep.tup_inv {cap:Nat→Option CSig}{σ:Im}{ts:List Ty}{v:Value}{d:D}(h:Rep cap σ (.tup ts) v d):∃(vs:List Value) (ds:List D),v=.tuple vs.toArray∧d=.tup ds∧vs.length=ts.length∧ds.length=ts.length∧
 (∀(i:Nat) (t:Ty),ts[i]?=some t→Rep cap σ t (vs.getD i undef) (ds.getD i .none)):=by
 cases h with
 |tup ts vs ds h1 h2 h=>exact⟨vs,ds,rfl,rfl,h1,h2,h⟩
theorem rR (k:IntKind)(n:Int):k.min≤k.wrap n∧k.wrap n≤k.max:=by
 cases k<;>simp only[IntKind.min,IntKind.max,IntKind.wrap,IntKind.signed,IntKind.bits]<;>simp<;>(try split)<;>omega
theorem acg (k:IntKind){a b:Int}(ha:k.min≤a∧a≤k.max):k.min≤a.tmod b∧a.tmod b≤k.max:=by
 have h1:k.min≤0:=by cases k<;>decide
 have h2:0≤k.max:=by cases k<;>decide
 have hn:(a.tmod b).natAbs≤a.natAbs:=by rw[Int.natAbs_tmod];exact Nat.mod_le _ _
 rcases Int.le_total 0 a with h|h
 ·have:=Int.tmod_nonneg b h;omega
 ·have:a.tmod b≤0:=by
   have:=Int.tmod_nonneg b (a:=-a) (by omega);rw[Int.neg_tmod] at this;omega
  omega
theorem VD (k:IntKind){a:Int}(n:Nat)(ha:k.min≤a∧a≤k.max):k.min≤a.fdiv (2^n)∧a.fdiv (2^n)≤k.max:=by
 have h1:k.min≤0:=by cases k<;>decide
 have h2:0≤k.max:=by cases k<;>decide
 have hp:(0:Int)<2^n:=Int.pow_pos (by decide);rw[acQ _ (by omega)];rcases Int.le_total 0 a with h|h
 ·have h3:=Int.ediv_nonneg h (by omega:(0:Int)≤2^n);have h4:=Int.ediv_le_self (b:=2^n) h;omega
 ·have h3:a/2^n≤0:=by
   have:=Int.ediv_le_ediv hp h;simpa using this
  have h4:a≤a/2^n:=by
   rw[Int.le_ediv_iff_mul_le hp];have:a*2^n≤a*1:=Int.mul_le_mul_of_nonpos_left h (by omega);omega
  omega
section
variable {C:Ctx} {S:St} {ρ:Env} {σ:Im} {own:Nat→Option Nat} {hv:Nat→Value} {w0:World} {σ0:Base} {A:Nat→Prop} {a:Act} {w:World} {gs:List (Nat×Bool)} {Φ:aV} {dst:Nat}
theorem tD {e:PE}{ρ':Env}(h:PI.runs Φ [.setR dst e] ρ=some ρ'):ρ'=ρ.setR dst (e.ev ρ):=by
 simp[PI.runs,PI.run] at h;exact h.symm
theorem Rk (hg:holds gs ρ=true){c e:PE}{ρ':Env}(h:PI.runs Φ [qT gs c,.setR dst e] ρ=some ρ'):(c.ev ρ).b=true∧ρ'=ρ.setR dst (e.ev ρ):=by
 simp only[PI.runs,PI.run,qT] at h;cases ei:gs with
 |nil=>
  subst ei;simp only at h;cases hb:(c.ev ρ).b<;>simp[hb] at h;exact⟨rfl,h.symm⟩
 |cons g r=>
  rw[ei] at h;simp only at h;rw[ei] at hg;cases hb:(c.ev ρ).b
  ·simp[PE.ev,hg,hb,D.b_bool] at h
  ·simp[PE.ev,hg,hb,D.b_bool] at h;exact⟨rfl,h.symm⟩
def eT (C:Ctx)(S:St)(ρ:Env)(σ:Im)(hv:Nat→Value)(Φ:aV)(dst:Nat)(a:Act)(w:World)(o:Oper)(r:Sh×List PI):Prop:=
 ∀ρ',PI.runs Φ r.2 ρ=some ρ'→∃v d,ρ'=ρ.setR dst d∧(execOp a.eval o).run C.P w=.ok (.value v) w∧aE C S ρ σ hv r.1 v d∧∀gs s,r.1≠.opt gs s
theorem eT.dat {o:Oper}{t:Ty}{e:PE}{v:Value}(hx:(execOp a.eval o).run C.P w=.ok (.value v) w)(hr:Rep C.cap σ t v (e.ev ρ)):
 eT C S ρ σ hv Φ dst a w o (.dat t,[.setR dst e]):=by
 intro ρ' h;exact⟨v,e.ev ρ,tD h,hx,hr,fun _ _ e=>by cases e⟩
theorem eT.datc (hg:holds gs ρ=true){o:Oper}{t:Ty}{c e:PE}(hx:(c.ev ρ).b=true→∃v,(execOp a.eval o).run C.P w=.ok (.value v) w∧Rep C.cap σ t v (e.ev ρ)):
 eT C S ρ σ hv Φ dst a w o (.dat t,[qT gs c,.setR dst e]):=by
 intro ρ' h;obtain⟨hb,he⟩:=Rk hg h;obtain⟨v,h1,h2⟩:=hx hb;exact⟨v,e.ev ρ,he,h1,h2,fun _ _ e=>by cases e⟩
theorem aai (h:Inv C S ρ σ own hv w0 σ0 A a w)(hC:CtxOK C σ0)(hg:holds gs ρ=true){x:Operand}{r:Sh×List PI}(hr:qo C S gs dst x=some r){o:Oper}(ho:o.op=.move x∨o.op=.assign x):
 eT C S ρ σ hv Φ dst a w o r:=by
 have hx:(execOp a.eval o).run C.P w=.ok (.value (a.eval x)) w:=by rcases ho with ho|ho<;>simp[execOp,ho,Sem.run,pure]
 unfold qo at hr;split at hr
 ·rename_i y hy;cases hr;exact .dat hx (cB h hC hg hy)
 ·split at hr
  ·rename_i t _;obtain⟨hs,hn⟩:=m8 h hg t;split at hr
   ·cases hr
   ·cases hr
   ·cases hr;intro ρ' h';exact⟨_,_,tD h',hx,hs,hn⟩
  ·cases hr
theorem am3 (h:Inv C S ρ σ own hv w0 σ0 A a w)(hC:CtxOK C σ0)(hg:holds gs ρ=true){c x y:Operand}{r:Sh×List PI}(hr:Ar C S gs dst c x y=some r){o:Oper}(ho:o.op=.pick c x y):
 eT C S ρ σ hv Φ dst a w o r:=by
 unfold Ar at hr;split at hr
 ·rename_i t;split at hr
  ·rename_i es;obtain⟨hs,_⟩:=m8 h hg t;rw[es] at hs;obtain⟨b,aQ,bh⟩:=Rep.bool_inv hs;simp only[ao] at hr;obtain⟨q1,h1,q2,h2,hr⟩:=hr;cases hb:Ty.beq q1.1 q2.1<;>simp only[hb,cond_true,cond_false] at hr
   ·cases hr
   ·cases hr;have e2:=Ty.beq_eq _ _ hb;have af:(execOp a.eval o).run C.P w=.ok (.value (if b then a.eval x else a.eval y)) w:=by
     have:a.eval (.tmp t)=.bool b:=aQ;simp[execOp,ho,this,asBool,Sem.run,pure,bind,Sem.bind]
    refine .dat af ?_;show Rep C.cap σ q1.1 _ (bif (ρ.r t).b then q1.2.ev ρ else q2.2.ev ρ);have gL:(ρ.r t).b=b:=by rw[bh];rfl
    cases b with
    |true=>
     simp only[gL,cond_true,if_true];exact cB h hC (by simp only[holds,qJ,gL];exact hg) h1
    |false=>
     simp only[gL,cond_false];rw[e2];exact cB h hC (by simp only[holds,qJ,gL];exact hg) h2
  ·cases hr
 ·cases hr
theorem Kf {op:BinOp}{T T':TypeId}{x y:Operand}{v v':Value}{o:Oper}(ho:o.op=.binOp op T x y T')(hv:a.eval x=v)(hv':a.eval y=v')(h1:∀u,v≠.agg u)(h2:v≠.nilIface):
 (execOp a.eval o).run C.P w=((binOp op T v v').bind fun r=>.pure (.value r)).run C.P w:=by
 have he:eqGuard op T x y v v'=.pure ():=by
  cases v<;>first|(exact absurd rfl h2)|(exact absurd rfl (h1 _))|(cases op<;>simp[eqGuard]<;>rfl)
 simp only[execOp,ho,hv,hv',he];rfl
theorem Vv {P:Program}{cap:Nat→Option CSig}{σ:Im}{ρ:Env}{x y:PE}(w:World)(d:Nat){t:Ty}{T:TypeId}{v u:Value}{e:PE}(hk:mT P T t=true)(he:wk t x y=some e)(g1:Rep cap σ t v (x.ev ρ))(g2:Rep cap σ t u (y.ev ρ)):
 ∃b,e.ev ρ=.v (.bool b)∧(Op.equalIn (d+1) T v u).run P w=.ok b w:=by
 cases t with
 |int k=>
  obtain⟨n,v1,d1,_⟩:=g1.int_inv;obtain⟨m,v2,d2,_⟩:=g2.int_inv;simp only[wk,aR] at he;subst he;have hu:∃k',P.underlying T=some (.int k'):=by
   simp only[mT] at hk;split at hk
   ·exact⟨_,by assumption⟩
   ·cases hk
  obtain⟨k',hu⟩:=hu;exact⟨n==m,by simp only[PE.ev,d1,d2];rfl,by rw[v1,v2];exact run_equalIn_int w d T k k' n m hu⟩
 |bool=>
  obtain⟨n,v1,d1⟩:=g1.bool_inv;obtain⟨m,v2,d2⟩:=g2.bool_inv;simp only[wk,aR] at he;subst he;have hu:P.underlying T=some .bool:=by
   simp only[mT] at hk;split at hk
   ·assumption
   ·cases hk
  exact⟨n==m,by simp only[PE.ev,d1,d2];rfl,by rw[v1,v2];exact run_equalIn_bool' w d T n m hu⟩
 |str=>
  obtain⟨n,v1,d1,_⟩:=g1.str_inv;obtain⟨m,v2,d2,_⟩:=g2.str_inv;simp only[wk,aR] at he;subst he;have hu:P.underlying T=some .string:=by
   simp only[mT] at hk;split at hk
   ·assumption
   ·cases hk
  exact⟨n.toList==m.toList,by simp only[PE.ev,d1,d2];rfl,by rw[v1,v2];exact run_equalIn_string w d T n m hu⟩
 |_=>simp[wk] at he
theorem afX {P:Program}{cap:Nat→Option CSig}{σ:Im}{ρ:Env}{x y:PE}{X Y:List D}(w:World)(hx:x.ev ρ=.agg X)(hy:y.ev ρ=.agg Y){vs us:List Value}(b d:Nat):
 ∀(fs:List Field) (i:Nat) (ts:List Ty) (e:PE),wh P x y b fs i ts=some e→(∀j t,ts[j]?=some t→Rep cap σ t (vs.getD (i+j) undef) (X.getD (b+i+j) .none)∧Rep cap σ t (us.getD (i+j) undef) (Y.getD (b+i+j) .none))→
  i+ts.length≤vs.length→i+ts.length≤us.length→
  ∃b,e.ev ρ=.v (.bool b)∧(Op.eqFields (d+1) vs.toArray us.toArray fs).run P w=.ok b w:=by
 intro fs
 induction fs with
 |nil=>
  intro i ts e h _ _ _;cases ts with
  |nil=>simp only[wh,aR] at h;subst h;exact⟨true,rfl,rfl⟩
  |cons t ts=>simp[wh] at h
 |cons f fs ih=>
  intro i ts e h hr l1 l2;cases ts with
  |nil=>simp[wh] at h
  |cons t ts=>
   simp only[wh] at h;cases hc:((f.name != "_")&&Nat.beq f.offset i&&mT P f.type t&&P.plainKey f.type)<;>simp only[hc,cond_true,cond_false] at h
   ·cases h
   simp only[aj,bne_iff_ne,ne_eq] at hc;obtain⟨⟨⟨hn,ho⟩,hk⟩,hp⟩:=hc;have ho:=aw ho;simp only[ao,ax] at h;obtain⟨e1,j4,r,mL,rfl⟩:=h
   obtain⟨b2,bn,Dp⟩:=ih (i+1) ts r mL (fun j t hj=>by
        have:=hr (j+1) t (by simpa using hj)
        rwa [show i+(j+1)=i+1+j by omega,show b+i+(j+1)=b+(i+1)+j by omega] at this) (by simp at l1;omega) (by simp at l2;omega)
   obtain⟨g1,g2⟩:=hr 0 t rfl;rw[iz,iz] at g1 g2;simp only[pv] at l1 l2;have uI:vs.toArray[f.offset]?=some (vs.getD i undef):=by rw[ho];simp[aH,show i<vs.length by omega]
   have Ol:us.toArray[f.offset]?=some (us.getD i undef):=by rw[ho];simp[aH,show i<us.length by omega]
   have p1:=run_part_plain (P:=P) (w:=w) hp uI;have p2:=run_part_plain (P:=P) (w:=w) hp Ol;have ex:(PE.cell x (b+i)).ev ρ=X.getD (b+i) .none:=by simp only[PE.ev,hx];rfl
   have ey:(PE.cell y (b+i)).ev ρ=Y.getD (b+i) .none:=by simp only[PE.ev,hy];rfl
   obtain⟨b1,cu,oI⟩:=Vv (P:=P) w d (ρ:=ρ) hk j4 (by rw[ex];exact g1) (by rw[ey];exact g2);refine⟨b1&&b2,by simp only[PE.ev,cu,bn];rfl,?_⟩;simp only[Op.eqFields,if_pos hn,Sem.run_bind,p1,p2,oI,Result.andThen_ok];cases b1
   ·rfl
   ·simpa using Dp
theorem afW {P:Program}{cap:Nat→Option CSig}{σ:Im}{ρ:Env}{x y:PE}{X Y:List D}(w:World)(hx:x.ev ρ=.agg X)(hy:y.ev ρ=.agg Y){vs us:List Value}(d:Nat):
 ∀(fs:List Field) (i:Nat) (ts:List Ty) (e:PE),wj P x y fs i ts=some e→(∀j t,ts[j]?=some t→Rep cap σ t (vs.getD (i+j) undef) (X.getD (i+j) .none)∧Rep cap σ t (us.getD (i+j) undef) (Y.getD (i+j) .none))→
  i+ts.length≤vs.length→i+ts.length≤us.length→
  ∃b,e.ev ρ=.v (.bool b)∧(Op.eqFields (d+2) vs.toArray us.toArray fs).run P w=.ok b w:=by
 intro fs
 induction fs with
 |nil=>
  intro i ts e h _ _ _;cases ts with
  |nil=>simp only[wj,aR] at h;subst h;exact⟨true,rfl,rfl⟩
  |cons t ts=>simp[wj] at h
 |cons f fs ih=>
  intro i ts e h hr l1 l2;unfold wj at h;split at h
  ·rename_i n bo;cases hb:Nat.ble n ts.length<;>simp only[hb,cond_true,cond_false] at h
   ·cases h
   have hn:=km hb;simp only[ao,ax] at h;obtain⟨e1,j4,r,mL,rfl⟩:=h
   obtain⟨b2,bn,Dp⟩:=ih (i+n) (ts.drop n) r mL (fun j t hj=>by
        have:=hr (n+j) t (by rw[dZ] at hj;exact hj)
        rwa [show i+(n+j)=i+n+j by omega] at this) (by rw[rZ];omega) (by rw[rZ];omega)
   unfold XQ at bo;split at bo
   case h_2=>cases bo
   rename_i fs' hu;cases hc:((f.name != "_")&&Nat.beq f.offset i&& !P.stoodInHeld f.type)<;>simp only[hc,cond_true,cond_false] at bo
   ·cases bo
   cases bo;simp only[aj,bne_iff_ne,ne_eq,iy] at hc;obtain⟨⟨ay,ho⟩,bZ⟩:=hc;have ho:=aw ho;have j6:P.underlying f.type=some (.struct (P.fieldsOf f.type)):=by unfold Program.fieldsOf;rw[hu]
   obtain⟨inf,hi⟩:=info_of_underlying hu
   have oG:∀zs:List Value,(part f.type zs.toArray f.offset).run P w=.ok (.agg ((zs.drop i).take (P.cellsOf f.type)).toArray) w:=fun zs=>by
        have:(zs.toArray.extract f.offset (f.offset+P.cellsOf f.type))=((zs.drop i).take (P.cellsOf f.type)).toArray:=by
         rw[ho];apply rS;rw[Array.toList_extract];simp[List.extract]
        rw[←this];simp[part,isAgg,run_underlying hu,run_sizeOf w hi]
   obtain⟨b1,cu,oI⟩:=afX (P:=P) (cap:=cap) (σ:=σ) (ρ:=ρ) w hx hy (vs:=(vs.drop i).take (P.cellsOf f.type)) (us:=(us.drop i).take (P.cellsOf f.type)) i d _ 0 (ts.take (P.cellsOf f.type)) e1 j4 (fun j t hj=>by
        rw[dA] at hj;split at hj
        ·rename_i mJ;have:=hr j t hj;simpa [aH,dA,mJ,dZ] using this
        ·cases hj) (by simp only[du,rZ];omega) (by simp only[du,rZ];omega)
   have ajX:(Op.equalIn (d+2) f.type (.agg ((vs.drop i).take (P.cellsOf f.type)).toArray) (.agg ((us.drop i).take (P.cellsOf f.type)).toArray)).run P w=.ok b1 w:=by
        rw[run_equalIn_struct w (d+1) f.type _ _ j6 bZ];exact oI
   refine⟨b1&&b2,by simp only[PE.ev,cu,bn];rfl,?_⟩;simp only[Op.eqFields,if_pos ay,Sem.run_bind,oG,ajX,Result.andThen_ok];cases b1
   ·rfl
   ·simpa using Dp
  ·split at h
   ·rename_i t ts;cases hc:((f.name != "_")&&Nat.beq f.offset i&&mT P f.type t&&P.plainKey f.type)<;>simp only[hc,cond_true,cond_false] at h
    ·cases h
    simp only[aj,bne_iff_ne,ne_eq] at hc;obtain⟨⟨⟨hn,ho⟩,hk⟩,hp⟩:=hc;have ho:=aw ho;simp only[ao,ax] at h;obtain⟨e1,j4,r,mL,rfl⟩:=h
    obtain⟨b2,bn,Dp⟩:=ih (i+1) ts r mL (fun j t hj=>by
     have:=hr (j+1) t (by simpa using hj)
     rwa [show i+(j+1)=i+1+j by omega] at this) (by simp at l1;omega) (by simp at l2;omega)
    obtain⟨g1,g2⟩:=hr 0 t rfl;rw[iz] at g1 g2;simp only[pv] at l1 l2;have uI:vs.toArray[f.offset]?=some (vs.getD i undef):=by rw[ho];simp[aH,show i<vs.length by omega]
    have Ol:us.toArray[f.offset]?=some (us.getD i undef):=by rw[ho];simp[aH,show i<us.length by omega]
    have p1:=run_part_plain (P:=P) (w:=w) hp uI;have p2:=run_part_plain (P:=P) (w:=w) hp Ol;have ex:(PE.cell x i).ev ρ=X.getD i .none:=by simp only[PE.ev,hx];rfl
    have ey:(PE.cell y i).ev ρ=Y.getD i .none:=by simp only[PE.ev,hy];rfl
    obtain⟨b1,cu,oI⟩:=Vv (P:=P) w (d+1) (ρ:=ρ) hk j4 (by rw[ex];exact g1) (by rw[ey];exact g2);refine⟨b1&&b2,by simp only[PE.ev,cu,bn];rfl,?_⟩;simp only[Op.eqFields,if_pos hn,Sem.run_bind,p1,p2,oI,Result.andThen_ok];cases b1
    ·rfl
    ·simpa using Dp
   ·cases h
theorem amE (h:Inv C S ρ σ own hv w0 σ0 A a w)(hC:CtxOK C σ0)(hg:holds gs ρ=true){op:BinOp}{T T':TypeId}{x y:Operand}{r:Sh×List PI}(hr:Ag C S gs dst op T x y=some r){o:Oper}(ho:o.op=.binOp op T x y T'):
 eT C S ρ σ hv Φ dst a w o r:=by
 simp only[Ag,ao] at hr;obtain⟨p,hp,q,hq,hr⟩:=hr;have aT:=cB h hC hg hp;have dW:=cB h hC hg hq;split at hr
 ·rename_i k k' e1 e2;rw[e1] at aT;rw[e2] at dW;obtain⟨n,aQ,bh,b1,b2⟩:=aT.int_inv;obtain⟨m,iS,dM,b3,b4⟩:=dW.int_inv;have af:=Kf (C:=C) (w:=w) ho aQ iS (by intro u e;cases e) (by intro e;cases e);cases eL:(op==.shl||op==.shr)<;>simp only[eL,cond_true,cond_false] at hr
  ·cases pY:(k==k')<;>simp only[pY,cond_true,cond_false] at hr
   ·cases hr
   ·have Nu:k=k':=by simpa using pY
    subst Nu;cases N2:(op==.quo||op==.rem)<;>simp only[N2,cond_true,cond_false] at hr
    ·cases har:F1 op<;>simp only[har,cond_true,cond_false] at hr
     ·cases zA:y9 op<;>simp only[zA,cond_true,cond_false] at hr
      ·cases hr
      ·cases hr;refine .dat (v:=.bool (jD op n m)) ?_ ?_
       ·rw[af];cases op<;>simp_all [y9]<;>simp[binOp,Op.intCmp,jD,Sem.run,pure,Sem.bind]
       ·simp only[PE.ev,bh,dM,D.i_int];exact .bool _
     ·cases hr;refine .dat (v:=.int k (cT op k n m)) ?_ ?_
      ·rw[af];cases op<;>simp_all [F1]<;>simp[binOp,Op.intArith,Op.intBits,cT,Sem.run,pure,Sem.bind]
      ·simp only[PE.ev,bh,dM,D.i_int];refine .int _ _ ?_ ?_<;>(cases op<;>simp_all [F1]<;>first|exact(rR _ _).1|exact(rR _ _).2)
    ·cases hr;refine .datc hg fun hc=>⟨.int k (cT op k n m),?_,?_⟩
     ·have ay:m≠0:=by simpa [PE.ev,dM,D.i_int,D.b_bool,jD,D.int] using hc
      rw[af];rcases(by simpa using N2:op=.quo∨op=.rem) with rfl|rfl<;>simp[binOp,Op.intDiv,cT,Sem.run,pure,Sem.bind,ay]
     ·simp only[PE.ev,bh,dM,D.i_int];cases op<;>simp_all
      ·exact .int _ _ (rR _ _).1 (rR _ _).2
      ·exact .int _ _ (acg k ⟨b1,b2⟩).1 (acg k ⟨b1,b2⟩).2
  ·cases hr;refine .datc hg fun hc=>⟨.int k (cT op k n m),?_,?_⟩
   ·have ay:¬m<0:=by
     have:0≤m:=by simpa [PE.ev,dM,D.i_int,D.b_bool,jD,D.int] using hc
     omega
    rw[af];rcases(by simpa using eL:op=.shl∨op=.shr) with rfl|rfl<;>simp[binOp,Op.shift,cT,Sem.run,pure,Sem.bind,ay]
   ·simp only[PE.ev,bh,dM,D.i_int];cases op<;>simp_all
    ·exact .int _ _ (rR _ _).1 (rR _ _).2
    ·exact .int _ _ (VD k _ ⟨b1,b2⟩).1 (VD k _ ⟨b1,b2⟩).2
 ·rename_i e1 e2;rw[e1] at aT;rw[e2] at dW;obtain⟨n,aQ,bh⟩:=aT.bool_inv;obtain⟨m,iS,dM⟩:=dW.bool_inv;have af:=Kf (C:=C) (w:=w) ho aQ iS (by intro u e;cases e) (by intro e;cases e);cases bY:((op==.eql||op==.neq)&&OC C.P T)<;>simp only[bY,cond_true,cond_false] at hr
  ·cases hr
  ·cases hr;simp only[aj] at bY;obtain⟨bY,hT⟩:=bY;have pO:C.P.underlying T=some .bool:=by
        unfold OC at hT;split at hT
        ·assumption
        ·cases hT
   have heq:(Op.equal T (.bool n) (.bool m)).run C.P w=.ok (n==m) w:=by
        have:∀d,(Op.equalIn (d+1) T (.bool n) (.bool m)).run C.P w=.ok (n==m) w:=fun d=>by simp[Op.equalIn,run_underlying pO]
        exact this 9999
   refine .dat (v:=.bool (y8 op n m)) ?_ ?_
   ·rw[af];rcases(by simpa using bY:op=.eql∨op=.neq) with rfl|rfl<;>simp[binOp,y8,heq,Sem.run_bind']
   ·simp only[PE.ev,bh,dM,D.b_bool];exact .bool _
 ·rename_i e1 e2;rw[e1] at aT;rw[e2] at dW;obtain⟨n,aQ,bh,_⟩:=aT.str_inv;obtain⟨m,iS,dM,_⟩:=dW.str_inv;have af:=Kf (C:=C) (w:=w) ho aQ iS (by intro u e;cases e) (by intro e;cases e);cases bY:y9 op<;>simp only[bY,cond_true,cond_false] at hr
  ·cases hr
  ·cases hr;refine .dat (v:=.bool (za op n m)) ?_ ?_
   ·rw[af];cases op<;>simp_all [y9]<;>simp[binOp,Op.stringOp,za,Sem.run,pure,Sem.bind]
   ·simp only[PE.ev,bh,dM,D.s_str];exact .bool _
 ·rename_i e e' e1 e2;rw[e1] at aT;rw[e2] at dW;split at hr
  case h_2=>cases hr
  rename_i E hT;cases bY:(op==.eql||op==.neq)<;>simp only[bY,cond_true,cond_false] at hr
  ·cases hr
  cases hr;obtain⟨n,xs,aQ,bh,NJ⟩:∃(n:Bool) (xs:List D),(n=true∧a.eval x=.slice none 0 0∨n=false∧∃k o m c,a.eval x=.slice (some ⟨k,o,none⟩) m c)∧p.2.ev ρ=.list xs∧n=decide (xs=[]):=by
   generalize a.eval x=vv at aT;generalize p.2.ev ρ=dd at aT;cases aT with
   |nsl0=>exact⟨true,[],.inl ⟨rfl,rfl⟩,rfl,rfl⟩
   |nsl _ k o m c xs h hx=>exact⟨false,xs,.inr ⟨rfl,k,o,m,c,rfl⟩,rfl,by simp[hx]⟩
  have iS:a.eval y=.slice none 0 0:=by
   generalize a.eval y=vv at dW;generalize q.2.ev ρ=dd at dW;cases dW;rfl
  have heq:(Op.equal T (a.eval x) (a.eval y)).run C.P w=.ok n w:=by
   have:∀d,(Op.equalIn (d+1) T (a.eval x) (a.eval y)).run C.P w=.ok n w:=fun d=>by
        rw[iS];rcases aQ with⟨rfl,h1⟩|⟨rfl,k,o,m,c,h1⟩<;>rw[h1]<;>simp[Op.equalIn,run_underlying hT]
   exact this 9999
  have af:=Kf (C:=C) (w:=w) ho rfl rfl (by
   intro u e;rcases aQ with⟨_,h1⟩|⟨_,k,o,m,c,h1⟩<;>rw[h1] at e<;>cases e) (by
   intro e;rcases aQ with⟨_,h1⟩|⟨_,k,o,m,c,h1⟩<;>rw[h1] at e<;>cases e)
  refine .dat (v:=.bool (jD op xs.length 0)) ?_ ?_
  ·have ay:∀(y:D) (ys:List D),¬((ys.length:Int)+1=0):=fun y ys=>by omega
   rw[af,iS];rw[iS] at heq;rcases aQ with⟨_,h1⟩|⟨_,k,o,m,c,h1⟩<;>rw[h1] at heq ⊢<;>rcases(by simpa using bY:op=.eql∨op=.neq) with rfl|rfl<;>cases xs<;>simp[binOp,heq,Sem.run_bind',jD,NJ]<;>(try omega)
  ·simp only[PE.ev,bh,D.l_list,D.int,D.i_int];exact .bool _
 ·rename_i ts us e1 e2;rw[e1] at aT;rw[e2] at dW;cases bY:((op==.eql||op==.neq)&&Ty.beqs ts us&&Mt C.P T)<;>simp only[bY,cond_true,cond_false] at hr
  ·cases hr
  simp only[aj] at bY;obtain⟨⟨bY,Oj⟩,bZ⟩:=bY;have:=Ty.beqs_eq _ _ Oj;subst this;simp only[Mt,aj,iy] at bZ;obtain⟨⟨Xx,aj9⟩,aka⟩:=bZ;have j6:C.P.underlying T=some (.struct (C.P.fieldsOf T)):=by
   unfold Program.fieldsOf;split at Xx
   ·rename_i fs hu;rw[hu]
   ·cases Xx
  simp only[ax] at hr;obtain⟨e,he,rfl⟩:=hr;obtain⟨vs,ds,aQ,bh,l1,l2,aF,_⟩:=aT.agg_inv;obtain⟨A8,ds',iS,dM,l3,l4,jf,_⟩:=dW.agg_inv
  obtain⟨b,hb,af⟩:=afW (P:=C.P) (cap:=C.cap) (σ:=σ) (ρ:=ρ) w bh dM (vs:=vs) (us:=A8) 9997 _ 0 ts e he (fun j t hj=>by
   rw[fq];exact⟨aF j t hj,jf j t hj⟩) (by omega) (by omega)
  have heq:(Op.equalIn 10000 T (.agg vs.toArray) (.agg A8.toArray)).run C.P w=.ok b w:=by
   rw[run_equalIn_struct w 9999 T _ _ j6 aj9];exact af
  have gN:=run_eqGuard_agg (P:=C.P) (w:=w) op T x y vs.toArray A8.toArray aka
  have WH:(execOp a.eval o).run C.P w=((binOp op T (.agg vs.toArray) (.agg A8.toArray)).run C.P w).andThen fun r w'=>.ok (.value r) w':=by
   simp only[execOp,ho,aQ,iS,Sem.run_bind,gN,Result.andThen_ok];rfl
  rcases(by simpa using bY:op=.eql∨op=.neq) with rfl|rfl
  ·refine .dat (v:=.bool b) ?_ ?_
   ·rw[WH,run_eql_struct,heq];rfl
   ·show Rep _ _ .bool _ (PE.ev ρ e);rw[hb];exact .bool _
  ·refine .dat (v:=.bool (!b)) ?_ ?_
   ·rw[WH,run_neq_struct,heq];rfl
   ·show Rep _ _ .bool _ (PE.ev ρ (.nt e));simp only[PE.ev,hb];exact .bool _
 ·cases hr
theorem am8 (h:Inv C S ρ σ own hv w0 σ0 A a w)(hC:CtxOK C σ0)(hg:holds gs ρ=true){op:UnOp}{T:TypeId}{x:Operand}{r:Sh×List PI}(hr:At C S gs dst op x=some r){o:Oper}(ho:o.op=.unOp op T x):
 eT C S ρ σ hv Φ dst a w o r:=by
 simp only[At,ao] at hr;obtain⟨p,hp,hr⟩:=hr;have aT:=cB h hC hg hp;split at hr
 ·rename_i k e1;rw[e1] at aT;obtain⟨n,aQ,bh,b1,b2⟩:=aT.int_inv;cases hr;refine .dat (v:=.int k (cT .sub k 0 n)) ?_ ?_
  ·simp[execOp,ho,aQ,Op.unary,Op.intArith,cT,Sem.run,pure,bind,Sem.bind]
  ·simp only[PE.ev,bh,D.i_int];exact .int _ _ (rR _ _).1 (rR _ _).2
 ·rename_i e1;rw[e1] at aT;obtain⟨n,aQ,bh⟩:=aT.bool_inv;cases hr;refine .dat (v:=.bool (!n)) ?_ ?_
  ·simp[execOp,ho,aQ,Op.unary,Sem.run,pure,bind,Sem.bind]
  ·simp only[PE.ev,bh,D.b_bool];exact .bool _
 ·cases hr
theorem amI (h:Inv C S ρ σ own hv w0 σ0 A a w)(hC:CtxOK C σ0)(hg:holds gs ρ=true){s d:TypeId}{x:Operand}{r:Sh×List PI}(hr:Ai C S gs dst s d x=some r){o:Oper}(ho:o.op=.convert s d x):
 eT C S ρ σ hv Φ dst a w o r:=by
 simp only[Ai,ao] at hr;obtain⟨p,hp,hr⟩:=hr;have aT:=cB h hC hg hp;split at hr
 ·rename_i k0 k k1 u1 u2 e1;rw[e1] at aT;obtain⟨n,aQ,bh,b1,b2⟩:=aT.int_inv;cases hr;refine .dat (v:=.int k (k.wrap n)) ?_ ?_
  ·simp[execOp,ho,aQ,convert,run_underlying u1,run_underlying u2,Conv.intToInt]
  ·simp only[PE.ev,bh,D.i_int];exact .int _ _ (rR _ _).1 (rR _ _).2
 ·rename_i u1 u2 e1;rw[e1] at aT;obtain⟨n,aQ,bh,b1⟩:=aT.str_inv;cases hr;refine .dat (v:=.string n) ?_ ?_
  ·simp[execOp,ho,aQ,convert,run_underlying u1,run_underlying u2]
  ·rw[bh];exact .str _ b1
 ·cases hr
end
end Cx
namespace Cx
open Go Go.RowKit
theorem uP {n:Nat}(h:n≤maxLen):IntKind.i64.min≤(n:Int)∧(n:Int)≤IntKind.i64.max:=by
 simp only[maxLen] at h;simp only[IntKind.min,IntKind.max,IntKind.signed,IntKind.bits];simp;omega
section
variable {C:Ctx} {S:St} {ρ:Env} {σ:Im} {own:Nat→Option Nat} {hv:Nat→Value} {w0:World} {σ0:Base} {A:Nat→Prop} {a:Act} {w:World} {gs:List (Nat×Bool)} {Φ:aV} {dst:Nat}
def Ld (C:Ctx)(σ:Im)(w:World)(B:Nat)(t:Ty)(v:Value)(d:D):Prop:=
 Rep C.cap σ t v d∨
 (∃T e cells xs,t=.slice e.rol∧d=.list xs∧w.ownsRow B T e.size v xs.length cells∧eR C.cap σ e cells xs)∨
 (∃k arr clock es kt et,t=.map kt et∧v=.map (some k)∧w.heap[k]?=some (.map arr clock)∧d=.map es∧es.length=arr.size∧es.length≤maxLen∧
    ∀(i:Nat) (e:MapEntry) (p:D×D),arr[i]?=some e→es[i]?=some p→Rep C.cap σ kt e.key p.1∧Rep C.cap σ et e.val p.2)
theorem TE (h:Inv C S ρ σ own hv w0 σ0 A a w)(hC:CtxOK C σ0)(hg:holds gs ρ=true){x:Operand}{r:Ty×PE}(hu:view C S gs x=some r):Ld C σ w w0.heap.size r.1 (a.eval x) (r.2.ev ρ):=by
 unfold view at hu;split at hu
 ·rename_i r' Dk;cases hu;exact .inl (cB h hC hg Dk)
 ·split at hu
  ·rename_i t _;obtain⟨hs,_⟩:=m8 h hg t;split at hu
   ·rename_i j ver e;rw[e] at hs;cases hb:Nat.beq ver (S.ver j)<;>simp only[hb,cond_true,cond_false] at hu
    ·cases hu
    ·have dO:=aw hb;have ho:=h.objs j;have cl:a.eval (.tmp t)=hv j:=hs.2 dO;split at hu
     ·rename_i T e eo;rw[eo] at ho;cases hu;obtain⟨cells,xs,h1,h2,h3,h4⟩:=ho;rw[cl];exact .inr (.inl ⟨T,e,cells,xs,rfl,h1,h2,h3⟩)
     ·rename_i kt et eo;rw[eo] at ho;cases hu;obtain⟨k,arr,clock,es,h1,h2,h3,h4,h5,⟨hx,_⟩,h6⟩:=ho;rw[cl];exact .inr (.inr ⟨k,arr,clock,es,kt,et,rfl,h1,h3,h4,h5,hx,h6⟩)
     ·cases hu
   ·cases hu
  ·cases hu
theorem xu {w:World}{B e size n:Nat}{v:Value}{cells:List Value}(h:w.ownsRow B e size v n cells):∃b c,v=.slice b n c∧n≤maxLen∧n≤c:=by
 rcases h.2 with⟨rfl,rfl⟩|⟨g,cap,cur,rfl,h1,h2,h3,h4,h5⟩
 ·exact⟨none,0,rfl,by decide,aX _⟩
 ·exact⟨_,cap,rfl,cL h3 h4,h3⟩
theorem Ri {b:Builtin}{args:Array Operand}{ts:Array TypeId}{o:Oper}(ho:o.op=.call {callee:=.builtin b,args:=args,argTypes:=ts}):
 ∃cs,(execOp a.eval o).run C.P w=(builtin b ts o.type cs (args.map a.eval)).run C.P w:=
 ⟨_,by simp only[execOp,ho,resolve,invoke];rfl⟩
theorem amV (h:Inv C S ρ σ own hv w0 σ0 A a w)(hC:CtxOK C σ0)(hg:holds gs ρ=true){T:TypeId}{x:Operand}{r:Sh×List PI}(hr:Ao C S gs dst T x=some r){o:Oper}
 (ho:o.op=.call {callee:=.builtin .len,args:=#[x],argTypes:=#[T]}):eT C S ρ σ hv Φ dst a w o r:=by
 simp only[Ao,ao] at hr;obtain⟨p,hp,hr⟩:=hr;have aT:=TE h hC hg hp;obtain⟨cs,af⟩:=Ri (C:=C) (w:=w) (a:=a) ho;split at hr
 ·rename_i e T' e1 e2;rw[e1] at aT;cases hr;have hx:∃b n c xs,a.eval x=.slice b n c∧p.2.ev ρ=.list xs∧xs.length=n∧n≤maxLen:=by
   rcases aT with aT|⟨T,e,cells,xs,ht,hd,aZ,jj⟩|⟨k,arr,clock,es,kt,et,ht,_⟩
   ·obtain⟨xs,hd,⟨⟨p0,aQ⟩,rfl⟩|⟨k,o,c,aQ,h1,h2,_⟩⟩:=aT.slice_inv
    ·exact⟨p0,0,0,[],aQ,hd,rfl,by decide⟩
    ·exact⟨_,_,c,xs,aQ,hd,rfl,by omega⟩
   ·obtain⟨b,c,aQ,h1,_⟩:=xu aZ;exact⟨b,_,c,xs,aQ,hd,rfl,h1⟩
   ·cases ht
  obtain⟨b,n,c,xs,aQ,hd,hl,hm⟩:=hx;refine .dat (v:=.int .i64 n) ?_ ?_
  ·rw[af];simp[builtin,Builtin.len_,aQ,run_underlying e2,goInt]
  ·simp only[PE.ev,hd,D.l_list,hl];exact .int _ _ (uP hm).1 (uP hm).2
 ·rename_i e T' e1 e2;rw[e1] at aT;cases hr;rcases aT with aT|⟨T,e,cells,xs,ht,_⟩|⟨k,arr,clock,es,kt,et,ht,_⟩
  ·generalize wX:a.eval x=v at aT;generalize CK:p.2.ev ρ=d at aT;cases aT;refine .dat (v:=.int .i64 0) ?_ ?_
   ·rw[af];simp[builtin,Builtin.len_,wX,run_underlying e2,goInt]
   ·simp only[PE.ev,CK,D.l_list];exact .int _ _ (by decide) (by decide)
  ·cases ht
  ·cases ht
 ·rename_i e1 e2;rw[e1] at aT;cases hr;rcases aT with aT|⟨T,e,cells,xs,ht,_⟩|⟨k,arr,clock,es,kt,et,ht,_⟩
  ·obtain⟨n,aQ,bh,hm⟩:=aT.str_inv;refine .dat (v:=.int .i64 n.size) ?_ ?_
   ·rw[af];simp[builtin,Builtin.len_,aQ,run_underlying e2,goInt]
   ·simp only[PE.ev,bh,D.s_str];exact .int _ _ (uP hm).1 (uP hm).2
  ·cases ht
  ·cases ht
 ·rename_i k0 e0 a0 b0 e1 e2;rw[e1] at aT;cases hr;rcases aT with aT|⟨T,e,cells,xs,ht,_⟩|⟨k,arr,clock,es,kt,et,ht,aQ,hb,bh,hl,hx,_⟩
  ·generalize wX:a.eval x=v at aT;generalize CK:p.2.ev ρ=d at aT;cases aT with
   |mapnil=>
    refine .dat (v:=.int .i64 0) ?_ ?_
    ·rw[af];simp[builtin,Builtin.len_,wX,run_underlying e2,goInt]
    ·simp only[PE.ev,CK,D.m];exact .int _ _ (by decide) (by decide)
   |map kt et r jU es hm hl hx hk _=>
    obtain⟨_,arr,clock,hb,jH⟩:=(h.ok.m _ _ hm).resolve_right (fun e=>DU hl hk e.1);have hn:arr.size=es.length:=by rw[hl,←jH];simp[entriesOf]
    refine .dat (v:=.int .i64 arr.size) ?_ ?_
    ·rw[af];simp[builtin,Builtin.len_,wX,run_underlying e2,goInt,getObj,Sem.run,hb]
    ·simp only[PE.ev,CK,D.m,hn];exact .int _ _ (uP hx).1 (uP hx).2
  ·cases ht
  ·refine .dat (v:=.int .i64 arr.size) ?_ ?_
   ·rw[af];simp[builtin,Builtin.len_,aQ,run_underlying e2,goInt,getObj,Sem.run,hb]
   ·simp only[PE.ev,bh,D.m,hl];exact .int _ _ (uP (hl▸hx)).1 (uP (hl▸hx)).2
 ·cases hr
theorem aag (h:Inv C S ρ σ own hv w0 σ0 A a w)(hC:CtxOK C σ0)(hg:holds gs ρ=true){mx:Bool}{x y:Operand}{ts:Array TypeId}{r:Sh×List PI}(hr:xp C S gs dst mx x y=some r){o:Oper}
 (ho:o.op=.call {callee:=.builtin (bif mx then .max else .min),args:=#[x,y],argTypes:=ts}):eT C S ρ σ hv Φ dst a w o r:=by
 simp only[xp,ao] at hr;obtain⟨p,hp,q,hq,hr⟩:=hr;have aT:=cB h hC hg hp;have dW:=cB h hC hg hq;obtain⟨cs,af⟩:=Ri (C:=C) (w:=w) (a:=a) ho;split at hr
 ·rename_i k k' e1 e2;rw[e1] at aT;rw[e2] at dW;obtain⟨n,aQ,bh,b1,b2⟩:=aT.int_inv;obtain⟨m,iS,dM,b3,b4⟩:=dW.int_inv;cases pY:(k==k')<;>simp only[pY,cond_true,cond_false] at hr
  ·cases hr
  ·have Nu:k=k':=by simpa using pY
   subst Nu;cases hr;cases mx with
   |true=>
    refine .dat (v:=.int k (if m>n then m else n)) ?_ ?_
    ·rw[af];simp[builtin,Builtin.max_,Builtin.max2,aQ,iS]
    ·simp only[cond_true,PE.ev,bh,dM,D.i_int];by_cases ae:m>n<;>simp[ae]<;>constructor<;>assumption
   |false=>
    refine .dat (v:=.int k (if m<n then m else n)) ?_ ?_
    ·rw[af];simp[builtin,Builtin.min_,Builtin.min2,aQ,iS]
    ·simp only[cond_false,PE.ev,bh,dM,D.i_int];by_cases ae:m<n<;>simp[ae]<;>constructor<;>assumption
 ·cases hr
theorem amK (h:Inv C S ρ σ own hv w0 σ0 A a w)(hC:CtxOK C σ0)(hg:holds gs ρ=true){x:Operand}{i:Nat}{r:Sh×List PI}(hr:Aj C S gs dst x i=some r){o:Oper}(ho:o.op=.extract x i):
 eT C S ρ σ hv Φ dst a w o r:=by
 simp only[Aj,ao] at hr;obtain⟨p,hp,hr⟩:=hr;have aT:=cB h hC hg hp;split at hr
 ·rename_i ts e1;rw[e1] at aT;simp only[ax] at hr;obtain⟨t,ht,rfl⟩:=hr;obtain⟨vs,ds,aQ,bh,l1,l2,aF⟩:=aT.tup_inv;have hi:i<vs.length:=by rw[l1];exact(eE.1 ht).1
  refine .dat (v:=vs.getD i undef) ?_ ?_
  ·obtain⟨u,hu⟩:∃u,vs[i]?=some u:=⟨_,bu hi⟩
   have gN:vs.getD i undef=u:=by rw[aH,hu];rfl
   rw[gN];simp[execOp,ho,aQ,Instr.extract,hu]
  ·simp only[PE.ev,bh];exact aF i t ht
 ·cases hr
end
end Cx
namespace Cx
open Go Go.RowKit
theorem uN {P:Program}{T:TypeId}{ag:Bool}(h:qh P T=some ag)(w:World):(isAgg T).run P w=.ok ag w:=by
 unfold qh at h;split at h
 ·rename_i fs hu;cases h;simp[isAgg,run_underlying hu]
 ·rename_i n e hu;cases h;simp[isAgg,run_underlying hu]
 ·rename_i d h1 h2 hu;cases h;cases d<;>simp_all [isAgg,run_underlying hu]
 ·cases h
theorem sn (k o n:Nat):(⟨k,o,none⟩:Addr).add n=⟨k,o+n,none⟩:=by
 unfold Addr.add;split<;>simp_all
theorem Kh {P:Program}{T:TypeId}{inf:TypeInfo}{ag:Bool}{w:World}{k o:Nat}{cs:List Value}(hi:P.info? T=some inf)(ha:qh P T=some ag)(hl:cs.length=inf.size)
 (h1:ag=false→cs.length=1) (hc:∀j u,cs[j]?=some u→w.cell? ⟨k,o+j,none⟩=some u):(loadVar T ⟨k,o,none⟩).run P w=.ok (rowOf ag cs) w:=by
 cases ag with
 |true=>
  have:=run_loadCells_list (P:=P) w ⟨k,o,none⟩ cs (fun j v hv=>by rw[sn];exact hc j v hv);rw[hl] at this;simp[loadVar,uN ha,Go.sizeOf,run_typeInfo w hi,this,rowOf]
 |false=>
  obtain⟨u,hu⟩:∃u,cs=[u]:=by
   have:=h1 rfl
   match cs,this with
   |[u],_=>exact⟨u,rfl⟩
  subst hu;have h0:=hc 0 u rfl;simp only[iz] at h0;simp[loadVar,uN ha,rowOf,run_load,h0]
section
variable {C:Ctx} {S:St} {ρ:Env} {σ:Im} {own:Nat→Option Nat} {hv:Nat→Value} {w0:World} {σ0:Base} {A:Nat→Prop} {a:Act} {w:World} {gs:List (Nat×Bool)} {Φ:aV} {dst:Nat}
theorem vn {o:Oper}{T:TypeId}{x:Operand}{v:Value}{k off:Nat}(ho:o.op=.load T x)(hx:a.eval x=.pointer (some ⟨k,off,none⟩))(hl:(loadVar T ⟨k,off,none⟩).run C.P w=.ok v w):
 (execOp a.eval o).run C.P w=.ok (.value v) w:=by
 simp[execOp,ho,Instr.loadAt,hx,Instr.sureAddr,hl]
theorem sF {α:Type}{l:List α}{i:Nat}{x d:α}(h:l[i]?=some x):l.getD i d=x:=by
 rw[aH,h];rfl
theorem Jq {cap:Nat→Option CSig}{ts:List Ty}{vs:List Value}{ds:List D}{ag:Bool}{n off:Nat}{ty:Ty}(hp:uY ag n ts off=some ty)
 (h1:vs.length=ts.length) (h2:ds.length=ts.length) (hr:∀(i:Nat) (t:Ty),ts[i]?=some t→Rep cap σ t (vs.getD i undef) (ds.getD i .none)) (ho:∀(i:Nat) (t:Ty),ts[i]?=some t→t.one=true):
 Rep cap σ ty (rowOf ag ((vs.drop off).take n)) (bif ag then .agg ((ds.drop off).take n) else ds.getD off .none)∧((vs.drop off).take n).length=n∧(ag=false→n=1):=by
 unfold uY at hp;cases hle:Nat.ble (off+n) ts.length<;>simp only[hle,cond_true,cond_false] at hp
 ·cases hp
 ·have Nv:=km hle;have hlen:((vs.drop off).take n).length=n:=by simp;omega
  cases ag with
  |true=>
   simp only[cond_true] at hp;cases hp;refine⟨?_,hlen,fun e=>by cases e⟩;simp only[rowOf,if_true,cond_true];refine .agg _ _ _ (by simp;omega) (by simp;omega) (fun i t hi=>?_) (fun i t hi=>?_)
   ·simp only[dA,dZ] at hi;split at hi
    ·rename_i bo;have:=hr (off+i) t hi;simpa [aH,dA,dZ,bo] using this
    ·cases hi
   ·simp only[dA,dZ] at hi;split at hi
    ·exact ho _ t hi
    ·cases hi
  |false=>
   simp only[cond_false] at hp;cases hn:Nat.beq n 1<;>simp only[hn,cond_true,cond_false] at hp
   ·cases hp
   ·have l7:=aw hn;subst l7;refine⟨?_,hlen,fun _=>rfl⟩;have:=hr off ty hp;have ae:off<vs.length:=by omega
    simpa [rowOf,aH,dA,dZ] using this
theorem Jp {ag:Bool}{n:Nat}{e:PE}{off:Nat}{ds:List D}(h:e.ev ρ=.agg ds):(Av ag n e off).ev ρ=bif ag then .agg ((ds.drop off).take n) else ds.getD off .none:=by
 cases ag<;>simp[Av,PE.ev,h,D.cells,D.c]
theorem Inv.cell (h:Inv C S ρ σ own hv w0 σ0 A a w){k o:Nat}{u:Value}(hc:σ.c k o=some u):w.cell? ⟨k,o,none⟩=some u:=h.ok.c _ _ _ hc
theorem Rep.rowOf {cap:Nat→Option CSig}{t:Ty}{v:Value}{d:D}(h:Rep cap σ t v d):v=Cx.rowOf t.rowT v.cells.toList:=by
 cases h<;>simp[Cx.rowOf,Ty.rowT,Value.cells]
theorem Rep.cells1 {cap:Nat→Option CSig}{t:Ty}{v:Value}{d:D}(h:Rep cap σ t v d)(ht:t.rowT=false):v.cells=#[v]:=by
 cases h<;>simp_all [Ty.rowT,Value.cells]
theorem amX (h:Inv C S ρ σ own hv w0 σ0 A a w){T:TypeId}{x:Operand}{inf:TypeInfo}{ag:Bool}(hi:C.P.info? T=some inf)(ha:qh C.P T=some ag){o:Oper}(ho:o.op=.load T x)
 {ty:Ty} {e:PE} (hr:Rep C.cap σ (.ref ty) (a.eval x) (e.ev ρ)) (hs:Nat.beq inf.size ty.size=true) (HM:(ag==ty.rowT)=true):
 eT C S ρ σ hv Φ dst a w o (.dat ty,[.setR dst (.deref e)]):=by
 obtain⟨k,off,v,y,aQ,bh,bN,ji⟩:=hr.ref_inv;have qe:=aw hs;have CC:ag=ty.rowT:=by simpa using HM
 have hz:=bN.size;have fG:=bN.rowOf;refine .dat (v:=v) (vn ho aQ ?_) ?_
 ·rw[fG,←CC];refine Kh hi ha (by simp[hz,qe]) (fun e=>?_) (fun j u hu=>?_)
  ·subst e;simp[bN.cells1 CC.symm]
  ·exact h.cell (ji j u (by simpa using hu))
 ·simp only[PE.ev,bh,D.deref];exact bN
theorem LZ {w:World}{k:Nat}{cs:Array Value}{T:TypeId}{fr:Nat×Nat}(hb:w.heap[k]?=some (.cells cs T fr)){i:Nat}(hi:i<cs.size):w.cell? ⟨k,i,none⟩=some (cs.getD i undef):=by
 simp[World.cell?,hb,eK,eC hi]
theorem zn (cs:Array Value)(i:Nat):cs.toList.getD i undef=cs.getD i undef:=by
 simp[aH,eK]
theorem Ux {cs:Array Value}{ds:List D}:∀(shs:List Sh) (i:Nat) (l:List AgC),tX S shs=some l→(∀m s,shs[m]?=some s→aE C S ρ σ hv s (cs.getD (i+m) undef) (ds.getD (i+m) .none))→
 l.length=shs.length∧∀(m:Nat) (c:AgC),l[m]?=some c→nl C S σ hv c (cs.getD (i+m) undef) (ds.getD (i+m) .none)
 |[],i,l,hl,_=>by simp only[tX,aR] at hl;subst hl;exact⟨rfl,fun m c hm=>by simp at hm⟩
 |s::r,i,l,hl,aF=>by
  simp only[tX,ao] at hl;obtain⟨x,hx,hl⟩:=hl
  obtain⟨g1,g3⟩:=Ux r (i+1) x hx fun m s hm=>by
   have:=aF (m+1) s (by simpa using hm)
   rwa [show i+(m+1)=i+1+m by omega] at this
  have h0:=aF 0 s rfl;rw[iz] at h0;split at hl
  ·rename_i t;cases dw:t.one<;>simp only[dw,cond_true,cond_false] at hl
   ·cases hl
   cases hl;refine⟨by simp[g1],fun m c hm=>?_⟩;cases m with
   |zero=>simp at hm;subst hm;exact⟨dw,h0⟩
   |succ m=>simp at hm;have:=g3 m c hm;rwa [show i+1+m=i+(m+1) by omega] at this
  ·rename_i j ver;cases hb:Nat.beq ver (S.ver j)<;>simp only[hb,cond_true,cond_false] at hl
   ·cases hl
   cases hl;refine⟨by simp[g1],fun m c hm=>?_⟩;cases m with
   |zero=>simp at hm;subst hm;exact h0
   |succ m=>simp at hm;have:=g3 m c hm;rwa [show i+1+m=i+(m+1) by omega] at this
  ·cases hl
theorem adf {j off n len:Nat}{ds:List D}(h:ρ.o j=.agg ds)(hl:ds.length=len):(Li j off n len).ev ρ=.agg ((ds.drop off).take n):=by
 unfold Li;cases hb:(Nat.beq off 0&&Nat.beq n len)
 ·simp only[cond_false,PE.ev,h];rfl
 ·simp only[aj] at hb;obtain rfl:=aw hb.1;obtain rfl:=aw hb.2;simp only[cond_true,PE.ev,h,List.drop_zero,←hl,FQ]
theorem D0 (h:Inv C S ρ σ own hv w0 σ0 A a w)(hC:CtxOK C σ0)(hg:holds gs ρ=true){T:TypeId}{x:Operand}{r:Sh×List PI}(hr:tg C S gs dst T x=some r){o:Oper}(ho:o.op=.load T x):
 eT C S ρ σ hv Φ dst a w o r:=by
 unfold tg at hr;split at hr
 case h_2=>cases hr
 rename_i inf ag hi ha;have er:aE C S ρ σ hv (fp S gs x) (a.eval x) ((qz x).ev ρ):=by
  cases x with
  |tmp t=>exact(m8 h hg t).1
  |_=>trivial
 split at hr
 ·
  rename_i j ver off es;rw[es] at er;cases hb:Nat.beq ver (S.ver j)<;>simp only[hb,cond_true,cond_false] at hr
  ·cases hr
  have dO:=aw hb;obtain⟨k,fj,gd⟩:=er.2 dO;have aY:=h.objs j;split at hr
  ·rename_i bag shs eo;rw[eo] at aY;obtain⟨k',cs,T',ds,h1,h2,h3,h4,h5,h6,h7⟩:=aY;rw[fj] at h1;cases h1;cases ag with
   |true=>
    simp only[cond_true] at hr;cases hle:Nat.ble (off+inf.size) shs.length<;>simp only[hle,cond_true,cond_false] at hr
    ·cases hr
    have Nv:=km hle;have hlen:((shs.drop off).take inf.size).length=inf.size:=by simp;omega
    have dL:∀m u,((cs.toList.drop off).take inf.size)[m]?=some u→w.cell? ⟨k,off+m,none⟩=some u:=fun m u hu=>by
     simp only[dA,dZ] at hu;split at hu
     ·rename_i hm;have:=LZ h3 (i:=off+m) (by omega);rw[this,←zn];exact congrArg some (sF hu)
     ·cases hu
    have Xu:=vn ho gd (Kh hi ha (by simp;omega) (fun e=>by cases e) dL);split at hr
    ·rename_i l hl;cases hr
     revert hl
     cases Lg C j
     ·intro hl;cases hl
     intro hl
     obtain⟨ll,lo⟩:=Ux (cs:=cs) (ds:=ds) _ off l hl (fun m s hm=>by
      simp only[dA,dZ] at hm;split at hm
      ·exact(h7 (off+m) s hm).2
      ·cases hm)
     rw[hlen] at ll;refine fun ρ' af=>⟨_,_,tD af,Xu,⟨(cs.toList.drop off).take inf.size,(ds.drop off).take inf.size,by simp[rowOf],adf h5 h6,by simp;omega,by simp;omega,fun m c hm=>?_⟩,fun _ _ e=>by cases e⟩
     have p7:m<inf.size:=by have:=(eE.1 hm).1;omega
     have:=lo m c hm;simpa [aH,dA,dZ,p7] using this
    simp only[ax] at hr;obtain⟨p,hp,rfl⟩:=hr
    obtain⟨l1,es,⟨he,_⟩,l2,bN⟩:=L7 (b:=.o j) h (cs:=cs.toList) h5 _ off p (fun m s hm=>by
     simp only[dA,dZ] at hm;split at hm
     ·have:=(h7 (off+m) s hm).2;rw[zn];exact this
     ·cases hm) hp
    refine .dat (v:=rowOf true ((cs.toList.drop off).take inf.size)) Xu ?_
    ·simp only[PE.ev,rowOf,if_true,he];refine .agg _ _ _ (by simp;omega) (by omega) (fun m t hm=>?_) (fun m t hm=>(bN m t hm).1);have p7:m<inf.size:=by have:=(eE.1 hm).1;omega
     have:=(bN m t hm).2;simpa [aH,dA,dZ,p7] using this
   |false=>
    simp only[cond_false] at hr;split at hr
    ·rename_i ty hs;cases dw:ty.one<;>simp only[dw,cond_true,cond_false] at hr
     ·cases hr
     cases hr;have eW:=(h7 off _ hs).2;have ae:off<shs.length:=(eE.1 hs).1;have wM:(loadVar T ⟨k,off,none⟩).run C.P w=.ok (cs.getD off undef) w:=by
      simp[loadVar,uN ha,run_load,LZ h3 (i:=off) (by omega)]
     refine .dat (v:=cs.getD off undef) (vn ho gd wM) ?_;simp only[PE.ev,h5,D.c,D.cells];exact eW
    ·rename_i j' nj hs;cases hr;have eW:=(h7 off _ hs).2;have ae:off<shs.length:=(eE.1 hs).1;have wM:(loadVar T ⟨k,off,none⟩).run C.P w=.ok (cs.getD off undef) w:=by
      simp[loadVar,uN ha,run_load,LZ h3 (i:=off) (by omega)]
     intro ρ' af;exact⟨_,_,tD af,vn ho gd wM,eW,fun _ _ e=>by cases e⟩
    ·cases hr
  ·rename_i ts eo;rw[eo] at aY;obtain⟨k',v,h1,h2,h3⟩:=aY;rw[fj] at h1;cases h1;simp only[ax] at hr;obtain⟨ty,ba,rfl⟩:=hr;obtain⟨vs,ds,rfl,hd,l1,l2,aF,dw⟩:=h2.agg_inv;obtain⟨bN,hlen,l7⟩:=Jq ba l1 l2 aF dw;refine .dat (vn ho gd (Kh hi ha hlen (fun e=>by rw[hlen];exact l7 e) (fun m u hu=>h.cell ?_))) (by rw[Jp (e:=.o j) hd];exact bN);simp only[dA,dZ] at hu;split at hu
   ·exact h3 (off+m) u (by simpa [Value.cells] using hu)
   ·cases hu
  ·rename_i ty ay eo;rw[eo] at aY;obtain⟨k',v,h1,h2,h3⟩:=aY;rw[fj] at h1;cases h1;cases hc:(!ag&&ty.one&&Nat.beq off 0)<;>simp only[hc,cond_true,cond_false] at hr
   ·cases hr
   cases hr;simp only[aj,iy] at hc;have jJ:=aw hc.2;subst jJ;have wM:(loadVar T ⟨k,0,none⟩).run C.P w=.ok v w:=by
        have:=h.cell (h3 0 v (by simp[(h2.oneCell hc.1.2).1]));rw[hc.1.1] at ha;simp[loadVar,uN ha,run_load,this]
   exact .dat (vn ho gd wM) h2
  ·cases hr
 ·
  rename_i j ver size off es;rw[es] at er;cases hb:Nat.beq ver (S.ver j)<;>simp only[hb,cond_true,cond_false] at hr
  ·cases hr
  have dO:=aw hb;obtain⟨k,n,c,ik,i,fj,ur,bo,gd⟩:=er.2 dO;have aY:=h.objs j;split at hr
  ·rename_i T' ts eo;rw[eo] at aY;obtain⟨cells,xs,h1,h2,⟨vs,h3,h4⟩,h5⟩:=aY;cases aC:Nat.beq size ts.length<;>simp only[aC,cond_true,cond_false] at hr
   ·cases hr
   have rn:=aw aC;simp only[ax] at hr;obtain⟨ty,ba,rfl⟩:=hr;rw[fj] at h2;have aS:=h2.cells (g:=k) rfl;obtain⟨b,c',e1,Ny,C1⟩:=xu h2;cases e1;obtain⟨y,hy⟩:∃y,xs[i]?=some y:=⟨_,bu bo⟩
   have Iw:=h3 i y hy;obtain⟨us,ds,uI,hd,l1,l2,aF,dw⟩:=Iw.agg_inv;obtain⟨bN,hlen,l7⟩:=Jq ba l1 l2 aF dw;have aju:(PE.nth (.o j) (qz x)).ev ρ=.agg ds:=by
        simp only[PE.ev,h1,D.l_list,ur,D.i_int,vL];rw[sF hy,hd]
   refine .dat (vn ho gd (Kh hi ha hlen (fun e=>by rw[hlen];exact l7 e) (fun m u hu=>?_))) (by rw[Jp aju];exact bN);simp only[dA,dZ] at hu;split at hu
   ·have:=h4 i (off+m) u (by omega) (by rw[uI];simpa [Value.cells] using hu);have:=aS _ _ this;rw[sn] at this;simpa [Ty.size,rn,tS] using this
   ·cases hu
  ·rename_i T' e ay eo;rw[eo] at aY;obtain⟨cells,xs,h1,h2,⟨vs,h3,h4⟩,h5⟩:=aY;cases hc:(!ag&&e.one&&Nat.beq off 0&&Nat.beq size 1)<;>simp only[hc,cond_true,cond_false] at hr
   ·cases hr
   cases hr;simp only[aj,iy] at hc;have jJ:=aw hc.1.2;have aC:=aw hc.2;subst jJ;subst aC;rw[fj] at h2;have aS:=h2.cells (g:=k) rfl;obtain⟨b,c',e1,Ny,C1⟩:=xu h2;cases e1;obtain⟨y,hy⟩:∃y,xs[i]?=some y:=⟨_,bu bo⟩
   have Iw:=h3 i y hy;have wM:(loadVar T ⟨k,i*1+0,none⟩).run C.P w=.ok (vs i) w:=by
        have h6:=h4 i 0 (vs i) bo (by simp[(Iw.oneCell hc.1.1.2).1]);have:=aS _ _ h6;rw[sn] at this;have CN:e.size=1:=by cases e<;>simp_all [Ty.size,Ty.one]
        rw[hc.1.1.1] at ha;rw[CN] at this;simp only[fq,iz,Nat.mul_one] at this;simp[loadVar,uN ha,run_load,this]
   refine .dat (vn ho gd wM) ?_;simp only[PE.ev,h1,D.l_list,ur,D.i_int,vL];rw[sF hy];exact Iw
  ·cases hr
 ·simp only[ao] at hr;obtain⟨p,hp,hr⟩:=hr;have aT:=cB h hC hg hp;split at hr
  ·rename_i ty e1;rw[e1] at aT;cases hc:(Nat.beq inf.size ty.size&&(ag==ty.rowT))<;>simp only[hc,cond_true,cond_false] at hr
   ·cases hr
   cases hr;simp only[aj] at hc;exact amX h hi ha ho aT hc.1 hc.2
  ·cases hr
end
end Cx
namespace Cx
open Go Go.RowKit
section
variable {C:Ctx} {S:St} {ρ:Env} {σ:Im} {own:Nat→Option Nat} {hv:Nat→Value} {w0:World} {σ0:Base} {A:Nat→Prop} {a:Act} {w:World} {gs:List (Nat×Bool)} {Φ:aV} {dst:Nat}
theorem rL (h:Inv C S ρ σ own hv w0 σ0 A a w)(hg:holds gs ρ=true)(x:Operand):aE C S ρ σ hv (fp S gs x) (a.eval x) ((qz x).ev ρ)∧∀bP s,fp S gs x≠.opt bP s:=by
 cases x with
 |tmp t=>exact m8 h hg t
 |_=>exact⟨trivial,fun _ _ e=>by cases e⟩
theorem VE {P:Program}{T:TypeId}{i:Nat}{f:Field}(h:Cf P T i=some f):∃fs,P.underlying T=some (.struct fs)∧fs[i]?=some f:=by
 unfold Cf at h;split at h
 ·rename_i fs hu;exact⟨fs,hu,h⟩
 ·cases h
theorem Rj {o:Oper}{T:TypeId}{x:Operand}{i:Nat}{f:Field}{inf:TypeInfo}{k off:Nat}(ho:o.op=.fieldAddr T x i)(hf:Cf C.P T i=some f)(hi:C.P.info? f.type=some inf)(hn:Nat.beq inf.size 0=false)
 (hx:a.eval x=.pointer (some ⟨k,off,none⟩)):(execOp a.eval o).run C.P w=.ok (.value (.pointer (some ⟨k,off+f.offset,none⟩))) w:=by
 obtain⟨fs,hu,uv⟩:=VE hf;have jI:inf.size≠0:=by intro e;simp[e] at hn
 simp[execOp,ho,Instr.fieldAt,run_underlying hu,uv,hx,Instr.sureAddr,fieldPlace,Go.sizeOf,run_typeInfo w hi,jI,sn]
theorem amM (h:Inv C S ρ σ own hv w0 σ0 A a w)(hC:CtxOK C σ0)(hg:holds gs ρ=true){T:TypeId}{x:Operand}{i:Nat}{r:Sh×List PI}(hr:Al C S gs dst T x i=some r){o:Oper}(ho:o.op=.fieldAddr T x i):
 eT C S ρ σ hv Φ dst a w o r:=by
 simp only[Al,ao] at hr;obtain⟨f,hf,hr⟩:=hr;obtain⟨er,eY⟩:=rL h hg x;split at hr
 case h_2=>cases hr
 rename_i inf ag hi ha;cases hn:Nat.beq inf.size 0<;>simp only[hn,cond_true,cond_false] at hr
 case true=>cases hr
 split at hr
 ·rename_i j ver size off es;cases hb:Nat.beq ver (S.ver j)<;>simp only[hb,cond_true,cond_false] at hr
  ·cases hr
  cases hr;rw[es] at er;intro ρ' af;obtain⟨k,n,c,ik,idx,fj,ur,bo,gd⟩:=er.2 (aw hb);exact⟨_,_,tD af,Rj ho hf hi hn gd,⟨er.1,fun _=>⟨k,n,c,ik,idx,fj,ur,bo,by rw[tS]⟩⟩,fun _ _ e=>by cases e⟩
 ·split at hr
  ·rename_i ts e hu;have aT:=cB h hC hg hu;simp only[ax] at hr;obtain⟨ty,ba,rfl⟩:=hr;obtain⟨k,off,v,y,aQ,bh,bN,ji⟩:=Rep.ref_inv aT;obtain⟨vs,ds,rfl,rfl,l1,l2,aF,dw⟩:=bN.agg_inv;obtain⟨oG,hlen,l7⟩:=Jq ba l1 l2 aF dw;refine .dat (Rj ho hf hi hn aQ) ?_;have hde:(PE.deref e).ev ρ=.agg ds:=by simp only[PE.ev,bh,D.deref]
   simp only[PE.ev];rw[Jp hde];refine .ref ty k (off+f.offset) _ _ oG (fun j u hu=>?_);have lx:((vs.drop f.offset).take inf.size)[j]?=some u:=by
        cases ag with
        |true=>simpa [rowOf,Value.cells] using hu
        |false=>
         have:=l7 rfl;rw[this] at hlen ⊢;obtain⟨q,hq⟩:∃q,(vs.drop f.offset).take 1=[q]:=by
          match(vs.drop f.offset).take 1,hlen with
          |[q],_=>exact⟨q,rfl⟩
         rw[this] at oG hu;rw[hq] at oG hu ⊢;simp only[rowOf,rW] at oG hu;have uG:ty.rowT=false:=by
          unfold uY at ba;cases hle:Nat.ble (f.offset+inf.size) ts.length<;>simp only[hle,cond_true,cond_false] at ba
          ·cases ba
          ·cases hb:Nat.beq inf.size 1<;>simp only[hb,cond_true,cond_false] at ba
           ·cases ba
           ·have:=dw _ _ ba;cases ty<;>simp_all [Ty.one,Ty.rowT]
         rw[oG.cells1 uG] at hu;simpa using hu
   simp only[dA,dZ] at lx;split at lx
   ·have:=ji (f.offset+j) u (by simpa [Value.cells] using lx)
    rwa [←tS] at this
   ·cases lx
  ·split at hr
   ·rename_i j ver off es;cases hb:Nat.beq ver (S.ver j)<;>simp only[hb,cond_true,cond_false] at hr
    ·cases hr
    cases hr;rw[es] at er;intro ρ' af;obtain⟨k,fj,gd⟩:=er.2 (aw hb);exact⟨_,_,tD af,Rj ho hf hi hn gd,⟨er.1,fun _=>⟨k,fj,rfl⟩⟩,fun _ _ e=>by cases e⟩
   ·cases hr
theorem amO (h:Inv C S ρ σ own hv w0 σ0 A a w)(hC:CtxOK C σ0)(hg:holds gs ρ=true){T:TypeId}{x:Operand}{i:Nat}{r:Sh×List PI}(hr:Ak C S gs dst T x i=some r){o:Oper}(ho:o.op=.field T x i):
 eT C S ρ σ hv Φ dst a w o r:=by
 simp only[Ak,ao] at hr;obtain⟨f,hf,hr⟩:=hr;split at hr
 case h_2=>cases hr
 rename_i inf ag hi ha;split at hr
 case h_2=>cases hr
 rename_i ts e hu;have aT:=cB h hC hg hu;simp only[ax] at hr;obtain⟨ty,ba,rfl⟩:=hr;obtain⟨vs,ds,aQ,bh,l1,l2,aF,dw⟩:=Rep.agg_inv aT;obtain⟨oG,hlen,l7⟩:=Jq ba l1 l2 aF dw;obtain⟨fs,lx,uv⟩:=VE hf;have hle:f.offset+inf.size≤ts.length:=by
  unfold uY at ba;cases hle:Nat.ble (f.offset+inf.size) ts.length<;>simp only[hle,cond_true,cond_false] at ba
  ·cases ba
  ·exact km hle
 refine .dat (v:=rowOf ag ((vs.drop f.offset).take inf.size)) ?_ (by rw[Jp bh];exact oG);cases ag with
 |true=>
  simp only[execOp,ho,Instr.field,aQ,asAgg,part];simp[run_underlying lx,uv,uN ha,Go.sizeOf,run_typeInfo w hi,rowOf]
 |false=>
  have hn:=l7 rfl;have ae:f.offset<vs.length:=by omega
  simp only[execOp,ho,Instr.field,aQ,asAgg,part];simp[run_underlying lx,uv,uN ha,rowOf,hn,bu ae,aH,dA,dZ]
theorem abN {o:Oper}{T e:TypeId}{x i:Operand}{inf:TypeInfo}{k off n c idx:Nat}{ik:IntKind}(ho:o.op=.indexAddr T x i)(hT:C.P.underlying T=some (.slice e))(hi:C.P.info? e=some inf)
 (hx:a.eval x=.slice (some ⟨k,off,none⟩) n c) (aiX:a.eval i=.int ik idx) (ae:idx<n):(execOp a.eval o).run C.P w=.ok (.value (.pointer (some ⟨k,off+idx*inf.size,none⟩))) w:=by
 simp[execOp,ho,Instr.indexAt,run_underlying hT,hx,aiX,asIntOf,ae,Go.sizeOf,run_typeInfo w hi,sn]
theorem Kq {P:Program}{T:TypeId}{t:Ty}(h:rM P T t=true):∃inf,P.info? T=some inf∧inf.size=t.size:=by
 unfold rM at h;split at h
 ·rename_i i hi;exact⟨i,hi,aw h⟩
 ·cases h
theorem amR (h:Inv C S ρ σ own hv w0 σ0 A a w)(hC:CtxOK C σ0)(hg:holds gs ρ=true){T:TypeId}{x i:Operand}{r:Sh×List PI}(hr:An C S gs dst T x i=some r){o:Oper}(ho:o.op=.indexAddr T x i):
 eT C S ρ σ hv Φ dst a w o r:=by
 unfold An at hr;split at hr
 case h_2=>cases hr
 rename_i e hT;simp only[ao] at hr;obtain⟨p,hp,hr⟩:=hr;have aT:=cB h hC hg hp;split at hr
 case h_2=>cases hr
 rename_i ik e1;rw[e1] at aT;obtain⟨idx,aQ,bh,b1,b2⟩:=aT.int_inv;split at hr
 ·rename_i t pe hu;have dD:=cB h hC hg hu;cases aC:rM C.P e t<;>simp only[aC,cond_true,cond_false] at hr
  ·cases hr
  cases hr;obtain⟨inf,hi,hs⟩:=Kq aC;obtain⟨xs,hd,q9⟩:=Rep.slice_inv dD;refine .datc hg fun hc=>?_;simp only[PE.ev,hd,bh,D.l_list,D.i_int,D.b_bool,decide_eq_true_eq] at hc;rcases q9 with⟨_,rfl⟩|⟨k,off,c,uK,h1,h2,vs,h3,h4⟩
  ·simp at hc;omega
  ·obtain⟨m,rfl⟩:=tN hc.1;have ae:m<xs.length:=by omega
   refine⟨_,abN ho hT hi uK aQ ae,?_⟩;obtain⟨y,hy⟩:∃y,xs[m]?=some y:=⟨_,bu ae⟩
   simp only[PE.ev,hd,bh,D.l_list,D.i_int,vL,sF hy];exact .ref t.unf k _ (vs m) y (h3 m y hy) (fun j u hu=>by rw[hs];exact h4 m j u ae hu)
 ·cases hr
 ·obtain⟨er,eY⟩:=rL h hg x;split at hr
  ·rename_i j ver es;rw[es] at er;cases hb:Nat.beq ver (S.ver j)<;>simp only[hb,cond_true,cond_false] at hr
   ·cases hr
   have dO:=aw hb;have aY:=h.objs j;have cl:=er.2 dO;split at hr
   ·rename_i T' t eo;rw[eo] at aY;cases aC:rM C.P e t<;>simp only[aC,cond_true,cond_false] at hr
    ·cases hr
    cases hr;obtain⟨inf,hi,hs⟩:=Kq aC;obtain⟨cells,xs,h1,h2,⟨vs,h3,h4⟩,h5⟩:=aY;intro ρ' af;obtain⟨hc,hρ⟩:=Rk hg af;simp only[PE.ev,h1,bh,D.l_list,D.i_int,D.b_bool,decide_eq_true_eq] at hc;obtain⟨m,rfl⟩:=tN hc.1;have ae:m<xs.length:=by omega
    rcases h2.2 with⟨_,e0⟩|⟨g,cap,cur,fj,_⟩
    ·omega
    ·refine⟨_,_,hρ,abN ho hT hi (cl.trans fj) aQ ae,⟨by omega,fun _=>⟨g,xs.length,cap,ik,m,fj,bh,ae,?_⟩⟩,fun _ _ e=>by cases e⟩;rw[hs];simp
   ·cases hr
  ·cases hr
theorem amT (h:Inv C S ρ σ own hv w0 σ0 A a w)(hC:CtxOK C σ0)(hg:holds gs ρ=true){T:TypeId}{x i:Operand}{r:Sh×List PI}(hr:Am C S gs dst T x i=some r){o:Oper}(ho:o.op=.index T x i):
 eT C S ρ σ hv Φ dst a w o r:=by
 unfold Am at hr;split at hr
 case h_2=>cases hr
 rename_i hT;simp only[ao] at hr;obtain⟨p,hp,q,hq,hr⟩:=hr;have aT:=cB h hC hg hp;have dW:=cB h hC hg hq;split at hr
 case h_2=>cases hr
 rename_i ik e1 e2;rw[e1] at aT;rw[e2] at dW;obtain⟨idx,aQ,bh,b1,b2⟩:=aT.int_inv;obtain⟨s,iS,dM,_⟩:=dW.str_inv;cases hr;refine .datc hg fun hc=>?_;simp only[PE.ev,dM,bh,D.s_str,D.i_int,D.b_bool,decide_eq_true_eq] at hc;obtain⟨m,rfl⟩:=tN hc.1;have ae:m<s.size:=by omega
 refine⟨.int .u8 (s.data.getD m 0).toNat,?_,?_⟩
 ·have:s[m]?=some (s.data.getD m 0):=by
   rw[getElem?_pos s m ae];simp[ByteArray.getElem_eq_getElem_data,eK,eC (show m<s.data.size from ae)]
  simp[execOp,ho,Instr.index,run_underlying hT,aQ,iS,asIntOf,this]
 ·simp only[PE.ev,dM,bh,D.s_str,D.i_int,vL];refine .int _ _ ?_ ?_
  ·simp only[IntKind.min,IntKind.signed];simp
  ·simp only[IntKind.max,IntKind.signed,IntKind.bits];have:=UInt8.toNat_lt (s.data.getD m 0);simp at this ⊢;omega
end
end Cx
namespace Cx
open Go Go.RowKit
section
variable {C:Ctx} {S:St} {ρ:Env} {σ:Im} {own:Nat→Option Nat} {hv:Nat→Value} {w0:World} {σ0:Base} {A:Nat→Prop} {a:Act} {w:World} {gs:List (Nat×Bool)} {Φ:aV} {dst:Nat}
theorem arl (h:Inv C S ρ σ own hv w0 σ0 A a w)(hC:CtxOK C σ0)(hg:holds gs ρ=true){lo:Option Operand}{l:Ty×PE}{k:IntKind}(hl:Ft C S gs lo=some l)(hk:l.1=.int k):
 ∃n,l.2.ev ρ=.v (.int k n)∧((lo=none∧n=0)∨∃x,lo=some x∧a.eval x=.int k n):=by
 cases lo with
 |none=>simp[Ft] at hl;subst hl;simp at hk;subst hk;exact⟨0,rfl,.inl ⟨rfl,rfl⟩⟩
 |some x=>
  have:=cB h hC hg hl;rw[hk] at this;obtain⟨n,h1,h2,_⟩:=this.int_inv;exact⟨n,h2,.inr ⟨x,rfl,h1⟩⟩
theorem arj (h:Inv C S ρ σ own hv w0 σ0 A a w)(hC:CtxOK C σ0)(hg:holds gs ρ=true){e:PE}{hi:Option Operand}{l:Ty×PE}{k:IntKind}(hl:Fs C S gs e hi=some l)(hk:l.1=.int k):
 ∃n,l.2.ev ρ=.v (.int k n)∧((hi=none∧n=(e.ev ρ).l.length)∨∃x,hi=some x∧a.eval x=.int k n):=by
 cases hi with
 |none=>simp[Fs] at hl;subst hl;simp at hk;subst hk;exact⟨_,rfl,.inl ⟨rfl,rfl⟩⟩
 |some x=>
  have:=cB h hC hg hl;rw[hk] at this;obtain⟨n,h1,h2,_⟩:=this.int_inv;exact⟨n,h2,.inr ⟨x,rfl,h1⟩⟩
theorem run_sliceBound {P:Program}{x:Value}{y i:Nat}{k:IntKind}{code:BoundsCode}{w:World}(hx:x=.int k i)(h:i≤y):(Instr.sliceBound x y code).run P w=.ok i w:=by
 subst hx;simp[Instr.sliceBound,asIntOf,h]
theorem am6 (h:Inv C S ρ σ own hv w0 σ0 A a w)(hC:CtxOK C σ0)(hg:holds gs ρ=true){T:TypeId}{x:Operand}{lo hi mx:Option Operand}{r:Sh×List PI}(hr:As C S gs dst T x lo hi mx=some r){o:Oper}(ho:o.op=.slice T x lo hi mx):
 eT C S ρ σ hv Φ dst a w o r:=by
 unfold As at hr;split at hr
 case h_3=>cases hr
 case h_2=>
  rename_i n e hT;split at hr
  case h_2=>cases hr
  simp only[ao] at hr;obtain⟨p,hp,hr⟩:=hr;have aT:=cB h hC hg hp;split at hr
  case h_2=>cases hr
  rename_i t ts e1;cases hc:(Nat.beq n (ts.length+1)&&ts.all (Ty.beq t)&&t.one&&rM C.P e t&&Nat.ble n maxLen)<;>simp only[hc,cond_true,cond_false] at hr
  ·cases hr
  cases hr;simp only[aj] at hc;obtain⟨⟨⟨⟨c1,c2⟩,c3⟩,c4⟩,c5⟩:=hc;have hn:=aw c1;have hm:=km c5;obtain⟨inf,oC,hs⟩:=Kq c4;rw[e1] at aT;obtain⟨k,off,x0,y,uK,hd,hr0,ji⟩:=aT.ref_inv;obtain⟨vs,ds,rfl,rfl,l1,l2,jj,_⟩:=hr0.agg_inv
  have aF:∀(i:Nat),i<n→(t::ts)[i]?=some t:=fun i hi=>by
   cases i with
   |zero=>rfl
   |succ i=>
    have ae:i<ts.length:=by omega
    rw[FJ,bu ae];rw[Ty.beq_eq _ _ (bz.1 c2 _ (dJ ae))]
  have Nw:vs.length=n:=by rw[l1,hn];rfl
  have zJ:ds.length=n:=by rw[l2,hn];rfl
  have dw:t.size=1:=by cases t<;>simp_all [Ty.one,Ty.size]
  refine eT.dat (v:=.slice (some ⟨k,off,none⟩) n n) ?_ ?_
  ·have:Addr.add ⟨k,off,none⟩ 0=⟨k,off,none⟩:=by simp[Addr.add]
   simp[execOp,ho,Instr.sliceAt,run_underlying hT,uK,Instr.sureAddr,Instr.sliceBounds,Go.sizeOf,run_typeInfo w oC,this]
  ·have aje:(PE.lst ((List.range n).map fun i=>.cell (.deref p.2) i)).ev ρ=.list ds:=by
        simp only[PE.ev]
        congr 1
        have bI:∀l:List PE,PE.evs ρ l=l.map fun e=>e.ev ρ:=fun l=>by induction l with|nil=>rfl|cons e l ih=>simp[PE.evs,ih]
        rw[bI,K3];apply KS;intro i;rw[cK];by_cases hi:i<n
        ·rw[qK hi,bu (by omega)];simp only[kU,Function.comp,PE.ev,hd,D.deref,D.c,D.cells];rw[aH,bu (by omega)];rfl
        ·rw[rX (by simp;omega),rX (by omega)];rfl
   rw[aje];refine .slice t k off n n ds (fun i=>vs.getD i undef) zJ (aX _) hm (fun i x hx=>?_) (fun i j u hi hu=>?_)
   ·have ae:i<n:=by rw[←zJ];exact(eE.1 hx).1
    have:=jj i t (aF i ae);rw[sF hx] at this;exact this.unf
   ·have h1:=(jj i t (aF i hi)).oneCell c3;rw[h1.1] at hu;cases j with
    |zero=>
     simp at hu;have:=ji i (vs.getD i undef) (by
      simp only[Value.cells];rw[FK,bu (by omega),aH,bu (by omega)];rfl)
     rw[dw,←hu];simpa using this
    |succ j=>simp at hu
 rename_i e hT;simp only[ao] at hr;obtain⟨p,hp,hr⟩:=hr;have aT:=cB h hC hg hp;split at hr
 case h_2=>cases hr
 rename_i t e1;rw[e1] at aT;simp only[ao] at hr;obtain⟨l,hl,u,hu,hr⟩:=hr;split at hr
 case h_2=>cases hr
 rename_i k1 k2 e2 e3;cases aC:rM C.P e t<;>simp only[aC,cond_true,cond_false] at hr
 ·cases hr
 cases hr;obtain⟨inf,oC,hs⟩:=Kq aC;obtain⟨n1,bh,wL⟩:=arl h hC hg hl e2;obtain⟨n2,dM,Np⟩:=arj h hC hg hu e3;obtain⟨xs,hd,q9⟩:=Rep.slice_inv aT;refine .datc hg fun hc=>?_;simp only[PE.ev,hd,bh,dM,D.l_list,D.i_int,D.b_bool,decide_eq_true_eq] at hc;obtain⟨m1,rfl⟩:=tN hc.1;obtain⟨m2,rfl⟩:=tN (show 0≤n2 by omega);have wx:m1≤m2:=by omega
 have h2l:m2≤xs.length:=by omega
 have Wx:∀c,xs.length≤c→(Instr.sliceBounds true xs.length c (lo.map a.eval) (hi.map a.eval) none).run C.P w=.ok (m1,m2,c) w:=by
  intro c lh
  have hh:∀code,(match hi.map a.eval with|some v=>Instr.sliceBound v c code|none=>(pure xs.length:Sem Nat)).run C.P w=.ok m2 w:=by
   intro code;rcases Np with⟨rfl,e⟩|⟨y,rfl,e⟩
   ·rw[hd,D.l_list] at e;simp;omega
   ·simp only[kU];exact run_sliceBound e (by omega)
  have p6:∀code,(match lo.map a.eval with|some v=>Instr.sliceBound v m2 code|none=>(pure 0:Sem Nat)).run C.P w=.ok m1 w:=by
   intro code;rcases wL with⟨rfl,e⟩|⟨y,rfl,e⟩
   ·simp;omega
   ·simp only[kU];exact run_sliceBound e wx
  have WR:=hh .sliceAcap;have W5:=p6 .sliceB;unfold Instr.sliceBounds;cases hi<;>cases lo<;>simp at WR W5 ⊢<;>simp[WR,W5]
 rcases q9 with⟨⟨p0,uK⟩,rfl⟩|⟨k,off,c,uK,h1,h2,vs,h3,h4⟩
 ·have:m2=0:=by simpa using h2l
  have:m1=0:=by omega
  subst_vars
  refine⟨.slice p0 0 0,?_,?_⟩
  ·have hb:=Wx 0 (aX _);simp only[Bg] at hb;cases p0 with
   |none=>simp[execOp,ho,Instr.sliceAt,Instr.slice,run_underlying hT,uK,hb,Go.sizeOf,run_typeInfo w oC]
   |some a0=>simp[execOp,ho,Instr.sliceAt,Instr.slice,run_underlying hT,uK,hb,Go.sizeOf,run_typeInfo w oC]
  ·simp only[PE.ev,hd,bh,dM,D.l_list,D.i_int];cases p0 with
   |none=>exact .nil t
   |some a0=>exact .emp t a0
 ·refine⟨.slice (some (if c=m1 then⟨k,off,none⟩ else⟨k,off+m1*inf.size,none⟩)) (m2-m1) (c-m1),?_,?_⟩
  ·have hb:=Wx c h1;simp only[execOp,ho,Option.map_none,Instr.sliceAt,run_underlying hT,uK];simp[run_underlying hT,Instr.slice,hb,Go.sizeOf,run_typeInfo w oC,sn];split<;>simp
  ·simp only[PE.ev,hd,bh,dM,D.l_list,D.i_int,vL];have hlen:((xs.take m2).drop m1).length=m2-m1:=by simp;omega
   have jj:∀(i:Nat) (y:D),((xs.take m2).drop m1)[i]?=some y→xs[m1+i]?=some y:=by
        intro i y hy;simp only[dZ,dA] at hy;split at hy
        ·exact hy
        ·cases hy
   have ji:∀(i j:Nat) (v:Value),i<m2-m1→(vs (m1+i)).cells[j]?=some v→σ.c k (off+m1*inf.size+i*t.size+j)=some v:=by
        intro i j v hi hj;have:=h4 (m1+i) j v (by omega) hj;rw[pw] at this;rw[hs]
        rwa [←tS] at this
   split
   ·rename_i zA;refine .slice t k off (m2-m1) (c-m1) _ (fun i=>vs (m1+i)) hlen (by omega) (by omega) (fun i y hy=>h3 _ _ (jj i y hy)) (fun i j v hi hj=>by omega)
   ·exact .slice t k (off+m1*inf.size) (m2-m1) (c-m1) _ (fun i=>vs (m1+i)) hlen (by omega) (by omega) (fun i y hy=>h3 _ _ (jj i y hy)) ji
theorem acq (h:Inv C S ρ σ own hv w0 σ0 A a w)(hC:CtxOK C σ0)(hg:holds gs ρ=true):∀(xs:List Operand) (r:List Ty×List PE),kN C S gs xs=some r→
 r.1.length=xs.length∧r.2.length=xs.length∧∀(i:Nat) (t:Ty),r.1[i]?=some t→Rep C.cap σ t ((xs.map a.eval).getD i undef) ((PE.evs ρ r.2).getD i .none):=by
 intro xs
 induction xs with
 |nil=>intro r hr;simp[kN] at hr;subst hr;exact⟨rfl,rfl,by simp⟩
 |cons x xs ih=>
  intro r hr;simp only[kN,ao,ax] at hr;obtain⟨p,hp,q,hq,rfl⟩:=hr;obtain⟨l1,l2,aF⟩:=ih q hq;refine⟨by simp[l1],by simp[l2],fun i t hi=>?_⟩;cases i with
  |zero=>simp at hi;subst hi;simpa [PE.evs] using cB h hC hg hp
  |succ i=>simp at hi;simpa [PE.evs] using aF i t hi
theorem amP (h:Inv C S ρ σ own hv w0 σ0 A a w)(hC:CtxOK C σ0)(hg:holds gs ρ=true){fn:Fn}{first caps:Array Operand}{r:Sh×List PI}(hr:PK C S gs dst fn first caps=some r){o:Oper}(ho:o.op=.makeFunc fn first caps):
 eT C S ρ σ hv Φ dst a w o r:=by
 unfold PK at hr;split at hr
 case h_2=>cases hr
 rename_i f CR;have CO:first=#[]:=by simpa using CR
 subst CO;simp only[ao] at hr;obtain⟨cs,dL,p,hp,hr⟩:=hr;cases hb:Ty.subs p.1 cs.caps<;>simp only[hb,cond_true,cond_false] at hr
 ·cases hr
 cases hr;obtain⟨l1,l2,aF⟩:=acq h hC hg _ _ hp;have hl:=Ty.subs_len _ _ hb;refine .dat (v:=.func (.func f) #[] (caps.map a.eval)) ?_ ?_
 ·simp[execOp,ho,Instr.makeFunc]
 ·simp only[PE.ev];have:caps.map a.eval=(caps.toList.map a.eval).toArray:=by apply rS;rw[vI]
  rw[this];have e1:(caps.toList.map a.eval).length=cs.caps.length:=by rw[fL];omega
  have e2:(PE.evs ρ p.2).length=cs.caps.length:=by rw[PE.evs_eq,fL];omega
  refine .fn f cs _ _ dL e1 e2 (fun i t hi=>?_);obtain⟨s,hs,bZ⟩:=Ty.subs_get _ _ hb i t hi;exact(aF i s hs).sub bZ
theorem am1 (h:Inv C S ρ σ own hv w0 σ0 A a w)(hC:CtxOK C σ0)(hg:holds gs ρ=true){x:Operand}{r:Sh×List PI}(hr:Aq C S gs dst x=some r){o:Oper}(ho:o.op=.nilCheck x):
 eT C S ρ σ hv Φ dst a w o r:=by
 have af:∀k off,a.eval x=.pointer (some ⟨k,off,none⟩)→(execOp a.eval o).run C.P w=.ok (.value (a.eval x)) w:=by
  intro k off e;simp[execOp,ho,e]
 unfold Aq at hr;split at hr
 ·rename_i t e hu;cases hr;have aT:=cB h hC hg hu;obtain⟨k,off,v,y,aQ,bh,bN,ji⟩:=Rep.ref_inv aT;exact .dat (af k off aQ) aT
 ·split at hr
  ·rename_i t _;obtain⟨hs,eY⟩:=m8 h hg t;split at hr
   ·rename_i j ver off es;rw[es] at hs;cases hb:Nat.beq ver (S.ver j)<;>simp only[hb,cond_true,cond_false] at hr
    ·cases hr
    cases hr;obtain⟨k,fj,gd⟩:=hs.2 (aw hb);intro ρ' Dk;exact⟨_,_,tD Dk,af k off gd,hs,fun _ _ e=>by cases e⟩
   ·rename_i j ver sz off es;rw[es] at hs;cases hb:Nat.beq ver (S.ver j)<;>simp only[hb,cond_true,cond_false] at hr
    ·cases hr
    cases hr;have eI:=hs;obtain⟨k,n,c,ik,i,fj,ur,bo,gd⟩:=hs.2 (aw hb);intro ρ' Dk;exact⟨_,_,tD Dk,af _ _ gd,eI,fun _ _ e=>by cases e⟩
   ·cases hr
  ·cases hr
theorem acB {cap:Nat→Option CSig}{t:Ty}{z:Ty×D}{v:Value}(h:qE t=some z)(hz:xS t v=true):Rep cap σ z.1 v z.2∧z.1.one=true∧Ty.sub z.1 t=true:=by
 unfold xS at hz;split at hz
 ·simp at hz;obtain⟨rfl,rfl⟩:=hz;simp[qE] at h;subst h;exact⟨.int _ 0 (by rename_i k;cases k<;>decide) (by rename_i k;cases k<;>decide),rfl,by simp[Ty.sub,Ty.beq]⟩
 ·simp at hz;subst hz;simp[qE] at h;subst h;exact⟨.bool false,rfl,rfl⟩
 ·rename_i s;have:s=ByteArray.empty:=by
   have:s.size=0:=by simpa using hz
   cases s with|mk d=>simp[ByteArray.size] at this;subst this;rfl
  subst this;simp[qE] at h;subst h;exact⟨.str _ (by decide),rfl,rfl⟩
 ·simp[qE] at h;subst h;exact⟨.nils _,rfl,rfl⟩
 ·simp[qE] at h;subst h;refine⟨.mapnil _ _,rfl,?_⟩;simp only[Ty.sub];exact Ty.beq_refl _
 ·simp[qE] at h;subst h;exact⟨.fnnil _ _,rfl,by simp only[Ty.sub];exact Ty.beq_refl _⟩
 ·cases hz
end
end Cx
namespace Cx
open Go Go.RowKit
theorem mapM_some {α β:Type}(f:α→Option β):∀(l:List α) (r:List β),l.mapM f=some r→r.length=l.length∧∀(i:Nat) (x:α),l[i]?=some x→∃y,r[i]?=some y∧f x=some y
 |[],r,h=>by simp at h;subst h;exact⟨rfl,by simp⟩
 |x::l,r,h=>by
  simp only[Ub,Option.bind_eq_bind,ao] at h;obtain⟨y,hy,ys,sV,h⟩:=h;cases h;obtain⟨h1,h2⟩:=mapM_some f l ys sV;refine⟨by simp[h1],fun i z hi=>?_⟩;cases i with
  |zero=>simp at hi;subst hi;exact⟨y,rfl,hy⟩
  |succ i=>simp at hi;simpa using h2 i z hi
theorem TK:∀(ts:List Ty) (vs:List Value),Bb ts vs=true→vs.length=ts.length∧∀(i:Nat) (t:Ty),ts[i]?=some t→∃v,vs[i]?=some v∧xS t v=true
 |[],vs,h=>by cases vs<;>simp_all [Bb]
 |t::ts,vs,h=>by
  cases vs with
  |nil=>simp[Bb] at h
  |cons v vs=>
   simp only[Bb,aj] at h;obtain⟨h1,h2⟩:=TK ts vs h.2;refine⟨by simp[h1],fun i u hi=>?_⟩;cases i with
   |zero=>simp at hi;subst hi;exact⟨v,rfl,h.1⟩
   |succ i=>simp at hi;simpa using h2 i u hi
theorem xT {cap:Nat→Option CSig}{σ:Im}{t:Ty}{z:Ty×D}{v:Value}(h:pk t=some z)(hz:jW t v=true):Rep cap σ z.1 v z.2∧Ty.sub z.1 t=true∧z.1.one=t.one:=by
 cases t with
 |agg ts=>
  simp only[pk,ax] at h;obtain⟨zs,sX,rfl⟩:=h;cases v with
  |agg vs=>
   simp only[jW] at hz;obtain⟨l1,h1⟩:=TK ts vs.toList hz;obtain⟨l2,h2⟩:=mapM_some _ _ _ sX;have key:∀(i:Nat) (t:Ty),ts[i]?=some t→∃y v,zs[i]?=some y∧vs.toList[i]?=some v∧Rep cap σ y.1 v y.2∧y.1.one=true∧Ty.sub y.1 t=true:=by
      intro i t hi;obtain⟨y,hy,nH⟩:=h2 i t hi;obtain⟨v,hv,iS⟩:=h1 i t hi;obtain⟨g1,g2,g3⟩:=acB (cap:=cap) (σ:=σ) nH iS;exact⟨y,v,hy,hv,g1,g2,g3⟩
   have bG:∀(ts:List Ty) (zs:List (Ty×D)),zs.length=ts.length→(∀(i:Nat) (t:Ty),ts[i]?=some t→∃y,zs[i]?=some y∧Ty.sub y.1 t=true)→Ty.subs (zs.map (·.1)) ts=true:=by
      intro ts
      induction ts with
      |nil=>intro zs hl _;cases zs<;>simp_all [Ty.subs]
      |cons t ts ih=>
       intro zs hl hh;cases zs with
       |nil=>simp at hl
       |cons z zs=>
        simp only[gG,Ty.subs,aj];refine⟨?_,ih zs (by simpa using hl) fun i u hu=>by simpa using hh (i+1) u (by simpa using hu)⟩;obtain⟨y,hy,nH⟩:=hh 0 t rfl;simp at hy;subst hy;exact nH
   refine⟨?_,?_,rfl⟩
   ·have:vs=vs.toList.toArray:=by simp
    rw[this];refine .agg _ _ _ (by rw[fL];omega) (by simp) (fun i t hi=>?_) (fun i t hi=>?_)
    ·simp only[cK,ax] at hi;obtain⟨q,hq,rfl⟩:=hi;obtain⟨t',Og⟩:∃t',ts[i]?=some t':=⟨_,bu (by have:=(eE.1 hq).1;omega)⟩
     obtain⟨y,v,hy,hv,g1,g2,g3⟩:=key i t' Og;rw[hq] at hy;cases hy;rw[sF hv,sF (show(zs.map (·.2))[i]?=some q.2 by simp[hq])];exact g1
    ·simp only[cK,ax] at hi;obtain⟨q,hq,rfl⟩:=hi;obtain⟨t',Og⟩:∃t',ts[i]?=some t':=⟨_,bu (by have:=(eE.1 hq).1;omega)⟩
     obtain⟨y,v,hy,hv,g1,g2,g3⟩:=key i t' Og;rw[hq] at hy;cases hy;exact g2
   ·simp only[Ty.sub];exact bG ts zs l2 fun i t hi=>by obtain⟨y,v,hy,hv,g1,g2,g3⟩:=key i t hi;exact⟨y,hy,g3⟩
  |_=>simp[jW] at hz
 |_=>
  obtain⟨g1,g2,g3⟩:=acB (cap:=cap) (σ:=σ) (by simpa [pk] using h) (by simpa [jW] using hz);exact⟨g1,g3,(Ty.sub_one _ _ g3).1⟩
theorem adN {a b:ByteArray}(h:(a==b)=true):a=b:=by
 cases a with|mk x=>cases b with|mk y=>
 have:(x==y)=true:=h;rw[eq_of_beq this]
theorem adO (a:ByteArray):(a==a)=true:=by
 cases a with|mk x=>
 show(x==x)=true;simp
theorem OF {P:Program}{K:TypeId}{kt:Ty}(hk:mT P K kt=true):
 (∃k k',kt=.int k∧P.underlying K=some (.int k'))∨(kt=.str∧P.underlying K=some .string)∨(kt=.bool∧P.underlying K=some .bool):=by
 unfold mT at hk;split at hk
 ·split at hk
  ·exact .inl ⟨_,_,rfl,by assumption⟩
  ·cases hk
 ·split at hk
  ·exact .inr (.inl ⟨rfl,by assumption⟩)
  ·cases hk
 ·split at hk
  ·exact .inr (.inr ⟨rfl,by assumption⟩)
  ·cases hk
 ·cases hk
theorem af6 {cap:Nat→Option CSig}{σ:Im}{P:Program}{K:TypeId}{kt:Ty}{desc:TypeDesc}(hk:mT P K kt=true)(hu:P.underlying K=some desc){v:Value}{d:D}(hv:Rep cap σ kt v d):
 ∀(es:List MapEntry) (ds:List (D×D)) (i:Nat),ds.length=es.length→(∀(j:Nat) (e:MapEntry) (p:D×D),es[j]?=some e→ds[j]?=some p→Rep cap σ kt e.key p.1)→
  (Instr.findNow desc v es i=some none∧∀(j:Nat) (p:D×D),ds[j]?=some p→fa d p.1=false)∨
  ∃j e p,es[j]?=some e∧ds[j]?=some p∧Instr.findNow desc v es i=some (some (i+j,e.val))∧fa d p.1=true∧Instr.sameBits 10000 e.key v=true∧∀m q,m<j→ds[m]?=some q→fa d q.1=false:=by
 have dw:∀(v':Value) (d':D),Rep cap σ kt v' d'→Instr.sameNow desc v v'=some (fa d d')∧(fa d d'=true→Instr.sameBits 10000 v' v=true):=by
  intro v' d' h';rcases OF hk with⟨k,k',rfl,lx⟩|⟨rfl,lx⟩|⟨rfl,lx⟩
  ·rw[hu] at lx;cases lx;obtain⟨n,rfl,rfl,_⟩:=hv.int_inv;obtain⟨m,rfl,rfl,_⟩:=h'.int_inv;refine⟨by simp[Instr.sameNow,fa,D.cells,rq,sZ],fun e=>?_⟩;have:n=m:=by simpa [fa,D.cells,rq,sZ] using e
   subst this;simp[Instr.sameBits]
  ·rw[hu] at lx;cases lx;obtain⟨n,rfl,rfl,_⟩:=hv.str_inv;obtain⟨m,rfl,rfl,_⟩:=h'.str_inv;refine⟨by simp[Instr.sameNow,fa,D.cells,rq,sZ],fun e=>?_⟩;have:n=m:=adN (by simpa [fa,D.cells,rq,sZ] using e);subst this;simpa [Instr.sameBits] using adO n
  ·rw[hu] at lx;cases lx;obtain⟨n,rfl,rfl⟩:=hv.bool_inv;obtain⟨m,rfl,rfl⟩:=h'.bool_inv;refine⟨by simp[Instr.sameNow,fa,D.cells,rq,sZ],fun e=>?_⟩;have:n=m:=by simpa [fa,D.cells,rq,sZ] using e
   subst this;simp[Instr.sameBits]
 intro es
 induction es with
 |nil=>intro ds i hl _;left;exact⟨rfl,by cases ds<;>simp_all⟩
 |cons e es ih=>
  intro ds i hl aF;cases ds with
  |nil=>simp at hl
  |cons p ds=>
   obtain⟨hs,hb⟩:=dw e.key p.1 (aF 0 e p rfl rfl);cases nC:fa d p.1 with
   |true=>
    right;rw[nC] at hs;exact⟨0,e,p,rfl,rfl,by simp[Instr.findNow,hs],nC,hb nC,fun m q hm=>by omega⟩
   |false=>
    rw[nC] at hs;rcases ih ds (i+1) (by simpa using hl) (fun j e' p' he hp=>aF (j+1) e' p' (by simpa using he) (by simpa using hp)) with⟨h1,h2⟩|⟨j,e',p',h1,h2,h3,h4,h5,h6⟩
    ·left;refine⟨by simp[Instr.findNow,hs,h1],fun j q hq=>?_⟩;cases j with
     |zero=>simp at hq;subst hq;exact nC
     |succ j=>exact h2 j q (by simpa using hq)
    ·right;refine⟨j+1,e',p',by simpa using h1,by simpa using h2,?_,h4,h5,fun m q hm hq=>?_⟩
     ·simp[Instr.findNow,hs,h3];omega
     ·cases m with
      |zero=>simp at hq;subst hq;exact nC
      |succ m=>exact h6 m q (by omega) (by simpa using hq)
theorem OW {d:D}:∀{ds:List (D×D)},(∀(j:Nat) (p:D×D),ds[j]?=some p→fa d p.1=false)→mU d ds=none
 |[],_=>rfl
 |p::ds,h=>by simp only[mU,h 0 p rfl];exact OW fun j q hq=>h (j+1) q (by simpa using hq)
theorem OX {d:D}:∀{ds:List (D×D)} {j:Nat} {p:D×D},ds[j]?=some p→fa d p.1=true→(∀(m:Nat) (q:D×D),m<j→ds[m]?=some q→fa d q.1=false)→mU d ds=some p.2
 |[],j,p,hp,_,_=>by simp at hp
 |x::ds,0,p,hp,hk,_=>by simp at hp;subst hp;simp[mU,hk]
 |x::ds,j+1,p,hp,hk,hm=>by
  simp only[mU,hm 0 x (by omega) rfl];exact OX (j:=j) (by simpa using hp) hk fun m q ae hq=>hm (m+1) q (by omega) (by simpa using hq)
theorem P2 {d v:D}:∀{ds:List (D×D)},(∀(j:Nat) (p:D×D),ds[j]?=some p→fa d p.1=false)→lG d v ds=ds++[(d,v)]
 |[],_=>rfl
 |p::ds,h=>by simp only[lG,h 0 p rfl,tK,if_false,FG];rw[P2 fun j q hq=>h (j+1) q (by simpa using hq)]
theorem P3 {d v:D}:∀{ds:List (D×D)} {j:Nat} {p:D×D},ds[j]?=some p→fa d p.1=true→(∀(m:Nat) (q:D×D),m<j→ds[m]?=some q→fa d q.1=false)→lG d v ds=ds.set j (d,v)
 |[],j,p,hp,_,_=>by simp at hp
 |x::ds,0,p,hp,hk,_=>by simp at hp;subst hp;simp[lG,hk]
 |x::ds,j+1,p,hp,hk,hm=>by
  simp only[lG,hm 0 x (by omega) rfl,tK,if_false,List.set_cons_succ];rw[P3 (j:=j) (by simpa using hp) hk fun m q ae hq=>hm (m+1) q (by omega) (by simpa using hq)]
theorem X6 {P:Program}{K:TypeId}{kt:Ty}(hk:zZ P K kt=true):
 ∃k k' e q i,kt=.agg [.int k,.int k']∧P.underlying K=some (.array 2 e)∧P.underlying e=some (.int q)∧P.plainKey e=true∧P.info? e=some i∧P.cellsOf e=1:=by
 unfold zZ at hk;split at hk
 case h_2=>cases hk
 rename_i k k';split at hk
 case h_2=>cases hk
 rename_i n e hu;simp only[aj] at hk;obtain⟨⟨⟨h1,h2⟩,h3⟩,h4⟩:=hk;have hn:=aw h1;subst hn;split at h2
 case h_2=>cases h2
 rename_i q hq;split at h4
 case h_2=>cases h4
 rename_i i hi;exact⟨k,k',e,q,i,rfl,hu,hq,h3,hi,aw h4⟩
theorem Rep.pair_inv {cap:Nat→Option CSig}{σ:Im}{k k':IntKind}{v:Value}{d:D}(h:Rep cap σ (.agg [.int k,.int k']) v d):∃a b,v=.agg #[.int k a,.int k' b]∧d=.agg [.v (.int k a),.v (.int k' b)]:=by
 generalize ht:Ty.agg [.int k,.int k']=t at h;cases h with
 |agg ts vs ds h1 h2 h ho=>
  cases ht;obtain⟨x,y,rfl⟩:∃x y,vs=[x,y]:=by
   match vs,h1 with
   |[x,y],_=>exact⟨x,y,rfl⟩
  obtain⟨p,q,rfl⟩:∃x y,ds=[x,y]:=by
   match ds,h2 with
   |[x,y],_=>exact⟨x,y,rfl⟩
  obtain⟨a,e1,e2,_⟩:=(h 0 _ rfl).int_inv;obtain⟨b,e3,e4,_⟩:=(h 1 _ rfl).int_inv;simp at e1 e2 e3 e4;subst e1 e2 e3 e4;exact⟨a,b,rfl,rfl⟩
 |_=>cases ht
theorem aoI {P:Program}{K e:TypeId}{q:IntKind}{i:TypeInfo}(hu:P.underlying K=some (.array 2 e))(hq:P.underlying e=some (.int q))(hp:P.plainKey e=true)(hi:P.info? e=some i)(hc:P.cellsOf e=1)(k k':IntKind)(a b c d:Int)(w:World):
 (Op.equal K (.agg #[.int k a,.int k' b]) (.agg #[.int k c,.int k' d])).run P w=.ok (a==c&&b==d) w:=by
 unfold Op.equal;show(Op.equalIn (9999+1) K _ _).run P w=_;rw[run_equalIn_array w 9999 _ _ hu hi,hc];have e0:List.range 2=[0,1]:=rfl;have p0:∀(x y:Value) (w:World),(part e #[x,y] 0).run P w=.ok x w:=fun x y w=>run_part_plain w hp rfl;have p1:∀(x y:Value) (w:World),(part e #[x,y] 1).run P w=.ok y w:=fun x y w=>run_part_plain w hp rfl;have q0:∀(k:IntKind) (a b:Int) (w:World),(Op.equalIn 9999 e (.int k a) (.int k b)).run P w=.ok (a==b) w:=fun k a b w=>run_equalIn_int w 9998 e k q a b hq;rw[e0];simp only[Op.eqItems,Sem.run_bind,Nat.zero_mul,Nat.one_mul,p0,p1,Result.andThen_ok,q0];cases a==c
 ·simp
 ·simp only[rU,tK,if_false,Sem.run_bind,p1,Result.andThen_ok,q0];cases b==d<;>simp
theorem X5 {P:Program}{K:TypeId}{kt:Ty}(hk:uO P K kt=true):mT P K kt=true∨zZ P K kt=true:=by
 unfold uO at hk;simpa using hk
theorem aea {cap:Nat→Option CSig}{σ:Im}{P:Program}{K:TypeId}{kt:Ty}(hk:zZ P K kt=true){v:Value}{d:D}(hv:Rep cap σ kt v d){w:World}{b:Bool}:(Instr.checkKey b 10000 K v).run P w=.ok () w:=by
 obtain⟨k,k',e,q,i,rfl,hu,hq,hp,hi,hc⟩:=X6 hk;obtain⟨x,y,rfl,_⟩:=hv.pair_inv;have p0:∀(x y:Value) (w:World),(part e #[x,y] 0).run P w=.ok x w:=fun x y w=>run_part_plain w hp rfl;have p1:∀(x y:Value) (w:World),(part e #[x,y] 1).run P w=.ok y w:=fun x y w=>run_part_plain w hp rfl
 have c0:∀(m:Nat) (k:IntKind) (n:Int) (w:World),(Instr.checkKey b (m+1) e (.int k n)).run P w=.ok () w:=fun m k n w=>by
  simp[Instr.checkKey,run_underlying hq]
 have s0:∀w:World,(Go.sizeOf e).run P w=Result.ok 1 w:=fun w=>by rw[run_sizeOf w hi,hc]
 have main:∀m,(Instr.checkKey b (m+1+1) K (.agg #[.int k x,.int k' y])).run P w=.ok () w:=by
  intro m;rw[Instr.checkKey];simp only[Sem.run_bind,run_underlying hu,Result.andThen_ok,Std.Legacy.Range.forIn_eq_forIn_range',Std.Legacy.Range.size,Nat.sub_zero,Nat.add_one_sub_one,Nat.div_one];simp[List.range',s0,p0,p1,c0,Sem.run_bind,Result.andThen_ok]
 exact main 9998
theorem U5 {cap:Nat→Option CSig}{σ:Im}{P:Program}{K:TypeId}{kt:Ty}(hk:uO P K kt=true){v:Value}{d:D}(hv:Rep cap σ kt v d){w:World}{b:Bool}:(Instr.checkKey b 10000 K v).run P w=.ok () w:=by
 rcases X5 hk with hk|hk
 case inr=>exact aea hk hv
 have:∀n,(Instr.checkKey b (n+1) K v).run P w=.ok () w:=by
  intro n;rcases OF hk with⟨k,k',rfl,hu⟩|⟨rfl,hu⟩|⟨rfl,hu⟩<;>cases v<;>simp[Instr.checkKey,run_underlying hu]
 exact this 9999
section
variable {C:Ctx} {S:St} {ρ:Env} {σ:Im} {own:Nat→Option Nat} {hv:Nat→Value} {w0:World} {σ0:Base} {A:Nat→Prop} {a:Act} {w:World} {gs:List (Nat×Bool)} {Φ:aV} {dst:Nat}
theorem akQ {P:Program}{K:TypeId}{kt:Ty}(hk:mT P K kt=true):∃desc,P.underlying K=some desc:=by
 rcases OF hk with⟨k,k',rfl,hu⟩|⟨rfl,hu⟩|⟨rfl,hu⟩<;>exact⟨_,hu⟩
theorem aoJ {cap:Nat→Option CSig}{P:Program}{K:TypeId}{kt et:Ty}(hk:zZ P K kt=true){v:Value}{d:D}(hv:Rep cap σ kt v d)(arr:Array MapEntry)(ds:List (D×D))(hl:ds.length=arr.size)
 (aF:∀(j:Nat) (e:MapEntry) (p:D×D),arr[j]?=some e→ds[j]?=some p→Rep cap σ kt e.key p.1∧Rep cap σ et e.val p.2) (w:World):
 ((Instr.findKey K v arr.toList).run P w=.ok none w∧mU d ds=none∧∀u,lG d u ds=ds++[(d,u)])∨
 ∃j e p,arr[j]?=some e∧ds[j]?=some p∧(Instr.findKey K v arr.toList).run P w=.ok (some (j,e.val)) w∧mU d ds=some p.2∧(∀u,lG d u ds=ds.set j (d,u))∧Instr.sameBits 10000 e.key v=true:=by
 obtain⟨k,k',e,q,i,rfl,hu,hq,hp,hi,hc⟩:=X6 hk;have dw:∀(v':Value) (d':D),Rep cap σ (.agg [.int k,.int k']) v' d'→(Op.equal K v v').run P w=.ok (fa d d') w∧(fa d d'=true→Instr.sameBits 10000 v' v=true)∧Instr.sameNow (.array 2 e) v v'=none:=by
  intro v' d' h';obtain⟨a,b,rfl,rfl⟩:=hv.pair_inv;obtain⟨a',b',rfl,rfl⟩:=h'.pair_inv;refine⟨?_,fun he=>?_,rfl⟩
  ·rw[aoI hu hq hp hi hc];simp[fa,D.cells,rq,sZ]
  ·have:a=a'∧b=b':=by simpa [fa,D.cells,rq,sZ] using he
   obtain⟨rfl,rfl⟩:=this;simp[Instr.sameBits]
 have ask:∀(es:List MapEntry) (ds:List (D×D)) (i:Nat),ds.length=es.length→(∀(j:Nat) (e:MapEntry) (p:D×D),es[j]?=some e→ds[j]?=some p→Rep cap σ (.agg [.int k,.int k']) e.key p.1)→
  ((Instr.findAsking K v es i).run P w=.ok none w∧∀(j:Nat) (p:D×D),ds[j]?=some p→fa d p.1=false)∨
  ∃j e p,es[j]?=some e∧ds[j]?=some p∧(Instr.findAsking K v es i).run P w=.ok (some (i+j,e.val)) w∧fa d p.1=true∧Instr.sameBits 10000 e.key v=true∧∀m q,m<j→ds[m]?=some q→fa d q.1=false:=by
  intro es
  induction es with
  |nil=>intro ds i hl _;left;exact⟨by simp[Instr.findAsking],by cases ds<;>simp_all⟩
  |cons en es ih=>
   intro ds i hl aF;cases ds with
   |nil=>simp at hl
   |cons p ds=>
    obtain⟨hs,hb,_⟩:=dw en.key p.1 (aF 0 en p rfl rfl);cases nC:fa d p.1 with
    |true=>
     right;rw[nC] at hs;exact⟨0,en,p,rfl,rfl,by simp[Instr.findAsking,hs],nC,hb nC,fun m q hm=>by omega⟩
    |false=>
     rw[nC] at hs;rcases ih ds (i+1) (by simpa using hl) (fun j e' p' he hp=>aF (j+1) e' p' (by simpa using he) (by simpa using hp)) with⟨h1,h2⟩|⟨j,e',p',h1,h2,h3,h4,h5,h6⟩
     ·left;refine⟨by simp[Instr.findAsking,hs,h1],fun j q hq=>?_⟩;cases j with
      |zero=>simp at hq;subst hq;exact nC
      |succ j=>exact h2 j q (by simpa using hq)
     ·right;refine⟨j+1,e',p',by simpa using h1,by simpa using h2,?_,h4,h5,fun m q hm hq=>?_⟩
      ·simp[Instr.findAsking,hs,h3];omega
      ·cases m with
       |zero=>simp at hq;subst hq;exact nC
       |succ m=>exact h6 m q (by omega) (by simpa using hq)
 have ln:(Instr.findKey K v arr.toList).run P w=(Instr.findAsking K v arr.toList 0).run P w:=by
  cases jH:arr.toList with
  |nil=>simp[Instr.findKey,run_underlying hu,Instr.findNow,Instr.findAsking]
  |cons en es=>
   obtain⟨p,Dc⟩:∃p,ds[0]?=some p:=by
        have:0<ds.length:=by rw[hl];have:=congrArg List.length jH;simp at this;omega
        exact⟨_,bu this⟩
   have Nj:arr[0]?=some en:=by rw[←xU,jH];rfl
   have:=(dw en.key p.1 (aF 0 en p Nj Dc).1).2.2;simp[Instr.findKey,run_underlying hu,Instr.findNow,this]
 rw[ln];rcases ask arr.toList ds 0 (by simpa using hl) (fun j e p he hp=>(aF j e p (by simpa using he) hp).1) with⟨h1,h2⟩|⟨j,e,p,h1,h2,h3,h4,h5,h6⟩
 ·left;exact⟨h1,OW h2,fun u=>P2 h2⟩
 ·right;simp only[fq] at h3;exact⟨j,e,p,by simpa using h1,h2,h3,OX h2 h4 h6,fun u=>P3 h2 h4 h6,h5⟩
theorem run_findKey {cap:Nat→Option CSig}{P:Program}{K:TypeId}{kt et:Ty}(zI:uO P K kt=true){v:Value}{d:D}(hv:Rep cap σ kt v d)(arr:Array MapEntry)(ds:List (D×D))(hl:ds.length=arr.size)
 (aF:∀(j:Nat) (e:MapEntry) (p:D×D),arr[j]?=some e→ds[j]?=some p→Rep cap σ kt e.key p.1∧Rep cap σ et e.val p.2) (w:World):
 ((Instr.findKey K v arr.toList).run P w=.ok none w∧mU d ds=none∧∀u,lG d u ds=ds++[(d,u)])∨
 ∃j e p,arr[j]?=some e∧ds[j]?=some p∧(Instr.findKey K v arr.toList).run P w=.ok (some (j,e.val)) w∧mU d ds=some p.2∧(∀u,lG d u ds=ds.set j (d,u))∧Instr.sameBits 10000 e.key v=true:=by
 rcases X5 zI with hk|hk
 case inr=>exact aoJ hk hv arr ds hl aF w
 obtain⟨desc,hu⟩:=akQ hk;rcases af6 hk hu hv arr.toList ds 0 (by simpa using hl) (fun j e p he hp=>(aF j e p (by simpa using he) hp).1) with⟨h1,h2⟩|⟨j,e,p,h1,h2,h3,h4,h5,h6⟩
 ·left;exact⟨by simp[Instr.findKey,run_underlying hu,h1],OW h2,fun u=>P2 h2⟩
 ·right;refine⟨j,e,p,by simpa using h1,h2,?_,OX h2 h4 h6,fun u=>P3 h2 h4 h6,h5⟩;simp only[fq] at h3;simp[Instr.findKey,run_underlying hu,h3]
theorem amZ (h:Inv C S ρ σ own hv w0 σ0 A a w)(hC:CtxOK C σ0)(hg:holds gs ρ=true){T:TypeId}{m k:Operand}{ok:Bool}{r:Sh×List PI}(hr:Ap C S gs dst T m k ok=some r){o:Oper}(ho:o.op=.lookup T m k ok):
 eT C S ρ σ hv Φ dst a w o r:=by
 unfold Ap at hr;split at hr
 case h_2=>cases hr
 rename_i K E hT;simp only[ao] at hr;obtain⟨p,hp,q,hq,hr⟩:=hr;have aT:=TE h hC hg hp;have dW:=cB h hC hg hq;split at hr
 case h_2=>cases hr
 rename_i kt et e1;rw[e1] at aT;split at hr
 case h_2=>cases hr
 rename_i z inf hz oC;cases hc:(Ty.beq q.1 kt&&uO C.P K kt&&Ty.sub z.1 et&&tH inf et)<;>simp only[hc,cond_true,cond_false] at hr
 ·cases hr
 simp only[aj] at hc;obtain⟨⟨⟨Ib,CY⟩,bG⟩,hzero⟩:=hc;rw[Ty.beq_eq _ _ Ib] at dW;obtain⟨v0,qf,DF⟩:∃v0,inf.zero=some v0∧Rep C.cap σ et v0 z.2:=by
  unfold tH at hzero;split at hzero
  ·rename_i v0 e0;exact⟨v0,e0,(xT hz hzero).1.sub bG⟩
  ·cases hzero
 have aiE:∃(arr:Array MapEntry) (ds:List (D×D)),(p.2.ev ρ).m=ds∧ds.length=arr.size∧
  (∀(j:Nat) (e:MapEntry) (p:D×D),arr[j]?=some e→ds[j]?=some p→Rep C.cap σ kt e.key p.1∧Rep C.cap σ et e.val p.2)∧
  ((a.eval m=.map none∧arr=#[])∨∃g clock,a.eval m=.map (some g)∧w.heap[g]?=some (.map arr clock)):=by
  rcases aT with aT|⟨T',e,cells,xs,ht,_⟩|⟨g,arr,clock,es,kt',et',ht,XF,hb,hd,hl,hx,aF⟩
  ·generalize wX:a.eval m=v at aT;generalize CK:p.2.ev ρ=d at aT;cases aT with
   |mapnil=>exact⟨#[],[],by simp[D.m],rfl,by simp,.inl ⟨rfl,rfl⟩⟩
   |map kt et r jU es hm hl hx hk he=>
    obtain⟨_,arr,clock,hb,jH⟩:=(h.ok.m _ _ hm).resolve_right (fun e=>DU hl hk e.1);have hn:es.length=arr.size:=by rw[hl,←jH];simp[entriesOf]
    refine⟨arr,es,by simp[D.m],hn,fun j e p hj hp=>?_,.inr ⟨r,clock,rfl,hb⟩⟩;have:jU[j]?=some (e.key,e.val):=by rw[←jH];simp[entriesOf,hj]
    exact⟨hk j _ p this hp,he j _ p this hp⟩
  ·cases ht
  ·cases ht;exact⟨arr,es,by rw[hd];rfl,hl,aF,.inr ⟨g,clock,XF,hb⟩⟩
 obtain⟨arr,ds,hd,hl,aF,cl⟩:=aiE;have oz:∀b,(Instr.checkKey b 10000 K (a.eval k)).run C.P w=.ok () w:=fun b=>U5 (cap:=C.cap) (σ:=σ) CY dW;have NA:∃u b x,(Instr.lookup T (a.eval m) (a.eval k) ok).run C.P w=.ok (if ok then .tuple #[u,.bool b] else u) w∧(mU (q.2.ev ρ) (p.2.ev ρ).m).getD z.2=x∧(mU (q.2.ev ρ) (p.2.ev ρ).m).isSome=b∧Rep C.cap σ et u x:=by
  rw[hd];rcases run_findKey CY dW arr ds hl aF w with⟨h1,h2,_⟩|⟨j,e,x,h1,h2,h3,h4,_,_⟩
  ·refine⟨v0,false,z.2,?_,by rw[h2];rfl,by rw[h2];rfl,DF⟩;rcases cl with⟨em,rfl⟩|⟨g,clock,em,hb⟩
   ·simp only[List.toList_toArray] at h1;cases ok<;>simp[Instr.lookup,run_underlying hT,em,oz,h1,zeroValue,run_typeInfo w oC,qf]
   ·cases ok<;>simp[Instr.lookup,run_underlying hT,em,getObj,Sem.run,hb,oz,h1,zeroValue,run_typeInfo w oC,qf]
  ·refine⟨e.val,true,x.2,?_,by rw[h4];rfl,by rw[h4];rfl,(aF j e x h1 h2).2⟩;rcases cl with⟨em,rfl⟩|⟨g,clock,em,hb⟩
   ·simp at h1
   ·cases ok<;>simp[Instr.lookup,run_underlying hT,em,getObj,Sem.run,hb,oz,h3]
 obtain⟨u,b,x,af,bU,dh,bN⟩:=NA;cases ok with
 |true=>
  simp only[cond_true] at hr;cases hr;refine .dat (v:=.tuple #[u,.bool b]) (by simp[execOp,ho,af]) ?_;simp only[PE.ev,PE.evs,bU,dh];refine .tup [et,.bool] [u,.bool b] [x,.v (.bool b)] rfl rfl (fun i t hi=>?_)
  match i,hi with
  |0,hi=>simp at hi;subst hi;exact bN
  |1,hi=>simp at hi;subst hi;exact .bool b
  |i+2,hi=>simp at hi
 |false=>
  simp only[cond_false] at hr;cases hr;refine .dat (v:=u) (by simp[execOp,ho,af]) ?_;simp only[PE.ev,bU];exact bN
end
end Cx
namespace Cx
open Go Go.RowKit
theorem VV (off:Nat):∀(l:List Value) (s:Nat) (cells:Array Value),off+s+l.length≤cells.size→
 ((l.zipIdx s).foldl (fun cs (x:Value×Nat)=>cs.setIfInBounds (off+x.2) x.1) cells).size=cells.size∧
 ∀p,((l.zipIdx s).foldl (fun cs (x:Value×Nat)=>cs.setIfInBounds (off+x.2) x.1) cells)[p]?=if off+s≤p∧p<off+s+l.length then l[p-(off+s)]? else cells[p]?
 |[],s,cells,_=>by
  refine⟨rfl,fun p=>?_⟩;have:¬(off+s≤p∧p<off+s+0):=by omega
  simp only[List.zipIdx_nil,List.foldl_nil,Bg];rw[if_neg this]
 |v::l,s,cells,h=>by
  simp only[pv] at h;obtain⟨h1,h2⟩:=VV off l (s+1) (cells.setIfInBounds (off+s) v) (by simp;omega);simp only[List.zipIdx_cons,KW];refine⟨by rw[h1];simp,fun p=>?_⟩;rw[h2 p];by_cases hp:p=off+s
  ·subst hp;have c1:¬(off+(s+1)≤off+s∧off+s<off+(s+1)+l.length):=by omega
   have c2:off+s≤off+s∧off+s<off+s+(v::l).length:=by simp
   rw[if_neg c1,if_pos c2,vG,if_pos rfl,if_pos (by omega)];simp
  ·by_cases hc:off+(s+1)≤p∧p<off+(s+1)+l.length
   ·have c2:off+s≤p∧p<off+s+(v::l).length:=by simp only[pv];omega
    rw[if_pos hc,if_pos c2];rw[show p-(off+s)=(p-(off+(s+1)))+1 by omega];simp
   ·have c2:¬(off+s≤p∧p<off+s+(v::l).length):=by simp only[pv];omega
    rw[if_neg hc,if_neg c2,vG];rw[if_neg (by omega)]
theorem Mx (place:Nat→Option (Nat×Nat)):∀(parts:List (Nat×Value)) (cells:Array Value),
 (∀p,p∈parts→∃o,place p.1=some (o,p.2.cells.size)∧o+p.2.cells.size≤cells.size)→
 (∀i j oi si oj sj,i≠j→place i=some (oi,si)→place j=some (oj,sj)→oi+si≤oj∨oj+sj≤oi)→(parts.map (·.1)).Nodup→
 ∃dB,Instr.fill place cells parts=some dB∧dB.size=cells.size∧
  (∀i v o,(i,v)∈parts→place i=some (o,v.cells.size)→∀m,m<v.cells.size→dB[o+m]?=v.cells[m]?)∧
  (∀i o s,i∉parts.map (·.1)→place i=some (o,s)→∀m,m<s→dB[o+m]?=cells[o+m]?)
 |[],cells,_,_,_=>⟨cells,rfl,rfl,by simp,fun _ _ _ _ _ _ _=>rfl⟩
 |(i,v)::parts,cells,h,zC,bj=>by
  obtain⟨o,hp,hle⟩:=h (i,v) (dR ..);simp only at hp hle;obtain⟨g1,g2⟩:=VV o v.cells.toList 0 cells (by simp;omega);simp only[gG,np] at bj
  have hz:v.cells.zipIdx.foldl (fun cs (x:Value×Nat)=>cs.setIfInBounds (o+x.2) x.1) cells=(v.cells.toList.zipIdx 0).foldl (fun cs (x:Value×Nat)=>cs.setIfInBounds (o+x.2) x.1) cells:=by
    rw[←Array.foldl_toList];simp
  generalize CH:(v.cells.toList.zipIdx 0).foldl (fun cs (x:Value×Nat)=>cs.setIfInBounds (o+x.2) x.1) cells=c1 at g1 g2 hz
  obtain⟨dB,k1,k2,k3,k4⟩:=Mx place parts c1 (fun p hm=>by
    obtain⟨o',h1,h2⟩:=h p (dK _ hm);exact⟨o',h1,by rw[g1];exact h2⟩) zC bj.2
  refine⟨dB,?_,k2.trans g1,?_,?_⟩
  ·simp only[Instr.fill,hp];have:¬((v.cells.size≠v.cells.size||decide (o+v.cells.size>cells.size))=true):=by simp;omega
   rw[if_neg this];rw[←k1,←hz]
  ·intro j u o' hm zN m ae;rcases cW.1 hm with e|fQ
   ·cases e;rw[hp] at zN;cases zN;rw[k4 i o v.cells.size bj.1 hp m ae,g2];rw[if_pos (by simp;omega)];simp
   ·exact k3 j u o' fQ zN m ae
  ·intro j o' s' wO zN m ae;simp only[gG,cW,not_or] at wO;rw[k4 j o' s' wO.2 zN m ae,g2];have:=zC i j o v.cells.size o' s' (fun e=>wO.1 e.symm) hp zN;rw[if_neg (by simp;omega)]
section
variable {C:Ctx} {S:St} {ρ:Env} {σ:Im} {own:Nat→Option Nat} {hv:Nat→Value} {w0:World} {σ0:Base} {A:Nat→Prop} {a:Act} {w:World} {gs:List (Nat×Bool)} {Φ:aV} {dst:Nat}
theorem Rep.flat {cap:Nat→Option CSig}{t:Ty}{v:Value}{d:D}(h:Rep cap σ t v d)(ht:t.rowT=true∨t.one=true):
 t.flat.length=t.size∧d.cells.length=t.size∧∀(m:Nat) (tm:Ty),t.flat[m]?=some tm→tm.one=true∧Rep cap σ tm (v.cells.getD m undef) (d.cells.getD m .none):=by
 cases h with
 |agg ts vs ds h1 h2 h ho=>
  refine⟨rfl,by simp[D.cells,Ty.size,h2],fun m tm hm=>⟨ho m tm hm,?_⟩⟩;have:=h m tm hm;simpa [Value.cells,D.cells,eK,aH] using this
 |tup ts vs ds h1 h2 h=>simp[Ty.rowT,Ty.one] at ht
 |_=>
  refine⟨rfl,rfl,fun m tm hm=>?_⟩
  match m,hm with
  |0,hm=>
   simp only[Ty.flat,KX,aR] at hm;subst hm;refine⟨rfl,?_⟩;simp only[Value.cells,D.cells,rW];constructor<;>assumption
  |m+1,hm=>simp[Ty.flat] at hm
theorem mW:∀{l:List Nat},gS l=true→l.Nodup
 |[],_=>List.nodup_nil
 |a::r,h=>by
  simp only[gS,aj,iy] at h;refine np.2 ⟨fun hm=>?_,mW h.2⟩;have:=List.any_eq_false.1 h.1 a hm;simp at this
def Laid (P:Program):List Field→Nat→Prop
 |[],_=>True
 |f::fs,off=>f.offset=off∧∃inf,P.info? f.type=some inf∧Laid P fs (off+inf.size)
theorem Laid.get {P:Program}:∀{fs:List Field} {off:Nat},Laid P fs off→∀(i:Nat) (f:Field),fs[i]?=some f→∃inf,P.info? f.type=some inf∧off≤f.offset∧
 ∀(j:Nat) (g:Field),i<j→fs[j]?=some g→f.offset+inf.size≤g.offset
 |[],_,_,i,f,hi=>by simp at hi
 |f0::fs,off,h,i,f,hi=>by
  obtain⟨h1,inf,h2,h3⟩:=h;cases i with
  |zero=>
   simp at hi;subst hi;refine⟨inf,h2,by omega,fun j g hj hg=>?_⟩;cases j with
   |zero=>omega
   |succ j=>obtain⟨_,_,h4,_⟩:=h3.get j g (by simpa using hg);omega
  |succ i=>
   simp at hi;obtain⟨akD,k1,k2,k3⟩:=h3.get i f hi;refine⟨akD,k1,by omega,fun j g hj hg=>?_⟩;cases j with
   |zero=>omega
   |succ j=>exact k3 j g (by omega) (by simpa using hg)
theorem aas {ft:Ty}{x:Operand}{y:List AgC×PE}(h:th C S gs ft x=some y):y.1.length=ft.size:=by
 have MI:∀t:Ty,t.flat.length=t.size:=fun t=>by cases t<;>simp[Ty.flat,Ty.size]
 unfold th at h;split at h
 ·rename_i a _;cases hs:(Ty.sub a.1 ft&&(a.1.rowT||a.1.one))<;>simp only[hs,cond_true,cond_false] at h
  ·cases h
  cases h;simp only[aj] at hs;rw[fL,MI,(Ty.sub_one _ _ hs.1).2]
 ·split at h
  ·rename_i j ver _;cases hb:(Nat.beq ver (S.ver j)&&OD (S.o j)&&Nat.beq ft.size 1)<;>simp only[hb,cond_true,cond_false] at h
   ·cases h
   cases h;simp only[aj] at hb;exact(aw hb.2).symm
  ·cases h
theorem aat (h:Inv C S ρ σ own hv w0 σ0 A a w)(hC:CtxOK C σ0)(hg:holds gs ρ=true){ft:Ty}{x:Operand}{y:List AgC×PE}(hy:th C S gs ft x=some y):
 (a.eval x).cells.size=ft.size∧(y.2.ev ρ).cells.length=ft.size∧∀(m:Nat) (c:AgC),y.1[m]?=some c→nl C S σ hv c ((a.eval x).cells.getD m undef) ((y.2.ev ρ).cells.getD m .none):=by
 unfold th at hy;split at hy
 ·rename_i q hq;cases hs:(Ty.sub q.1 ft&&(q.1.rowT||q.1.one))<;>simp only[hs,cond_true,cond_false] at hy
  ·cases hy
  cases hy;simp only[aj,gF] at hs;have hr:=cB h hC hg hq;obtain⟨f1,f2,f3⟩:=hr.flat hs.2;have e:=(Ty.sub_one _ _ hs.1).2;refine⟨by rw[hr.size,e],by rw[f2,e],fun m c hm=>?_⟩;simp only[cK,ax] at hm;obtain⟨t,ht,rfl⟩:=hm;exact f3 m t ht
 ·split at hy
  ·rename_i j ver eL;cases hb:(Nat.beq ver (S.ver j)&&OD (S.o j)&&Nat.beq ft.size 1)<;>simp only[hb,cond_true,cond_false] at hy
   ·cases hy
   cases hy;simp only[aj] at hb;obtain⟨⟨cu,bn⟩,fB⟩:=hb;have dO:=aw cu;have aC:=aw fB;have er:aE C S ρ σ hv (fp S gs x) (a.eval x) ((qz x).ev ρ):=by
        cases x with
        |tmp t=>exact(m8 h hg t).1
        |_=>cases eL
   rw[eL] at er;have aQ:=er.2 dO;have aY:=h.objs j;have hc:(a.eval x).cells=#[a.eval x]:=by
        rw[aQ];cases ho:S.o j with
        |row T e=>
         rw[ho] at aY;obtain⟨cells,xs,_,h2,_⟩:=aY;rcases h2.2 with⟨e1,_⟩|⟨g,cap,cur,e1,_⟩<;>rw[e1]<;>rfl
        |_=>rw[ho] at bn;cases bn
   refine⟨by rw[hc,aC];rfl,by rw[aC];rfl,fun m c hm=>?_⟩;cases m with
   |zero=>
    simp at hm;subst hm;rw[hc];exact er
   |succ m=>simp at hm
  ·cases hy
theorem adS {zs:List Value}{parts:List (Nat×Operand)}:∀(fs:List Field) (i off:Nat) (r:List AgC×List PE),kW C S gs zs parts fs i off=some r→Laid C.P fs off:=by
 intro fs
 induction fs with
 |nil=>intro i off r _;trivial
 |cons f fs ih=>
  intro i off r h;simp only[kW] at h;split at h
  case h_2=>cases h
  rename_i inf ft hi ht;cases hc:(Nat.beq f.offset off&&Nat.beq inf.size ft.size)<;>simp only[hc,cond_true,cond_false] at h
  ·cases h
  simp only[aj] at hc;simp only[ao] at h;obtain⟨q,hq,_⟩:=h;exact⟨aw hc.1,inf,hi,ih _ _ _ hq⟩
theorem UR {zs:List Value}{parts:List (Nat×Operand)}:∀(fs:List Field) (i off:Nat) (r:List AgC×List PE),kW C S gs zs parts fs i off=some r→off≤zs.length:=by
 intro fs
 induction fs with
 |nil=>intro i off r h;simp only[kW] at h;cases hb:Nat.beq off zs.length<;>simp[hb] at h;exact Nat.le_of_eq (aw hb)
 |cons f fs ih=>
  intro i off r h;simp only[kW] at h;split at h
  case h_2=>cases h
  rename_i inf ft hi ht;cases hc:(Nat.beq f.offset off&&Nat.beq inf.size ft.size)<;>simp only[hc,cond_true,cond_false] at h
  ·cases h
  simp only[ao] at h;obtain⟨q,hq,_⟩:=h;have:=ih _ _ _ hq;omega
theorem adR {zs:List Value}{parts:List (Nat×Operand)}:∀(fs:List Field) (i off:Nat) (r:List AgC×List PE),kW C S gs zs parts fs i off=some r→
 ∃ft:List AgC×List PE,r=ft∧(∀(m:Nat) (f:Field) (inf:TypeInfo),fs[m]?=some f→C.P.info? f.type=some inf→f.offset+inf.size≤zs.length)∧(∀(m:Nat) (x:Nat×Operand) (f:Field) (inf:TypeInfo),fs[m]?=some f→C.P.info? f.type=some inf→parts.find? (fun p=>Nat.beq p.1 (i+m))=some x→∃y ft,th C S gs ft x.2=some y∧ft.size=inf.size)∧off+r.1.length=zs.length:=by
 intro fs
 induction fs with
 |nil=>intro i off r h;simp only[kW] at h;cases hb:Nat.beq off zs.length<;>simp[hb] at h;subst h;exact⟨_,rfl,by simp,by simp,by simpa using aw hb⟩
 |cons f fs ih=>
  intro i off r h;simp only[kW] at h;split at h
  case h_2=>cases h
  rename_i inf ft hi ht;cases hc:(Nat.beq f.offset off&&Nat.beq inf.size ft.size)<;>simp only[hc,cond_true,cond_false] at h
  ·cases h
  simp only[aj] at hc;have jJ:=aw hc.1;have aC:=aw hc.2;simp only[ao] at h;obtain⟨q,hq,h⟩:=h;have hle:=UR _ _ _ _ hq;obtain⟨_,rfl,k1,k2,k3⟩:=ih _ _ _ hq;have e1:∀(m:Nat) (g:Field) (ig:TypeInfo),(f::fs)[m]?=some g→C.P.info? g.type=some ig→g.offset+ig.size≤zs.length:=by
   intro m g ig hm gr;cases m with
   |zero=>simp at hm;subst hm;rw[hi] at gr;cases gr;omega
   |succ m=>exact k1 m g ig (by simpa using hm) gr
  have MI:∀t:Ty,t.flat.length=t.size:=fun t=>by cases t<;>simp[Ty.flat,Ty.size]
  split at h
  ·rename_i x hx;simp only[ax] at h;obtain⟨y,hy,rfl⟩:=h;refine⟨_,rfl,e1,fun m x' g ig hm gr hf=>?_,?_⟩
   ·cases m with
    |zero=>
     simp at hm;subst hm;rw[hi] at gr;cases gr;simp only[iz] at hf;rw[hx] at hf;cases hf;exact⟨y,ft,hy,aC.symm⟩
    |succ m=>exact k2 m x' g ig (by simpa using hm) gr (by rwa [show i+(m+1)=i+1+m by omega] at hf)
   ·have:=aas hy;simp only[jy];omega
  ·rename_i hx;cases mQ:jW ft (rowOf ft.rowT ((zs.drop off).take inf.size))<;>simp only[mQ,cond_true,cond_false] at h
   ·cases h
   simp only[ax] at h;obtain⟨z,hz,rfl⟩:=h;have bx:=(xT (cap:=C.cap) (σ:=⟨fun _ _=>none,fun _=>none⟩) hz mQ).2.1;refine⟨_,rfl,e1,fun m x' g ig hm gr hf=>?_,?_⟩
   ·cases m with
    |zero=>simp only[iz] at hf;rw[hx] at hf;cases hf
    |succ m=>exact k2 m x' g ig (by simpa using hm) gr (by rwa [show i+(m+1)=i+1+m by omega] at hf)
   ·have:=(Ty.sub_one _ _ bx).2;simp only[jy,fL,MI];omega
theorem adT (h:Inv C S ρ σ own hv w0 σ0 A a w)(hC:CtxOK C σ0)(hg:holds gs ρ=true){zs:List Value}{parts:List (Nat×Operand)}(cells:Array Value):
 ∀(fs:List Field) (i off:Nat) (r:List AgC×List PE),kW C S gs zs parts fs i off=some r→
  (∀(m:Nat) (f:Field) (inf:TypeInfo),fs[m]?=some f→C.P.info? f.type=some inf→
        (∀x,parts.find? (fun p=>Nat.beq p.1 (i+m))=some x→∀q,q<inf.size→cells[f.offset+q]?=(a.eval x.2).cells[q]?)∧
        (parts.find? (fun p=>Nat.beq p.1 (i+m))=none→∀q,q<inf.size→cells[f.offset+q]?=zs[f.offset+q]?))→
  (PE.evc ρ r.2).length=r.1.length∧∀(m:Nat) (c:AgC),r.1[m]?=some c→nl C S σ hv c (cells.getD (off+m) undef) ((PE.evc ρ r.2).getD m .none):=by
 intro fs
 induction fs with
 |nil=>intro i off r hr _;simp only[kW] at hr;cases hb:Nat.beq off zs.length<;>simp[hb] at hr;subst hr;simp[PE.evc]
 |cons f fs ih=>
  intro i off r hr aF;simp only[kW] at hr;split at hr
  case h_2=>cases hr
  rename_i inf ft hi ht;cases hc:(Nat.beq f.offset off&&Nat.beq inf.size ft.size)<;>simp only[hc,cond_true,cond_false] at hr
  ·cases hr
  simp only[aj] at hc;have jJ:=aw hc.1;have aC:=aw hc.2;simp only[ao] at hr;obtain⟨q,hq,hr⟩:=hr
  obtain⟨l1,uF⟩:=ih (i+1) (off+inf.size) q hq (fun m g akE hm gr=>by
   have:=aF (m+1) g akE (by simpa using hm) gr
   rwa [show i+(m+1)=i+1+m by omega] at this)
  obtain⟨hp,hn⟩:=aF 0 f inf rfl hi;have join:∀(l:List AgC) (v:Value) (d:D) (pe:PE),pe.ev ρ=d→l.length=inf.size→d.cells.length=inf.size→(∀m c,l[m]?=some c→nl C S σ hv c (v.cells.getD m undef) (d.cells.getD m .none))→(∀m,m<inf.size→cells[f.offset+m]?=v.cells[m]?)→
        (PE.evc ρ (pe::q.2)).length=(l++q.1).length∧∀(m:Nat) (c:AgC),(l++q.1)[m]?=some c→nl C S σ hv c (cells.getD (off+m) undef) ((PE.evc ρ (pe::q.2)).getD m .none):=by
   intro l v d pe uD f1 f2 f3 aS;simp only[PE.evc,uD];refine⟨by simp[f1,f2,l1],fun m t' hm=>?_⟩;rw[mw] at hm;split at hm
   ·rename_i ae;have g2:=f3 m t' hm;have e1:cells.getD (off+m) undef=v.cells.getD m undef:=by
     rw[eK,eK,←jJ,aS m (by omega)]
    have e2:(d.cells++PE.evc ρ q.2).getD m .none=d.cells.getD m .none:=by
     rw[aH,aH,kT (by omega)]
    rw[e1,e2];exact g2
   ·rename_i fP;have g2:=uF _ t' hm;have e1:off+inf.size+(m-l.length)=off+m:=by omega
    have e2:(d.cells++PE.evc ρ q.2).getD m .none=(PE.evc ρ q.2).getD (m-l.length) .none:=by
     rw[aH,aH,jx (by omega)];rw[f1,←f2]
    rw[e1] at g2;rw[e2];exact g2
  simp only[iz] at hp hn;split at hr
  ·rename_i x hx;simp only[ax] at hr;obtain⟨y,hy,rfl⟩:=hr;obtain⟨g1,g2,g3⟩:=aat h hC hg hy;exact join y.1 (a.eval x.2) (y.2.ev ρ) y.2 rfl (by rw[aas hy,aC]) (by rw[g2,aC]) g3 (hp x hx)
  ·rename_i hx;cases mQ:jW ft (rowOf ft.rowT ((zs.drop off).take inf.size))<;>simp only[mQ,cond_true,cond_false] at hr
   ·cases hr
   simp only[ax] at hr;obtain⟨z,hz,rfl⟩:=hr;obtain⟨k1,k2,k3⟩:=xT (cap:=C.cap) (σ:=σ) hz mQ;have Ig:(rowOf ft.rowT ((zs.drop off).take inf.size)).cells.size=inf.size:=by rw[k1.size,(Ty.sub_one _ _ k2).2,aC]
   have iQ:z.1.rowT=true∨z.1.one=true:=by
        cases ft<;>simp[pk,qE] at hz<;>first|(subst hz;simp[Ty.one])|(obtain⟨_,_,rfl⟩:=hz;simp[Ty.rowT])
   obtain⟨z1,z2,z3⟩:=k1.flat iQ;have ez:z.1.size=inf.size:=by rw[(Ty.sub_one _ _ k2).2,aC]
   refine join (z.1.flat.map .dat) (rowOf ft.rowT ((zs.drop off).take inf.size)) z.2 (.con z.2) rfl (by rw[fL,z1,ez]) (by rw[z2,ez]) (fun m c hm=>?_) (fun m hm=>?_)
   ·simp only[cK,ax] at hm;obtain⟨t,ht,rfl⟩:=hm;exact z3 m t ht
   ·rw[hn hx m hm,jJ];cases uG:ft.rowT with
    |true=>simp[rowOf,Value.cells,dA,dZ,hm]
    |false=>
     rw[uG] at Ig k1;have h1:(z.1).rowT=false:=by
       have:=(Ty.sub_one _ _ k2)
       cases ft<;>simp[Ty.rowT] at uG<;>simp[pk,qE] at hz<;>subst hz<;>rfl
     rw[k1.cells1 h1] at Ig ⊢;simp at Ig;have hm0:m=0:=by omega
     subst hm0;have:∃u,zs[off]?=some u:=⟨_,bu (show off<zs.length by have:=UR _ _ _ _ hq;omega)⟩
     simp[rowOf,aH,dA,dZ,←Ig];obtain⟨u,hu⟩:=this;simp[hu]
theorem X7 {P:Program}:∀(fs:List Field) (off:Nat),Laid P fs off→
 ∃l:List (Nat×Nat),fs.mapM (fun f=>(P.info? f.type).map fun i=>(f.offset,i.size))=some l∧l.length=fs.length∧
  ∀(i:Nat) (f:Field) (inf:TypeInfo),fs[i]?=some f→P.info? f.type=some inf→l[i]?=some (f.offset,inf.size)
 |[],_,_=>⟨[],rfl,rfl,by simp⟩
 |f::fs,off,h=>by
  obtain⟨h1,inf,h2,h3⟩:=h;obtain⟨l,k1,k2,k3⟩:=X7 fs _ h3;refine⟨(f.offset,inf.size)::l,?_,by simp[k2],fun i g ig hi gr=>?_⟩
  ·simp[Ub,h2,k1]
  ·cases i with
   |zero=>simp at hi;subst hi;rw[h2] at gr;cases gr;rfl
   |succ i=>simp at hi;simpa using k3 i g ig hi gr
theorem VJ {parts:List (Nat×Operand)}(bj:(parts.map (·.1)).Nodup){i:Nat}{x:Operand}(h:(i,x)∈parts):parts.find? (fun p=>Nat.beq p.1 i)=some (i,x):=by
 induction parts with
 |nil=>cases h
 |cons p ps ih=>
  simp only[gG,np] at bj;rcases cW.1 h with e|hm
  ·subst e;simp
  ·have:¬p.1=i:=fun e=>bj.1 (e▸List.mem_map_of_mem (f:=(·.1)) hm);rw[List.find?_cons_of_neg (by simpa using this)];exact ih bj.2 hm
theorem amG (h:Inv C S ρ σ own hv w0 σ0 A a w)(hC:CtxOK C σ0)(hg:holds gs ρ=true){T:TypeId}{ps:Array (Nat×Operand)}{r:Sh×List PI}(hr:Ah C S gs dst T ps.toList=some r){o:Oper}(ho:o.op=.build T ps):
 eT C S ρ σ hv Φ dst a w o r:=by
 unfold Ah at hr;split at hr
 case h_3=>cases hr
 case h_2=>
  rename_i n e inf hT oC;split at hr
  case h_2=>cases hr
  rename_i zs ie hz hie;split at hr
  case h_2=>cases hr
  rename_i x y sR;simp only[ao] at hr;obtain⟨p,hp,q,hq,hr⟩:=hr;split at hr
  case h_2=>cases hr
  rename_i k k' hk cj;cases hc:(Nat.beq n 2&&Nat.beq zs.size 2&&Nat.beq ie.size 1)<;>simp only[hc,cond_true,cond_false] at hr
  ·cases hr
  cases hr;simp only[aj] at hc;obtain⟨⟨c1,c2⟩,c3⟩:=hc;have c1:=aw c1;have c2:=aw c2;have c3:=aw c3;subst c1;have hx:=cB h hC hg hp;have hy:=cB h hC hg hq;rw[hk] at hx;rw[cj] at hy;obtain⟨a1,Ml,ea2,_⟩:=hx.int_inv;obtain⟨b1,Mm,eb2,_⟩:=hy.int_inv;have ajM:ps=#[(0,x),(1,y)]:=by rw[←tJ];exact sR
  obtain⟨z0,z1,rfl⟩:∃z0 z1,zs=#[z0,z1]:=by
   match zs,c2 with
   |⟨[z0,z1]⟩,_=>exact⟨z0,z1,rfl⟩
  have M6:C.P.built T [(0,a.eval x),(1,a.eval y)]=some #[a.eval x,a.eval y]:=by
   rw[Ml,Mm];simp only[Program.built,oC,hT,hz,hie,c3];simp[Instr.fill,Value.cells]
  have af:(execOp a.eval o).run C.P w=.ok (.value (.agg #[a.eval x,a.eval y])) w:=by
   have:=run_build (P:=C.P) w T (ps.map fun(x:Nat×Operand)=>(x.1,a.eval x.2)) #[a.eval x,a.eval y] (by rw[ajM];simpa using M6);simp[execOp,ho,this]
  refine .dat af ?_;have e1:(PE.mk [p.2,q.2]).ev ρ=.agg [p.2.ev ρ,q.2.ev ρ]:=by simp[PE.ev,PE.evc,ea2,eb2,D.cells]
  rw[e1];refine .agg _ [a.eval x,a.eval y] _ rfl rfl (fun i t hi=>?_) (fun i t hi=>?_)
  ·match i,hi with
   |0,hi=>simp at hi;subst hi;rw[hk];simpa using hx
   |1,hi=>simp at hi;subst hi;rw[cj];simpa using hy
   |i+2,hi=>simp at hi
  ·match i,hi with
   |0,hi=>simp at hi;subst hi;rw[hk];rfl
   |1,hi=>simp at hi;subst hi;rw[cj];rfl
   |i+2,hi=>simp at hi
 rename_i fs inf hT oC;split at hr
 case h_2=>cases hr
 rename_i zs hz;cases hc:(gS (ps.toList.map (·.1))&&ps.toList.all (fun p=>Nat.blt p.1 fs.size))<;>simp only[hc,cond_true,cond_false] at hr
 ·cases hr
 simp only[aj] at hc;obtain⟨bj,ae⟩:=hc;simp only[ax] at hr;obtain⟨q,hq,rfl⟩:=hr;have Ie:=adS _ _ _ _ hq;have j9:=mW bj;obtain⟨_,rfl,bo,akm,Nk⟩:=adR _ _ _ _ hq;obtain⟨pl,fF,awj,Dg⟩:=X7 _ _ Ie
 have kc:∀p,p∈(ps.toList.map fun(x:Nat×Operand)=>(x.1,a.eval x.2))→∃o,pl.toArray[p.1]?=some (o,p.2.cells.size)∧o+p.2.cells.size≤zs.size:=by
  intro p hp;obtain⟨x,hx,rfl⟩:=ec.1 hp;have wY:x.1<fs.toList.length:=by
   have:=bz.1 ae x hx;have h2:x.1<fs.size:=by simpa [jc] using this
   simpa using h2
  obtain⟨f,hf⟩:∃f,fs.toList[x.1]?=some f:=⟨_,bu wY⟩
  obtain⟨ig,gr,_,_⟩:=Ie.get _ _ hf;have CQ:=VJ j9 (i:=x.1) (x:=x.2) hx;obtain⟨y,ft,hy,aC⟩:=akm x.1 (x.1,x.2) f ig hf gr (by simpa using CQ);have uH:=(aat h hC hg hy).1;rw[aC] at uH;simp only;refine⟨f.offset,?_,?_⟩
  ·rw[uH];simpa using Dg x.1 f ig hf gr
  ·rw[uH];simpa using bo x.1 f ig hf gr
 have zC:∀(i j oi si oj sj:Nat),i≠j→pl.toArray[i]?=some (oi,si)→pl.toArray[j]?=some (oj,sj)→oi+si≤oj∨oj+sj≤oi:=by
  intro i j oi si oj sj ay hi hj;simp only[FK] at hi hj;obtain⟨f,hf⟩:∃f,fs.toList[i]?=some f:=⟨_,bu (by have:=(eE.1 hi).1;omega)⟩
  obtain⟨g,zF⟩:∃g,fs.toList[j]?=some g:=⟨_,bu (by have:=(eE.1 hj).1;omega)⟩
  obtain⟨ig,gr,_,ajg⟩:=Ie.get _ _ hf;obtain⟨jg,hjg,_,ajh⟩:=Ie.get _ _ zF;rw[Dg i f ig hf gr] at hi;rw[Dg j g jg zF hjg] at hj;cases hi;cases hj;rcases FU i j with ae|fP
  ·exact .inl (ajg j g ae zF)
  ·exact .inr (ajh i f (by omega) hf)
 obtain⟨dB,f1,f2,f3,f4⟩:=Mx (pl.toArray[·]?) (ps.toList.map fun(x:Nat×Operand)=>(x.1,a.eval x.2)) zs kc zC (by simpa [FF] using j9)
 have M6:C.P.built T (ps.toList.map fun(x:Nat×Operand)=>(x.1,a.eval x.2))=some dB:=by
  simp only[Program.built,oC,hT,hz,fF];exact f1
 have af:(execOp a.eval o).run C.P w=.ok (.value (.agg dB)) w:=by
  have:=run_build (P:=C.P) w T (ps.map fun(x:Nat×Operand)=>(x.1,a.eval x.2)) dB (by rw[vI];exact M6);simp[execOp,ho,this]
 have wC:∀(m:Nat) (f:Field) (ig:TypeInfo),fs.toList[m]?=some f→C.P.info? f.type=some ig→
  (∀x,ps.toList.find? (fun p=>Nat.beq p.1 (0+m))=some x→∀q,q<ig.size→dB[f.offset+q]?=(a.eval x.2).cells[q]?)∧
  (ps.toList.find? (fun p=>Nat.beq p.1 (0+m))=none→∀q,q<ig.size→dB[f.offset+q]?=zs.toList[f.offset+q]?):=by
  intro m f ig hm gr;refine⟨fun x hx p hp=>?_,fun hx p hp=>?_⟩
  ·have bU:x.1=m:=by have:=x9 hx;simpa using this
   have zW:(x.1,a.eval x.2)∈(ps.toList.map fun(x:Nat×Operand)=>(x.1,a.eval x.2)):=ec.2 ⟨x,qL hx,rfl⟩;obtain⟨o',dV,hle⟩:=kc _ zW;simp only at dV hle;have Xm:=Dg m f ig hm gr;simp only[FK,bU] at dV;rw[Xm] at dV;simp only[aR,od] at dV;obtain⟨e1,e2⟩:=dV;exact f3 x.1 (a.eval x.2) f.offset zW (by simp[bU,Xm,←e2]) p (by omega)
  ·have wO:m∉(ps.toList.map fun(x:Nat×Operand)=>(x.1,a.eval x.2)).map (·.1):=by
        intro cA;simp only[K3,ec,FF] at cA;obtain⟨x,zW,e⟩:=cA;have:=nZ.1 hx x zW;simp[e] at this
   rw[f4 m f.offset ig.size wO (by simpa using Dg m f ig hm gr) p hp];simp
 obtain⟨l1,aF⟩:=adT h hC hg dB _ _ _ _ hq wC;have zy:dB=dB.toList.toArray:=by simp
 have hlen:dB.toList.length=q.1.length:=by simp[f2] at Nk ⊢;omega
 have jf:∀(i:Nat) (c:AgC),q.1[i]?=some c→nl C S σ hv c (dB.toList.getD i undef) ((PE.evc ρ q.2).getD i .none):=fun i c hi=>by
  have:=aF i c hi;simpa [eK,aH] using this
 cases Nd:q.1.all XU
 ·simp only[cond_false];exact fun ρ' oH=>⟨_,_,tD oH,af,⟨dB.toList,PE.evc ρ q.2,by rw[←zy],by simp only[PE.ev],hlen,l1,jf⟩,fun _ _ e=>by cases e⟩
 ·simp only[cond_true];refine .dat af ?_;simp only[PE.ev];rw[zy]
  have pW:∀(i:Nat) (t:Ty),(q.1.map AgC.ty)[i]?=some t→t.one=true∧Rep C.cap σ t (dB.toList.getD i undef) ((PE.evc ρ q.2).getD i .none):=fun i t hi=>by
   simp only[cK,ax] at hi;obtain⟨c,hc,rfl⟩:=hi;have h1:=jf i c hc;have h2:=bz.1 Nd c (kl hc);cases c with
   |dat t=>exact h1
   |obj j ver=>cases h2
  exact .agg _ _ _ (by rw[fL];exact hlen) (by rw[fL];exact l1) (fun i t hi=>(pW i t hi).2) (fun i t hi=>(pW i t hi).1)
end
end Cx
