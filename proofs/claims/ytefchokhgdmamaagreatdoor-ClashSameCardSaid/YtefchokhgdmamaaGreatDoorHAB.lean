/-
  Shared texts of this claim.
-/
import Derived.Test.YtefchokhgdmamaaGreatDoorHAA
import Derived.ChangeKeysEq
import Derived.Laws.Tables
set_option linter.unusedSimpArgs false
set_option linter.unusedVariables false
namespace Cx
open Go Go.RowKit
theorem Rep.int_inv {cap:Nat→Option CSig}{σ:Im}{k:IntKind}{v:Value}{d:D}(h:Rep cap σ (.int k) v d):∃n,v=.int k n∧d=.v (.int k n)∧k.min≤n∧n≤k.max:=by
 cases h with
 |int k n h1 h2=>exact⟨n,rfl,rfl,h1,h2⟩
theorem Rep.bool_inv {cap:Nat→Option CSig}{σ:Im}{v:Value}{d:D}(h:Rep cap σ .bool v d):∃b,v=.bool b∧d=.v (.bool b):=by
 cases h with
 |bool b=>exact⟨b,rfl,rfl⟩
theorem Rep.str_inv {cap:Nat→Option CSig}{σ:Im}{v:Value}{d:D}(h:Rep cap σ .str v d):∃s,v=.string s∧d=.v (.string s)∧s.size≤maxLen:=by
 cases h with
 |str s h=>exact⟨s,rfl,rfl,h⟩
theorem Rep.slice_inv {cap:Nat→Option CSig}{σ:Im}{e:Ty}{v:Value}{d:D}(h:Rep cap σ (.slice e) v d):∃xs,d=.list xs∧
 (((∃p,v=.slice p 0 0)∧xs=[])∨∃k o c,v=.slice (some ⟨k,o,none⟩) xs.length c∧xs.length≤c∧c≤maxLen∧
   ∃vs:Nat→Value,(∀(i:Nat) (x:D),xs[i]?=some x→Rep cap σ e.unf (vs i) x)∧∀(i j:Nat) (u:Value),i<xs.length→(vs i).cells[j]?=some u→σ.c k (o+i*e.size+j)=some u):=by
 cases h with
 |nil e=>exact⟨[],rfl,.inl ⟨⟨_,rfl⟩,rfl⟩⟩
 |emp e a=>exact⟨[],rfl,.inl ⟨⟨_,rfl⟩,rfl⟩⟩
 |slice e k o n c xs vs hn hc hm h hv=>subst hn;exact⟨xs,rfl,.inr ⟨k,o,c,rfl,hc,hm,vs,h,hv⟩⟩
theorem Rep.ref_inv {cap:Nat→Option CSig}{σ:Im}{t:Ty}{v:Value}{d:D}(h:Rep cap σ (.ref t) v d):∃k o x y,v=.pointer (some ⟨k,o,none⟩)∧d=.ref y∧Rep cap σ t x y∧∀(j:Nat) (u:Value),x.cells[j]?=some u→σ.c k (o+j)=some u:=by
 cases h with
 |ref t k o x y h hv=>exact⟨k,o,x,y,rfl,rfl,h,hv⟩
theorem Rep.agg_inv {cap:Nat→Option CSig}{σ:Im}{ts:List Ty}{v:Value}{d:D}(h:Rep cap σ (.agg ts) v d):∃(vs:List Value) (ds:List D),v=.agg vs.toArray∧d=.agg ds∧vs.length=ts.length∧ds.length=ts.length∧
 (∀(i:Nat) (t:Ty),ts[i]?=some t→Rep cap σ t (vs.getD i undef) (ds.getD i .none))∧∀(i:Nat) (t:Ty),ts[i]?=some t→t.one=true:=by
 cases h with
 |agg ts vs ds h1 h2 h ho=>exact⟨vs,ds,rfl,rfl,h1,h2,h,ho⟩
theorem Rep.tup_inv {cap:Nat→Option CSig}{σ:Im}{ts:List Ty}{v:Value}{d:D}(h:Rep cap σ (.tup ts) v d):∃(vs:List Value) (ds:List D),v=.tuple vs.toArray∧d=.tup ds∧vs.length=ts.length∧ds.length=ts.length∧
 (∀(i:Nat) (t:Ty),ts[i]?=some t→Rep cap σ t (vs.getD i undef) (ds.getD i .none)):=by
 cases h with
 |tup ts vs ds h1 h2 h=>exact⟨vs,ds,rfl,rfl,h1,h2,h⟩
theorem qK (k:IntKind)(n:Int):k.min≤k.wrap n∧k.wrap n≤k.max:=by
 cases k<;>simp only[IntKind.min,IntKind.max,IntKind.wrap,IntKind.signed,IntKind.bits]<;>simp<;>(try split)<;>omega
theorem Z3 (k:IntKind){a b:Int}(ha:k.min≤a∧a≤k.max):k.min≤a.tmod b∧a.tmod b≤k.max:=by
 have h1:k.min≤0:=by cases k<;>decide
 have h2:0≤k.max:=by cases k<;>decide
 have hn:(a.tmod b).natAbs≤a.natAbs:=by rw[Int.natAbs_tmod];exact Nat.mod_le _ _
 rcases Int.le_total 0 a with h|h
 ·have:=Int.tmod_nonneg b h;omega
 ·have:a.tmod b≤0:=by
   have:=Int.tmod_nonneg b (a:=-a) (by omega);rw[Int.neg_tmod] at this;omega
  omega
theorem TF (k:IntKind){a:Int}(n:Nat)(ha:k.min≤a∧a≤k.max):k.min≤a.fdiv (2^n)∧a.fdiv (2^n)≤k.max:=by
 have h1:k.min≤0:=by cases k<;>decide
 have h2:0≤k.max:=by cases k<;>decide
 have hp:(0:Int)<2^n:=Int.pow_pos (by decide);rw[aaz _ (by omega)];rcases Int.le_total 0 a with h|h
 ·have h3:=Int.ediv_nonneg h (by omega:(0:Int)≤2^n);have h4:=Int.ediv_le_self (b:=2^n) h;omega
 ·have h3:a/2^n≤0:=by
   have:=Int.ediv_le_ediv hp h;simpa using this
  have h4:a≤a/2^n:=by
   rw[Int.le_ediv_iff_mul_le hp];have:a*2^n≤a*1:=Int.mul_le_mul_of_nonpos_left h (by omega);omega
  omega
section
variable {C:Ctx} {S:St} {ρ:Env} {σ:Im} {own:Nat→Option Nat} {hv:Nat→Value} {w0:World} {σ0:Base} {A:Nat→Prop} {a:Act} {w:World} {gs:List (Nat×Bool)} {Φ:aR} {dst:Nat}
theorem sm {e:PE}{ρ':Env}(h:PI.runs Φ [.setR dst e] ρ=some ρ'):ρ'=ρ.setR dst (e.ev ρ):=by
 simp[PI.runs,PI.run] at h;exact h.symm
theorem PJ (hg:holds gs ρ=true){c e:PE}{ρ':Env}(h:PI.runs Φ [pW gs c,.setR dst e] ρ=some ρ'):(c.ev ρ).b=true∧ρ'=ρ.setR dst (e.ev ρ):=by
 simp only[PI.runs,PI.run,pW] at h;cases dR:gs with
 |nil=>
  subst dR;simp only at h;cases hb:(c.ev ρ).b<;>simp[hb] at h;exact⟨rfl,h.symm⟩
 |cons g r=>
  rw[dR] at h;simp only at h;rw[dR] at hg;cases hb:(c.ev ρ).b
  ·simp[PE.ev,hg,hb,D.b_bool] at h
  ·simp[PE.ev,hg,hb,D.b_bool] at h;exact⟨rfl,h.symm⟩
def eF (C:Ctx)(S:St)(ρ:Env)(σ:Im)(hv:Nat→Value)(Φ:aR)(dst:Nat)(a:Act)(w:World)(o:Oper)(r:Sh×List PI):Prop:=
 ∀ρ',PI.runs Φ r.2 ρ=some ρ'→∃v d,ρ'=ρ.setR dst d∧(execOp a.eval o).run C.P w=.ok (.value v) w∧aC C S ρ σ hv r.1 v d∧∀gs s,r.1≠.opt gs s
theorem eF.dat {o:Oper}{t:Ty}{e:PE}{v:Value}(hx:(execOp a.eval o).run C.P w=.ok (.value v) w)(hr:Rep C.cap σ t v (e.ev ρ)):
 eF C S ρ σ hv Φ dst a w o (.dat t,[.setR dst e]):=by
 intro ρ' h;exact⟨v,e.ev ρ,sm h,hx,hr,fun _ _ e=>by cases e⟩
theorem eF.datc (hg:holds gs ρ=true){o:Oper}{t:Ty}{c e:PE}(hx:(c.ev ρ).b=true→∃v,(execOp a.eval o).run C.P w=.ok (.value v) w∧Rep C.cap σ t v (e.ev ρ)):
 eF C S ρ σ hv Φ dst a w o (.dat t,[pW gs c,.setR dst e]):=by
 intro ρ' h;obtain⟨hb,he⟩:=PJ hg h;obtain⟨v,h1,h2⟩:=hx hb;exact⟨v,e.ev ρ,he,h1,h2,fun _ _ e=>by cases e⟩
theorem XZ (h:Inv C S ρ σ own hv w0 σ0 A a w)(hC:CtxOK C σ0)(hg:holds gs ρ=true){x:Operand}{r:Sh×List PI}(hr:pg C S gs dst x=some r){o:Oper}(ho:o.op=.move x∨o.op=.assign x):
 eF C S ρ σ hv Φ dst a w o r:=by
 have hx:(execOp a.eval o).run C.P w=.ok (.value (a.eval x)) w:=by rcases ho with ho|ho<;>simp[execOp,ho,Sem.run,pure]
 unfold pg at hr;split at hr
 ·rename_i y hy;cases hr;exact .dat hx (cl h hC hg hy)
 ·split at hr
  ·rename_i t _;obtain⟨hs,hn⟩:=ml h hg t;split at hr
   ·cases hr
   ·cases hr
   ·cases hr;intro ρ' h';exact⟨_,_,sm h',hx,hs,hn⟩
  ·cases hr
theorem aj5 (h:Inv C S ρ σ own hv w0 σ0 A a w)(hC:CtxOK C σ0)(hg:holds gs ρ=true){c x y:Operand}{r:Sh×List PI}(hr:zu C S gs dst c x y=some r){o:Oper}(ho:o.op=.pick c x y):
 eF C S ρ σ hv Φ dst a w o r:=by
 unfold zu at hr;split at hr
 ·rename_i t;split at hr
  ·rename_i es;obtain⟨hs,_⟩:=ml h hg t;rw[es] at hs;obtain⟨b,aL,ba⟩:=Rep.bool_inv hs;simp only[ao] at hr;obtain⟨q1,h1,q2,h2,hr⟩:=hr;cases hb:Ty.beq q1.1 q2.1<;>simp only[hb,cond_true,cond_false] at hr
   ·cases hr
   ·cases hr;have e2:=Ty.beq_eq _ _ hb;have af:(execOp a.eval o).run C.P w=.ok (.value (if b then a.eval x else a.eval y)) w:=by
     have:a.eval (.tmp t)=.bool b:=aL;simp[execOp,ho,this,asBool,Sem.run,pure,bind,Sem.bind]
    refine .dat af ?_;show Rep C.cap σ q1.1 _ (bif (ρ.r t).b then q1.2.ev ρ else q2.2.ev ρ);have gg:(ρ.r t).b=b:=by rw[ba];rfl
    cases b with
    |true=>
     simp only[gg,cond_true,if_true];exact cl h hC (by simp only[holds,pK,gg];exact hg) h1
    |false=>
     simp only[gg,cond_false];rw[e2];exact cl h hC (by simp only[holds,pK,gg];exact hg) h2
  ·cases hr
 ·cases hr
theorem I2 {op:BinOp}{T T':TypeId}{x y:Operand}{v v':Value}{o:Oper}(ho:o.op=.binOp op T x y T')(hv:a.eval x=v)(hv':a.eval y=v')(h1:∀u,v≠.agg u)(h2:v≠.nilIface):
 (execOp a.eval o).run C.P w=((binOp op T v v').bind fun r=>.pure (.value r)).run C.P w:=by
 have he:eqGuard op T x y v v'=.pure ():=by
  cases v<;>first|(exact absurd rfl h2)|(exact absurd rfl (h1 _))|(cases op<;>simp[eqGuard]<;>rfl)
 simp only[execOp,ho,hv,hv',he];rfl
theorem TA {P:Program}{cap:Nat→Option CSig}{σ:Im}{ρ:Env}{x y:PE}(w:World)(d:Nat){t:Ty}{T:TypeId}{v u:Value}{e:PE}(hk:l5 P T t=true)(he:vp t x y=some e)(g1:Rep cap σ t v (x.ev ρ))(g2:Rep cap σ t u (y.ev ρ)):
 ∃b,e.ev ρ=.v (.bool b)∧(Op.equalIn (d+1) T v u).run P w=.ok b w:=by
 cases t with
 |int k=>
  obtain⟨n,v1,d1,_⟩:=g1.int_inv;obtain⟨m,v2,d2,_⟩:=g2.int_inv;simp only[vp,aO] at he;subst he;have hu:∃k',P.underlying T=some (.int k'):=by
   simp only[l5] at hk;split at hk
   ·exact⟨_,by assumption⟩
   ·cases hk
  obtain⟨k',hu⟩:=hu;exact⟨n==m,by simp only[PE.ev,d1,d2];rfl,by rw[v1,v2];exact run_equalIn_int w d T k k' n m hu⟩
 |bool=>
  obtain⟨n,v1,d1⟩:=g1.bool_inv;obtain⟨m,v2,d2⟩:=g2.bool_inv;simp only[vp,aO] at he;subst he;have hu:P.underlying T=some .bool:=by
   simp only[l5] at hk;split at hk
   ·assumption
   ·cases hk
  exact⟨n==m,by simp only[PE.ev,d1,d2];rfl,by rw[v1,v2];exact run_equalIn_bool' w d T n m hu⟩
 |str=>
  obtain⟨n,v1,d1,_⟩:=g1.str_inv;obtain⟨m,v2,d2,_⟩:=g2.str_inv;simp only[vp,aO] at he;subst he;have hu:P.underlying T=some .string:=by
   simp only[l5] at hk;split at hk
   ·assumption
   ·cases hk
  exact⟨n.toList==m.toList,by simp only[PE.ev,d1,d2];rfl,by rw[v1,v2];exact run_equalIn_string w d T n m hu⟩
 |_=>simp[vp] at he
theorem ado {P:Program}{cap:Nat→Option CSig}{σ:Im}{ρ:Env}{x y:PE}{X Y:List D}(w:World)(hx:x.ev ρ=.agg X)(hy:y.ev ρ=.agg Y){vs us:List Value}(b d:Nat):
 ∀(fs:List Field) (i:Nat) (ts:List Ty) (e:PE),vm P x y b fs i ts=some e→(∀j t,ts[j]?=some t→Rep cap σ t (vs.getD (i+j) undef) (X.getD (b+i+j) .none)∧Rep cap σ t (us.getD (i+j) undef) (Y.getD (b+i+j) .none))→
  i+ts.length≤vs.length→i+ts.length≤us.length→
  ∃b,e.ev ρ=.v (.bool b)∧(Op.eqFields (d+1) vs.toArray us.toArray fs).run P w=.ok b w:=by
 intro fs
 induction fs with
 |nil=>
  intro i ts e h _ _ _;cases ts with
  |nil=>simp only[vm,aO] at h;subst h;exact⟨true,rfl,rfl⟩
  |cons t ts=>simp[vm] at h
 |cons f fs ih=>
  intro i ts e h hr l1 l2;cases ts with
  |nil=>simp[vm] at h
  |cons t ts=>
   simp only[vm] at h;cases hc:((f.name != "_")&&Nat.beq f.offset i&&l5 P f.type t&&P.plainKey f.type)<;>simp only[hc,cond_true,cond_false] at h
   ·cases h
   simp only[aj,bne_iff_ne,ne_eq] at hc;obtain⟨⟨⟨hn,ho⟩,hk⟩,hp⟩:=hc;have ho:=au ho;simp only[ao,av] at h;obtain⟨e1,jB,r,lT,rfl⟩:=h
   obtain⟨b2,bk,CA⟩:=ih (i+1) ts r lT (fun j t hj=>by
        have:=hr (j+1) t (by simpa using hj)
        rwa [show i+(j+1)=i+1+j by omega,show b+i+(j+1)=b+(i+1)+j by omega] at this) (by simp at l1;omega) (by simp at l2;omega)
   obtain⟨g1,g2⟩:=hr 0 t rfl;rw[gK,gK] at g1 g2;simp only[og] at l1 l2;have tF:vs.toArray[f.offset]?=some (vs.getD i undef):=by rw[ho];simp[aF,show i<vs.length by omega]
   have MZ:us.toArray[f.offset]?=some (us.getD i undef):=by rw[ho];simp[aF,show i<us.length by omega]
   have p1:=run_part_plain (P:=P) (w:=w) hp tF;have p2:=run_part_plain (P:=P) (w:=w) hp MZ;have ex:(PE.cell x (b+i)).ev ρ=X.getD (b+i) .none:=by simp only[PE.ev,hx];rfl
   have ey:(PE.cell y (b+i)).ev ρ=Y.getD (b+i) .none:=by simp only[PE.ev,hy];rfl
   obtain⟨b1,bW,nG⟩:=TA (P:=P) w d (ρ:=ρ) hk jB (by rw[ex];exact g1) (by rw[ey];exact g2);refine⟨b1&&b2,by simp only[PE.ev,bW,bk];rfl,?_⟩;simp only[Op.eqFields,if_pos hn,Sem.run_bind,p1,p2,nG,Result.andThen_ok];cases b1
   ·rfl
   ·simpa using CA
theorem adn {P:Program}{cap:Nat→Option CSig}{σ:Im}{ρ:Env}{x y:PE}{X Y:List D}(w:World)(hx:x.ev ρ=.agg X)(hy:y.ev ρ=.agg Y){vs us:List Value}(d:Nat):
 ∀(fs:List Field) (i:Nat) (ts:List Ty) (e:PE),vn P x y fs i ts=some e→(∀j t,ts[j]?=some t→Rep cap σ t (vs.getD (i+j) undef) (X.getD (i+j) .none)∧Rep cap σ t (us.getD (i+j) undef) (Y.getD (i+j) .none))→
  i+ts.length≤vs.length→i+ts.length≤us.length→
  ∃b,e.ev ρ=.v (.bool b)∧(Op.eqFields (d+2) vs.toArray us.toArray fs).run P w=.ok b w:=by
 intro fs
 induction fs with
 |nil=>
  intro i ts e h _ _ _;cases ts with
  |nil=>simp only[vn,aO] at h;subst h;exact⟨true,rfl,rfl⟩
  |cons t ts=>simp[vn] at h
 |cons f fs ih=>
  intro i ts e h hr l1 l2;unfold vn at h;split at h
  ·rename_i n bl;cases hb:Nat.ble n ts.length<;>simp only[hb,cond_true,cond_false] at h
   ·cases h
   have hn:=jP hb;simp only[ao,av] at h;obtain⟨e1,jB,r,lT,rfl⟩:=h
   obtain⟨b2,bk,CA⟩:=ih (i+n) (ts.drop n) r lT (fun j t hj=>by
        have:=hr (n+j) t (by rw[dN] at hj;exact hj)
        rwa [show i+(n+j)=i+n+j by omega] at this) (by rw[qQ];omega) (by rw[qQ];omega)
   unfold VH at bl;split at bl
   case h_2=>cases bl
   rename_i fs' hu;cases hc:((f.name != "_")&&Nat.beq f.offset i&& !P.stoodInHeld f.type)<;>simp only[hc,cond_true,cond_false] at bl
   ·cases bl
   cases bl;simp only[aj,bne_iff_ne,ne_eq,hH] at hc;obtain⟨⟨az,ho⟩,bX⟩:=hc;have ho:=au ho;have jC:P.underlying f.type=some (.struct (P.fieldsOf f.type)):=by unfold Program.fieldsOf;rw[hu]
   obtain⟨inf,hi⟩:=info_of_underlying hu
   have nE:∀zs:List Value,(part f.type zs.toArray f.offset).run P w=.ok (.agg ((zs.drop i).take (P.cellsOf f.type)).toArray) w:=fun zs=>by
        have:(zs.toArray.extract f.offset (f.offset+P.cellsOf f.type))=((zs.drop i).take (P.cellsOf f.type)).toArray:=by
         rw[ho];apply qL;rw[Array.toList_extract];simp[List.extract]
        rw[←this];simp[part,isAgg,run_underlying hu,run_sizeOf w hi]
   obtain⟨b1,bW,nG⟩:=ado (P:=P) (cap:=cap) (σ:=σ) (ρ:=ρ) w hx hy (vs:=(vs.drop i).take (P.cellsOf f.type)) (us:=(us.drop i).take (P.cellsOf f.type)) i d _ 0 (ts.take (P.cellsOf f.type)) e1 jB (fun j t hj=>by
        rw[dm] at hj;split at hj
        ·rename_i vG;have:=hr j t hj;simpa [aF,dm,vG,dN] using this
        ·cases hj) (by simp only[db,qQ];omega) (by simp only[db,qQ];omega)
   have ag9:(Op.equalIn (d+2) f.type (.agg ((vs.drop i).take (P.cellsOf f.type)).toArray) (.agg ((us.drop i).take (P.cellsOf f.type)).toArray)).run P w=.ok b1 w:=by
        rw[run_equalIn_struct w (d+1) f.type _ _ jC bX];exact nG
   refine⟨b1&&b2,by simp only[PE.ev,bW,bk];rfl,?_⟩;simp only[Op.eqFields,if_pos az,Sem.run_bind,nE,ag9,Result.andThen_ok];cases b1
   ·rfl
   ·simpa using CA
  ·split at h
   ·rename_i t ts;cases hc:((f.name != "_")&&Nat.beq f.offset i&&l5 P f.type t&&P.plainKey f.type)<;>simp only[hc,cond_true,cond_false] at h
    ·cases h
    simp only[aj,bne_iff_ne,ne_eq] at hc;obtain⟨⟨⟨hn,ho⟩,hk⟩,hp⟩:=hc;have ho:=au ho;simp only[ao,av] at h;obtain⟨e1,jB,r,lT,rfl⟩:=h
    obtain⟨b2,bk,CA⟩:=ih (i+1) ts r lT (fun j t hj=>by
     have:=hr (j+1) t (by simpa using hj)
     rwa [show i+(j+1)=i+1+j by omega] at this) (by simp at l1;omega) (by simp at l2;omega)
    obtain⟨g1,g2⟩:=hr 0 t rfl;rw[gK] at g1 g2;simp only[og] at l1 l2;have tF:vs.toArray[f.offset]?=some (vs.getD i undef):=by rw[ho];simp[aF,show i<vs.length by omega]
    have MZ:us.toArray[f.offset]?=some (us.getD i undef):=by rw[ho];simp[aF,show i<us.length by omega]
    have p1:=run_part_plain (P:=P) (w:=w) hp tF;have p2:=run_part_plain (P:=P) (w:=w) hp MZ;have ex:(PE.cell x i).ev ρ=X.getD i .none:=by simp only[PE.ev,hx];rfl
    have ey:(PE.cell y i).ev ρ=Y.getD i .none:=by simp only[PE.ev,hy];rfl
    obtain⟨b1,bW,nG⟩:=TA (P:=P) w (d+1) (ρ:=ρ) hk jB (by rw[ex];exact g1) (by rw[ey];exact g2);refine⟨b1&&b2,by simp only[PE.ev,bW,bk];rfl,?_⟩;simp only[Op.eqFields,if_pos hn,Sem.run_bind,p1,p2,nG,Result.andThen_ok];cases b1
    ·rfl
    ·simpa using CA
   ·cases h
theorem ajG (h:Inv C S ρ σ own hv w0 σ0 A a w)(hC:CtxOK C σ0)(hg:holds gs ρ=true){op:BinOp}{T T':TypeId}{x y:Operand}{r:Sh×List PI}(hr:zi C S gs dst op T x y=some r){o:Oper}(ho:o.op=.binOp op T x y T'):
 eF C S ρ σ hv Φ dst a w o r:=by
 simp only[zi,ao] at hr;obtain⟨p,hp,q,hq,hr⟩:=hr;have aQ:=cl h hC hg hp;have dK:=cl h hC hg hq;split at hr
 ·rename_i k k' e1 e2;rw[e1] at aQ;rw[e2] at dK;obtain⟨n,aL,ba,b1,b2⟩:=aQ.int_inv;obtain⟨m,gS,eg,b3,b4⟩:=dK.int_inv;have af:=I2 (C:=C) (w:=w) ho aL gS (by intro u e;cases e) (by intro e;cases e);cases eu:(op==.shl||op==.shr)<;>simp only[eu,cond_true,cond_false] at hr
  ·cases oL:(k==k')<;>simp only[oL,cond_true,cond_false] at hr
   ·cases hr
   ·have L8:k=k':=by simpa using oL
    subst L8;cases MF:(op==.quo||op==.rem)<;>simp only[MF,cond_true,cond_false] at hr
    ·cases har:ES op<;>simp only[har,cond_true,cond_false] at hr
     ·cases yH:yc op<;>simp only[yH,cond_true,cond_false] at hr
      ·cases hr
      ·cases hr;refine .dat (v:=.bool (iQ op n m)) ?_ ?_
       ·rw[af];cases op<;>simp_all [yc]<;>simp[binOp,Op.intCmp,iQ,Sem.run,pure,Sem.bind]
       ·simp only[PE.ev,ba,eg,D.i_int];exact .bool _
     ·cases hr;refine .dat (v:=.int k (cU op k n m)) ?_ ?_
      ·rw[af];cases op<;>simp_all [ES]<;>simp[binOp,Op.intArith,Op.intBits,cU,Sem.run,pure,Sem.bind]
      ·simp only[PE.ev,ba,eg,D.i_int];refine .int _ _ ?_ ?_<;>(cases op<;>simp_all [ES]<;>first|exact(qK _ _).1|exact(qK _ _).2)
    ·cases hr;refine .datc hg fun hc=>⟨.int k (cU op k n m),?_,?_⟩
     ·have az:m≠0:=by simpa [PE.ev,eg,D.i_int,D.b_bool,iQ,D.int] using hc
      rw[af];rcases(by simpa using MF:op=.quo∨op=.rem) with rfl|rfl<;>simp[binOp,Op.intDiv,cU,Sem.run,pure,Sem.bind,az]
     ·simp only[PE.ev,ba,eg,D.i_int];cases op<;>simp_all
      ·exact .int _ _ (qK _ _).1 (qK _ _).2
      ·exact .int _ _ (Z3 k ⟨b1,b2⟩).1 (Z3 k ⟨b1,b2⟩).2
  ·cases hr;refine .datc hg fun hc=>⟨.int k (cU op k n m),?_,?_⟩
   ·have az:¬m<0:=by
     have:0≤m:=by simpa [PE.ev,eg,D.i_int,D.b_bool,iQ,D.int] using hc
     omega
    rw[af];rcases(by simpa using eu:op=.shl∨op=.shr) with rfl|rfl<;>simp[binOp,Op.shift,cU,Sem.run,pure,Sem.bind,az]
   ·simp only[PE.ev,ba,eg,D.i_int];cases op<;>simp_all
    ·exact .int _ _ (qK _ _).1 (qK _ _).2
    ·exact .int _ _ (TF k _ ⟨b1,b2⟩).1 (TF k _ ⟨b1,b2⟩).2
 ·rename_i e1 e2;rw[e1] at aQ;rw[e2] at dK;obtain⟨n,aL,ba⟩:=aQ.bool_inv;obtain⟨m,gS,eg⟩:=dK.bool_inv;have af:=I2 (C:=C) (w:=w) ho aL gS (by intro u e;cases e) (by intro e;cases e);cases bQ:((op==.eql||op==.neq)&&Nc C.P T)<;>simp only[bQ,cond_true,cond_false] at hr
  ·cases hr
  ·cases hr;simp only[aj] at bQ;obtain⟨bQ,hT⟩:=bQ;have yB:C.P.underlying T=some .bool:=by
        unfold Nc at hT;split at hT
        ·assumption
        ·cases hT
   have heq:(Op.equal T (.bool n) (.bool m)).run C.P w=.ok (n==m) w:=by
        have:∀d,(Op.equalIn (d+1) T (.bool n) (.bool m)).run C.P w=.ok (n==m) w:=fun d=>by simp[Op.equalIn,run_underlying yB]
        exact this 9999
   refine .dat (v:=.bool (yb op n m)) ?_ ?_
   ·rw[af];rcases(by simpa using bQ:op=.eql∨op=.neq) with rfl|rfl<;>simp[binOp,yb,heq,Sem.run_bind']
   ·simp only[PE.ev,ba,eg,D.b_bool];exact .bool _
 ·rename_i e1 e2;rw[e1] at aQ;rw[e2] at dK;obtain⟨n,aL,ba,_⟩:=aQ.str_inv;obtain⟨m,gS,eg,_⟩:=dK.str_inv;have af:=I2 (C:=C) (w:=w) ho aL gS (by intro u e;cases e) (by intro e;cases e);cases bQ:yc op<;>simp only[bQ,cond_true,cond_false] at hr
  ·cases hr
  ·cases hr;refine .dat (v:=.bool (yd op n m)) ?_ ?_
   ·rw[af];cases op<;>simp_all [yc]<;>simp[binOp,Op.stringOp,yd,Sem.run,pure,Sem.bind]
   ·simp only[PE.ev,ba,eg,D.s_str];exact .bool _
 ·rename_i e e' e1 e2;rw[e1] at aQ;rw[e2] at dK;split at hr
  case h_2=>cases hr
  rename_i E hT;cases bQ:(op==.eql||op==.neq)<;>simp only[bQ,cond_true,cond_false] at hr
  ·cases hr
  cases hr;obtain⟨n,xs,aL,ba,Mm⟩:∃(n:Bool) (xs:List D),(n=true∧a.eval x=.slice none 0 0∨n=false∧∃k o m c,a.eval x=.slice (some ⟨k,o,none⟩) m c)∧p.2.ev ρ=.list xs∧n=decide (xs=[]):=by
   generalize a.eval x=vv at aQ;generalize p.2.ev ρ=dd at aQ;cases aQ with
   |nsl0=>exact⟨true,[],.inl ⟨rfl,rfl⟩,rfl,rfl⟩
   |nsl _ k o m c xs h hx=>exact⟨false,xs,.inr ⟨rfl,k,o,m,c,rfl⟩,rfl,by simp[hx]⟩
  have gS:a.eval y=.slice none 0 0:=by
   generalize a.eval y=vv at dK;generalize q.2.ev ρ=dd at dK;cases dK;rfl
  have heq:(Op.equal T (a.eval x) (a.eval y)).run C.P w=.ok n w:=by
   have:∀d,(Op.equalIn (d+1) T (a.eval x) (a.eval y)).run C.P w=.ok n w:=fun d=>by
        rw[gS];rcases aL with⟨rfl,h1⟩|⟨rfl,k,o,m,c,h1⟩<;>rw[h1]<;>simp[Op.equalIn,run_underlying hT]
   exact this 9999
  have af:=I2 (C:=C) (w:=w) ho rfl rfl (by
   intro u e;rcases aL with⟨_,h1⟩|⟨_,k,o,m,c,h1⟩<;>rw[h1] at e<;>cases e) (by
   intro e;rcases aL with⟨_,h1⟩|⟨_,k,o,m,c,h1⟩<;>rw[h1] at e<;>cases e)
  refine .dat (v:=.bool (iQ op xs.length 0)) ?_ ?_
  ·have az:∀(y:D) (ys:List D),¬((ys.length:Int)+1=0):=fun y ys=>by omega
   rw[af,gS];rw[gS] at heq;rcases aL with⟨_,h1⟩|⟨_,k,o,m,c,h1⟩<;>rw[h1] at heq ⊢<;>rcases(by simpa using bQ:op=.eql∨op=.neq) with rfl|rfl<;>cases xs<;>simp[binOp,heq,Sem.run_bind',iQ,Mm]<;>(try omega)
  ·simp only[PE.ev,ba,D.l_list,D.int,D.i_int];exact .bool _
 ·rename_i ts us e1 e2;rw[e1] at aQ;rw[e2] at dK;cases bQ:((op==.eql||op==.neq)&&Ty.beqs ts us&&K4 C.P T)<;>simp only[bQ,cond_true,cond_false] at hr
  ·cases hr
  simp only[aj] at bQ;obtain⟨⟨bQ,MX⟩,bX⟩:=bQ;have:=Ty.beqs_eq _ _ MX;subst this;simp only[K4,aj,hH] at bX;obtain⟨⟨Vp,ahl⟩,ahm⟩:=bX;have jC:C.P.underlying T=some (.struct (C.P.fieldsOf T)):=by
   unfold Program.fieldsOf;split at Vp
   ·rename_i fs hu;rw[hu]
   ·cases Vp
  simp only[av] at hr;obtain⟨e,he,rfl⟩:=hr;obtain⟨vs,ds,aL,ba,l1,l2,aD,_⟩:=aQ.agg_inv;obtain⟨Al,ds',gS,eg,l3,l4,ij,_⟩:=dK.agg_inv
  obtain⟨b,hb,af⟩:=adn (P:=C.P) (cap:=C.cap) (σ:=σ) (ρ:=ρ) w ba eg (vs:=vs) (us:=Al) 9997 _ 0 ts e he (fun j t hj=>by
   rw[eW];exact⟨aD j t hj,ij j t hj⟩) (by omega) (by omega)
  have heq:(Op.equalIn 10000 T (.agg vs.toArray) (.agg Al.toArray)).run C.P w=.ok b w:=by
   rw[run_equalIn_struct w 9999 T _ _ jC ahl];exact af
  have gi:=run_eqGuard_agg (P:=C.P) (w:=w) op T x y vs.toArray Al.toArray ahm
  have UH:(execOp a.eval o).run C.P w=((binOp op T (.agg vs.toArray) (.agg Al.toArray)).run C.P w).andThen fun r w'=>.ok (.value r) w':=by
   simp only[execOp,ho,aL,gS,Sem.run_bind,gi,Result.andThen_ok];rfl
  rcases(by simpa using bQ:op=.eql∨op=.neq) with rfl|rfl
  ·refine .dat (v:=.bool b) ?_ ?_
   ·rw[UH,run_eql_struct,heq];rfl
   ·show Rep _ _ .bool _ (PE.ev ρ e);rw[hb];exact .bool _
  ·refine .dat (v:=.bool (!b)) ?_ ?_
   ·rw[UH,run_neq_struct,heq];rfl
   ·show Rep _ _ .bool _ (PE.ev ρ (.nt e));simp only[PE.ev,hb];exact .bool _
 ·cases hr
theorem aka (h:Inv C S ρ σ own hv w0 σ0 A a w)(hC:CtxOK C σ0)(hg:holds gs ρ=true){op:UnOp}{T:TypeId}{x:Operand}{r:Sh×List PI}(hr:zx C S gs dst op x=some r){o:Oper}(ho:o.op=.unOp op T x):
 eF C S ρ σ hv Φ dst a w o r:=by
 simp only[zx,ao] at hr;obtain⟨p,hp,hr⟩:=hr;have aQ:=cl h hC hg hp;split at hr
 ·rename_i k e1;rw[e1] at aQ;obtain⟨n,aL,ba,b1,b2⟩:=aQ.int_inv;cases hr;refine .dat (v:=.int k (cU .sub k 0 n)) ?_ ?_
  ·simp[execOp,ho,aL,Op.unary,Op.intArith,cU,Sem.run,pure,bind,Sem.bind]
  ·simp only[PE.ev,ba,D.i_int];exact .int _ _ (qK _ _).1 (qK _ _).2
 ·rename_i e1;rw[e1] at aQ;obtain⟨n,aL,ba⟩:=aQ.bool_inv;cases hr;refine .dat (v:=.bool (!n)) ?_ ?_
  ·simp[execOp,ho,aL,Op.unary,Sem.run,pure,bind,Sem.bind]
  ·simp only[PE.ev,ba,D.b_bool];exact .bool _
 ·cases hr
theorem ajK (h:Inv C S ρ σ own hv w0 σ0 A a w)(hC:CtxOK C σ0)(hg:holds gs ρ=true){s d:TypeId}{x:Operand}{r:Sh×List PI}(hr:zk C S gs dst s d x=some r){o:Oper}(ho:o.op=.convert s d x):
 eF C S ρ σ hv Φ dst a w o r:=by
 simp only[zk,ao] at hr;obtain⟨p,hp,hr⟩:=hr;have aQ:=cl h hC hg hp;split at hr
 ·rename_i k0 k k1 u1 u2 e1;rw[e1] at aQ;obtain⟨n,aL,ba,b1,b2⟩:=aQ.int_inv;cases hr;refine .dat (v:=.int k (k.wrap n)) ?_ ?_
  ·simp[execOp,ho,aL,convert,run_underlying u1,run_underlying u2,Conv.intToInt]
  ·simp only[PE.ev,ba,D.i_int];exact .int _ _ (qK _ _).1 (qK _ _).2
 ·rename_i u1 u2 e1;rw[e1] at aQ;obtain⟨n,aL,ba,b1⟩:=aQ.str_inv;cases hr;refine .dat (v:=.string n) ?_ ?_
  ·simp[execOp,ho,aL,convert,run_underlying u1,run_underlying u2]
  ·rw[ba];exact .str _ b1
 ·cases hr
end
end Cx
namespace Cx
open Go Go.RowKit
theorem tM {n:Nat}(h:n≤maxLen):IntKind.i64.min≤(n:Int)∧(n:Int)≤IntKind.i64.max:=by
 simp only[maxLen] at h;simp only[IntKind.min,IntKind.max,IntKind.signed,IntKind.bits];simp;omega
section
variable {C:Ctx} {S:St} {ρ:Env} {σ:Im} {own:Nat→Option Nat} {hv:Nat→Value} {w0:World} {σ0:Base} {A:Nat→Prop} {a:Act} {w:World} {gs:List (Nat×Bool)} {Φ:aR} {dst:Nat}
def JV (C:Ctx)(σ:Im)(w:World)(B:Nat)(t:Ty)(v:Value)(d:D):Prop:=
 Rep C.cap σ t v d∨
 (∃T e cells xs,t=.slice e.rol∧d=.list xs∧w.ownsRow B T e.size v xs.length cells∧eD C.cap σ e cells xs)∨
 (∃k arr clock es kt et,t=.map kt et∧v=.map (some k)∧w.heap[k]?=some (.map arr clock)∧d=.map es∧es.length=arr.size∧es.length≤maxLen∧
    ∀(i:Nat) (e:MapEntry) (p:D×D),arr[i]?=some e→es[i]?=some p→Rep C.cap σ kt e.key p.1∧Rep C.cap σ et e.val p.2)
theorem RK (h:Inv C S ρ σ own hv w0 σ0 A a w)(hC:CtxOK C σ0)(hg:holds gs ρ=true){x:Operand}{r:Ty×PE}(hu:view C S gs x=some r):JV C σ w w0.heap.size r.1 (a.eval x) (r.2.ev ρ):=by
 unfold view at hu;split at hu
 ·rename_i r' Cv;cases hu;exact .inl (cl h hC hg Cv)
 ·split at hu
  ·rename_i t _;obtain⟨hs,_⟩:=ml h hg t;split at hu
   ·rename_i j ver e;rw[e] at hs;cases hb:Nat.beq ver (S.ver j)<;>simp only[hb,cond_true,cond_false] at hu
    ·cases hu
    ·have dC:=au hb;have ho:=h.objs j;have cj:a.eval (.tmp t)=hv j:=hs.2 dC;split at hu
     ·rename_i T e eo;rw[eo] at ho;cases hu;obtain⟨cells,xs,h1,h2,h3,h4⟩:=ho;rw[cj];exact .inr (.inl ⟨T,e,cells,xs,rfl,h1,h2,h3⟩)
     ·rename_i kt et eo;rw[eo] at ho;cases hu;obtain⟨k,arr,clock,es,h1,h2,h3,h4,h5,⟨hx,_⟩,h6⟩:=ho;rw[cj];exact .inr (.inr ⟨k,arr,clock,es,kt,et,rfl,h1,h3,h4,h5,hx,h6⟩)
     ·cases hu
   ·cases hu
  ·cases hu
theorem wD {w:World}{B e size n:Nat}{v:Value}{cells:List Value}(h:w.ownsRow B e size v n cells):∃b c,v=.slice b n c∧n≤maxLen∧n≤c:=by
 rcases h.2 with⟨rfl,rfl⟩|⟨g,cap,cur,rfl,h1,h2,h3,h4,h5⟩
 ·exact⟨none,0,rfl,by decide,aU _⟩
 ·exact⟨_,cap,rfl,cC h3 h4,h3⟩
theorem PG {b:Builtin}{args:Array Operand}{ts:Array TypeId}{o:Oper}(ho:o.op=.call {callee:=.builtin b,args:=args,argTypes:=ts}):
 ∃cs,(execOp a.eval o).run C.P w=(builtin b ts o.type cs (args.map a.eval)).run C.P w:=
 ⟨_,by simp only[execOp,ho,resolve,invoke];rfl⟩
theorem ajX (h:Inv C S ρ σ own hv w0 σ0 A a w)(hC:CtxOK C σ0)(hg:holds gs ρ=true){T:TypeId}{x:Operand}{r:Sh×List PI}(hr:zq C S gs dst T x=some r){o:Oper}
 (ho:o.op=.call {callee:=.builtin .len,args:=#[x],argTypes:=#[T]}):eF C S ρ σ hv Φ dst a w o r:=by
 simp only[zq,ao] at hr;obtain⟨p,hp,hr⟩:=hr;have aQ:=RK h hC hg hp;obtain⟨cs,af⟩:=PG (C:=C) (w:=w) (a:=a) ho;split at hr
 ·rename_i e T' e1 e2;rw[e1] at aQ;cases hr;have hx:∃b n c xs,a.eval x=.slice b n c∧p.2.ev ρ=.list xs∧xs.length=n∧n≤maxLen:=by
   rcases aQ with aQ|⟨T,e,cells,xs,ht,hd,aW,iu⟩|⟨k,arr,clock,es,kt,et,ht,_⟩
   ·obtain⟨xs,hd,⟨⟨p0,aL⟩,rfl⟩|⟨k,o,c,aL,h1,h2,_⟩⟩:=aQ.slice_inv
    ·exact⟨p0,0,0,[],aL,hd,rfl,by decide⟩
    ·exact⟨_,_,c,xs,aL,hd,rfl,by omega⟩
   ·obtain⟨b,c,aL,h1,_⟩:=wD aW;exact⟨b,_,c,xs,aL,hd,rfl,h1⟩
   ·cases ht
  obtain⟨b,n,c,xs,aL,hd,hl,hm⟩:=hx;refine .dat (v:=.int .i64 n) ?_ ?_
  ·rw[af];simp[builtin,Builtin.len_,aL,run_underlying e2,goInt]
  ·simp only[PE.ev,hd,D.l_list,hl];exact .int _ _ (tM hm).1 (tM hm).2
 ·rename_i e T' e1 e2;rw[e1] at aQ;cases hr;rcases aQ with aQ|⟨T,e,cells,xs,ht,_⟩|⟨k,arr,clock,es,kt,et,ht,_⟩
  ·generalize vX:a.eval x=v at aQ;generalize BU:p.2.ev ρ=d at aQ;cases aQ;refine .dat (v:=.int .i64 0) ?_ ?_
   ·rw[af];simp[builtin,Builtin.len_,vX,run_underlying e2,goInt]
   ·simp only[PE.ev,BU,D.l_list];exact .int _ _ (by decide) (by decide)
  ·cases ht
  ·cases ht
 ·rename_i e1 e2;rw[e1] at aQ;cases hr;rcases aQ with aQ|⟨T,e,cells,xs,ht,_⟩|⟨k,arr,clock,es,kt,et,ht,_⟩
  ·obtain⟨n,aL,ba,hm⟩:=aQ.str_inv;refine .dat (v:=.int .i64 n.size) ?_ ?_
   ·rw[af];simp[builtin,Builtin.len_,aL,run_underlying e2,goInt]
   ·simp only[PE.ev,ba,D.s_str];exact .int _ _ (tM hm).1 (tM hm).2
  ·cases ht
  ·cases ht
 ·rename_i k0 e0 a0 b0 e1 e2;rw[e1] at aQ;cases hr;rcases aQ with aQ|⟨T,e,cells,xs,ht,_⟩|⟨k,arr,clock,es,kt,et,ht,aL,hb,ba,hl,hx,_⟩
  ·generalize vX:a.eval x=v at aQ;generalize BU:p.2.ev ρ=d at aQ;cases aQ with
   |mapnil=>
    refine .dat (v:=.int .i64 0) ?_ ?_
    ·rw[af];simp[builtin,Builtin.len_,vX,run_underlying e2,goInt]
    ·simp only[PE.ev,BU,D.m];exact .int _ _ (by decide) (by decide)
   |map kt et r jn es hm hl hx hk _=>
    obtain⟨_,arr,clock,hb,iW⟩:=(h.ok.m _ _ hm).resolve_right (fun e=>C1 hl hk e.1);have hn:arr.size=es.length:=by rw[hl,←iW];simp[entriesOf]
    refine .dat (v:=.int .i64 arr.size) ?_ ?_
    ·rw[af];simp[builtin,Builtin.len_,vX,run_underlying e2,goInt,getObj,Sem.run,hb]
    ·simp only[PE.ev,BU,D.m,hn];exact .int _ _ (tM hx).1 (tM hx).2
  ·cases ht
  ·refine .dat (v:=.int .i64 arr.size) ?_ ?_
   ·rw[af];simp[builtin,Builtin.len_,aL,run_underlying e2,goInt,getObj,Sem.run,hb]
   ·simp only[PE.ev,ba,D.m,hl];exact .int _ _ (tM (hl▸hx)).1 (tM (hl▸hx)).2
 ·cases hr
theorem XX (h:Inv C S ρ σ own hv w0 σ0 A a w)(hC:CtxOK C σ0)(hg:holds gs ρ=true){mx:Bool}{x y:Operand}{ts:Array TypeId}{r:Sh×List PI}(hr:wz C S gs dst mx x y=some r){o:Oper}
 (ho:o.op=.call {callee:=.builtin (bif mx then .max else .min),args:=#[x,y],argTypes:=ts}):eF C S ρ σ hv Φ dst a w o r:=by
 simp only[wz,ao] at hr;obtain⟨p,hp,q,hq,hr⟩:=hr;have aQ:=cl h hC hg hp;have dK:=cl h hC hg hq;obtain⟨cs,af⟩:=PG (C:=C) (w:=w) (a:=a) ho;split at hr
 ·rename_i k k' e1 e2;rw[e1] at aQ;rw[e2] at dK;obtain⟨n,aL,ba,b1,b2⟩:=aQ.int_inv;obtain⟨m,gS,eg,b3,b4⟩:=dK.int_inv;cases oL:(k==k')<;>simp only[oL,cond_true,cond_false] at hr
  ·cases hr
  ·have L8:k=k':=by simpa using oL
   subst L8;cases hr;cases mx with
   |true=>
    refine .dat (v:=.int k (if m>n then m else n)) ?_ ?_
    ·rw[af];simp[builtin,Builtin.max_,Builtin.max2,aL,gS]
    ·simp only[cond_true,PE.ev,ba,eg,D.i_int];by_cases ae:m>n<;>simp[ae]<;>constructor<;>assumption
   |false=>
    refine .dat (v:=.int k (if m<n then m else n)) ?_ ?_
    ·rw[af];simp[builtin,Builtin.min_,Builtin.min2,aL,gS]
    ·simp only[cond_false,PE.ev,ba,eg,D.i_int];by_cases ae:m<n<;>simp[ae]<;>constructor<;>assumption
 ·cases hr
theorem ajM (h:Inv C S ρ σ own hv w0 σ0 A a w)(hC:CtxOK C σ0)(hg:holds gs ρ=true){x:Operand}{i:Nat}{r:Sh×List PI}(hr:zl C S gs dst x i=some r){o:Oper}(ho:o.op=.extract x i):
 eF C S ρ σ hv Φ dst a w o r:=by
 simp only[zl,ao] at hr;obtain⟨p,hp,hr⟩:=hr;have aQ:=cl h hC hg hp;split at hr
 ·rename_i ts e1;rw[e1] at aQ;simp only[av] at hr;obtain⟨t,ht,rfl⟩:=hr;obtain⟨vs,ds,aL,ba,l1,l2,aD⟩:=aQ.tup_inv;have hi:i<vs.length:=by rw[l1];exact(dZ.1 ht).1
  refine .dat (v:=vs.getD i undef) ?_ ?_
  ·obtain⟨u,hu⟩:∃u,vs[i]?=some u:=⟨_,bo hi⟩
   have gi:vs.getD i undef=u:=by rw[aF,hu];rfl
   rw[gi];simp[execOp,ho,aL,Instr.extract,hu]
  ·simp only[PE.ev,ba];exact aD i t ht
 ·cases hr
end
end Cx
namespace Cx
open Go Go.RowKit
theorem tK {P:Program}{T:TypeId}{ag:Bool}(h:oU P T=some ag)(w:World):(isAgg T).run P w=.ok ag w:=by
 unfold oU at h;split at h
 ·rename_i fs hu;cases h;simp[isAgg,run_underlying hu]
 ·rename_i n e hu;cases h;simp[isAgg,run_underlying hu]
 ·rename_i d h1 h2 hu;cases h;cases d<;>simp_all [isAgg,run_underlying hu]
 ·cases h
theorem qX (k o n:Nat):(⟨k,o,none⟩:Addr).add n=⟨k,o+n,none⟩:=by
 unfold Addr.add;split<;>simp_all
theorem I4 {P:Program}{T:TypeId}{inf:TypeInfo}{ag:Bool}{w:World}{k o:Nat}{cs:List Value}(hi:P.info? T=some inf)(ha:oU P T=some ag)(hl:cs.length=inf.size)
 (h1:ag=false→cs.length=1) (hc:∀j u,cs[j]?=some u→w.cell? ⟨k,o+j,none⟩=some u):(loadVar T ⟨k,o,none⟩).run P w=.ok (rowOf ag cs) w:=by
 cases ag with
 |true=>
  have:=run_loadCells_list (P:=P) w ⟨k,o,none⟩ cs (fun j v hv=>by rw[qX];exact hc j v hv);rw[hl] at this;simp[loadVar,tK ha,Go.sizeOf,run_typeInfo w hi,this,rowOf]
 |false=>
  obtain⟨u,hu⟩:∃u,cs=[u]:=by
   have:=h1 rfl
   match cs,this with
   |[u],_=>exact⟨u,rfl⟩
  subst hu;have h0:=hc 0 u rfl;simp only[gK] at h0;simp[loadVar,tK ha,rowOf,run_load,h0]
section
variable {C:Ctx} {S:St} {ρ:Env} {σ:Im} {own:Nat→Option Nat} {hv:Nat→Value} {w0:World} {σ0:Base} {A:Nat→Prop} {a:Act} {w:World} {gs:List (Nat×Bool)} {Φ:aR} {dst:Nat}
theorem uw {o:Oper}{T:TypeId}{x:Operand}{v:Value}{k off:Nat}(ho:o.op=.load T x)(hx:a.eval x=.pointer (some ⟨k,off,none⟩))(hl:(loadVar T ⟨k,off,none⟩).run C.P w=.ok v w):
 (execOp a.eval o).run C.P w=.ok (.value v) w:=by
 simp[execOp,ho,Instr.loadAt,hx,Instr.sureAddr,hl]
theorem rj {α:Type}{l:List α}{i:Nat}{x d:α}(h:l[i]?=some x):l.getD i d=x:=by
 rw[aF,h];rfl
theorem Ia {cap:Nat→Option CSig}{ts:List Ty}{vs:List Value}{ds:List D}{ag:Bool}{n off:Nat}{ty:Ty}(hp:tV ag n ts off=some ty)
 (h1:vs.length=ts.length) (h2:ds.length=ts.length) (hr:∀(i:Nat) (t:Ty),ts[i]?=some t→Rep cap σ t (vs.getD i undef) (ds.getD i .none)) (ho:∀(i:Nat) (t:Ty),ts[i]?=some t→t.one=true):
 Rep cap σ ty (rowOf ag ((vs.drop off).take n)) (bif ag then .agg ((ds.drop off).take n) else ds.getD off .none)∧((vs.drop off).take n).length=n∧(ag=false→n=1):=by
 unfold tV at hp;cases hle:Nat.ble (off+n) ts.length<;>simp only[hle,cond_true,cond_false] at hp
 ·cases hp
 ·have L9:=jP hle;have hlen:((vs.drop off).take n).length=n:=by simp;omega
  cases ag with
  |true=>
   simp only[cond_true] at hp;cases hp;refine⟨?_,hlen,fun e=>by cases e⟩;simp only[rowOf,if_true,cond_true];refine .agg _ _ _ (by simp;omega) (by simp;omega) (fun i t hi=>?_) (fun i t hi=>?_)
   ·simp only[dm,dN] at hi;split at hi
    ·rename_i bl;have:=hr (off+i) t hi;simpa [aF,dm,dN,bl] using this
    ·cases hi
   ·simp only[dm,dN] at hi;split at hi
    ·exact ho _ t hi
    ·cases hi
  |false=>
   simp only[cond_false] at hp;cases hn:Nat.beq n 1<;>simp only[hn,cond_true,cond_false] at hp
   ·cases hp
   ·have lh:=au hn;subst lh;refine⟨?_,hlen,fun _=>rfl⟩;have:=hr off ty hp;have ae:off<vs.length:=by omega
    simpa [rowOf,aF,dm,dN] using this
theorem H9 {ag:Bool}{n:Nat}{e:PE}{off:Nat}{ds:List D}(h:e.ev ρ=.agg ds):(zz ag n e off).ev ρ=bif ag then .agg ((ds.drop off).take n) else ds.getD off .none:=by
 cases ag<;>simp[zz,PE.ev,h,D.cells,D.c]
theorem Inv.cell (h:Inv C S ρ σ own hv w0 σ0 A a w){k o:Nat}{u:Value}(hc:σ.c k o=some u):w.cell? ⟨k,o,none⟩=some u:=h.ok.c _ _ _ hc
theorem Rep.rowOf {cap:Nat→Option CSig}{t:Ty}{v:Value}{d:D}(h:Rep cap σ t v d):v=Cx.rowOf t.rowT v.cells.toList:=by
 cases h<;>simp[Cx.rowOf,Ty.rowT,Value.cells]
theorem Rep.cells1 {cap:Nat→Option CSig}{t:Ty}{v:Value}{d:D}(h:Rep cap σ t v d)(ht:t.rowT=false):v.cells=#[v]:=by
 cases h<;>simp_all [Ty.rowT,Value.cells]
theorem ajZ (h:Inv C S ρ σ own hv w0 σ0 A a w){T:TypeId}{x:Operand}{inf:TypeInfo}{ag:Bool}(hi:C.P.info? T=some inf)(ha:oU C.P T=some ag){o:Oper}(ho:o.op=.load T x)
 {ty:Ty} {e:PE} (hr:Rep C.cap σ (.ref ty) (a.eval x) (e.ev ρ)) (hs:Nat.beq inf.size ty.size=true) (GA:(ag==ty.rowT)=true):
 eF C S ρ σ hv Φ dst a w o (.dat ty,[.setR dst (.deref e)]):=by
 obtain⟨k,off,v,y,aL,ba,bE,ir⟩:=hr.ref_inv;have oS:=au hs;have BM:ag=ty.rowT:=by simpa using GA
 have hz:=bE.size;have ff:=bE.rowOf;refine .dat (v:=v) (uw ho aL ?_) ?_
 ·rw[ff,←BM];refine I4 hi ha (by simp[hz,oS]) (fun e=>?_) (fun j u hu=>?_)
  ·subst e;simp[bE.cells1 BM.symm]
  ·exact h.cell (ir j u (by simpa using hu))
 ·simp only[PE.ev,ba,D.deref];exact bE
theorem KA {w:World}{k:Nat}{cs:Array Value}{T:TypeId}{fr:Nat×Nat}(hb:w.heap[k]?=some (.cells cs T fr)){i:Nat}(hi:i<cs.size):w.cell? ⟨k,i,none⟩=some (cs.getD i undef):=by
 simp[World.cell?,hb,ej,dX hi]
theorem yw (cs:Array Value)(i:Nat):cs.toList.getD i undef=cs.getD i undef:=by
 simp[aF,ej]
theorem SC {cs:Array Value}{ds:List D}:∀(shs:List Sh) (i:Nat) (l:List AgC),sM S shs=some l→(∀m s,shs[m]?=some s→aC C S ρ σ hv s (cs.getD (i+m) undef) (ds.getD (i+m) .none))→
 l.length=shs.length∧∀(m:Nat) (c:AgC),l[m]?=some c→mz C S σ hv c (cs.getD (i+m) undef) (ds.getD (i+m) .none)
 |[],i,l,hl,_=>by simp only[sM,aO] at hl;subst hl;exact⟨rfl,fun m c hm=>by simp at hm⟩
 |s::r,i,l,hl,aD=>by
  simp only[sM,ao] at hl;obtain⟨x,hx,hl⟩:=hl
  obtain⟨g1,g3⟩:=SC r (i+1) x hx fun m s hm=>by
   have:=aD (m+1) s (by simpa using hm)
   rwa [show i+(m+1)=i+1+m by omega] at this
  have h0:=aD 0 s rfl;rw[gK] at h0;split at hl
  ·rename_i t;cases dh:t.one<;>simp only[dh,cond_true,cond_false] at hl
   ·cases hl
   cases hl;refine⟨by simp[g1],fun m c hm=>?_⟩;cases m with
   |zero=>simp at hm;subst hm;exact⟨dh,h0⟩
   |succ m=>simp at hm;have:=g3 m c hm;rwa [show i+1+m=i+(m+1) by omega] at this
  ·rename_i j ver;cases hb:Nat.beq ver (S.ver j)<;>simp only[hb,cond_true,cond_false] at hl
   ·cases hl
   cases hl;refine⟨by simp[g1],fun m c hm=>?_⟩;cases m with
   |zero=>simp at hm;subst hm;exact h0
   |succ m=>simp at hm;have:=g3 m c hm;rwa [show i+1+m=i+(m+1) by omega] at this
  ·cases hl
theorem aaU {j off n len:Nat}{ds:List D}(h:ρ.o j=.agg ds)(hl:ds.length=len):(JZ j off n len).ev ρ=.agg ((ds.drop off).take n):=by
 unfold JZ;cases hb:(Nat.beq off 0&&Nat.beq n len)
 ·simp only[cond_false,PE.ev,h];rfl
 ·simp only[aj] at hb;obtain rfl:=au hb.1;obtain rfl:=au hb.2;simp only[cond_true,PE.ev,h,List.drop_zero,←hl,List.take_length]
theorem C5 (h:Inv C S ρ σ own hv w0 σ0 A a w)(hC:CtxOK C σ0)(hg:holds gs ρ=true){T:TypeId}{x:Operand}{r:Sh×List PI}(hr:rS C S gs dst T x=some r){o:Oper}(ho:o.op=.load T x):
 eF C S ρ σ hv Φ dst a w o r:=by
 unfold rS at hr;split at hr
 case h_2=>cases hr
 rename_i inf ag hi ha;have dU:aC C S ρ σ hv (eU S gs x) (a.eval x) ((pA x).ev ρ):=by
  cases x with
  |tmp t=>exact(ml h hg t).1
  |_=>trivial
 split at hr
 ·
  rename_i j ver off es;rw[es] at dU;cases hb:Nat.beq ver (S.ver j)<;>simp only[hb,cond_true,cond_false] at hr
  ·cases hr
  have dC:=au hb;obtain⟨k,eQ,fI⟩:=dU.2 dC;have aV:=h.objs j;split at hr
  ·rename_i bag shs eo;rw[eo] at aV;obtain⟨k',cs,T',ds,h1,h2,h3,h4,h5,h6,h7⟩:=aV;rw[eQ] at h1;cases h1;cases ag with
   |true=>
    simp only[cond_true] at hr;cases hle:Nat.ble (off+inf.size) shs.length<;>simp only[hle,cond_true,cond_false] at hr
    ·cases hr
    have L9:=jP hle;have hlen:((shs.drop off).take inf.size).length=inf.size:=by simp;omega
    have dA:∀m u,((cs.toList.drop off).take inf.size)[m]?=some u→w.cell? ⟨k,off+m,none⟩=some u:=fun m u hu=>by
     simp only[dm,dN] at hu;split at hu
     ·rename_i hm;have:=KA h3 (i:=off+m) (by omega);rw[this,←yw];exact congrArg some (rj hu)
     ·cases hu
    have Vm:=uw ho fI (I4 hi ha (by simp;omega) (fun e=>by cases e) dA);split at hr
    ·rename_i l hl;cases hr
     revert hl
     cases JX C j
     ·intro hl;cases hl
     intro hl
     obtain⟨ll,lo⟩:=SC (cs:=cs) (ds:=ds) _ off l hl (fun m s hm=>by
      simp only[dm,dN] at hm;split at hm
      ·exact(h7 (off+m) s hm).2
      ·cases hm)
     rw[hlen] at ll;refine fun ρ' af=>⟨_,_,sm af,Vm,⟨(cs.toList.drop off).take inf.size,(ds.drop off).take inf.size,by simp[rowOf],aaU h5 h6,by simp;omega,by simp;omega,fun m c hm=>?_⟩,fun _ _ e=>by cases e⟩
     have oM:m<inf.size:=by have:=(dZ.1 hm).1;omega
     have:=lo m c hm;simpa [aF,dm,dN,oM] using this
    simp only[av] at hr;obtain⟨p,hp,rfl⟩:=hr
    obtain⟨l1,es,⟨he,_⟩,l2,bE⟩:=KG (b:=.o j) h (cs:=cs.toList) h5 _ off p (fun m s hm=>by
     simp only[dm,dN] at hm;split at hm
     ·have:=(h7 (off+m) s hm).2;rw[yw];exact this
     ·cases hm) hp
    refine .dat (v:=rowOf true ((cs.toList.drop off).take inf.size)) Vm ?_
    ·simp only[PE.ev,rowOf,if_true,he];refine .agg _ _ _ (by simp;omega) (by omega) (fun m t hm=>?_) (fun m t hm=>(bE m t hm).1);have oM:m<inf.size:=by have:=(dZ.1 hm).1;omega
     have:=(bE m t hm).2;simpa [aF,dm,dN,oM] using this
   |false=>
    simp only[cond_false] at hr;split at hr
    ·rename_i ty hs;cases dh:ty.one<;>simp only[dh,cond_true,cond_false] at hr
     ·cases hr
     cases hr;have eH:=(h7 off _ hs).2;have ae:off<shs.length:=(dZ.1 hs).1;have vM:(loadVar T ⟨k,off,none⟩).run C.P w=.ok (cs.getD off undef) w:=by
      simp[loadVar,tK ha,run_load,KA h3 (i:=off) (by omega)]
     refine .dat (v:=cs.getD off undef) (uw ho fI vM) ?_;simp only[PE.ev,h5,D.c,D.cells];exact eH
    ·rename_i j' mw hs;cases hr;have eH:=(h7 off _ hs).2;have ae:off<shs.length:=(dZ.1 hs).1;have vM:(loadVar T ⟨k,off,none⟩).run C.P w=.ok (cs.getD off undef) w:=by
      simp[loadVar,tK ha,run_load,KA h3 (i:=off) (by omega)]
     intro ρ' af;exact⟨_,_,sm af,uw ho fI vM,eH,fun _ _ e=>by cases e⟩
    ·cases hr
  ·rename_i ts eo;rw[eo] at aV;obtain⟨k',v,h1,h2,h3⟩:=aV;rw[eQ] at h1;cases h1;simp only[av] at hr;obtain⟨ty,aY,rfl⟩:=hr;obtain⟨vs,ds,rfl,hd,l1,l2,aD,dh⟩:=h2.agg_inv;obtain⟨bE,hlen,lh⟩:=Ia aY l1 l2 aD dh;refine .dat (uw ho fI (I4 hi ha hlen (fun e=>by rw[hlen];exact lh e) (fun m u hu=>h.cell ?_))) (by rw[H9 (e:=.o j) hd];exact bE);simp only[dm,dN] at hu;split at hu
   ·exact h3 (off+m) u (by simpa [Value.cells] using hu)
   ·cases hu
  ·rename_i ty az eo;rw[eo] at aV;obtain⟨k',v,h1,h2,h3⟩:=aV;rw[eQ] at h1;cases h1;cases hc:(!ag&&ty.one&&Nat.beq off 0)<;>simp only[hc,cond_true,cond_false] at hr
   ·cases hr
   cases hr;simp only[aj,hH] at hc;have iY:=au hc.2;subst iY;have vM:(loadVar T ⟨k,0,none⟩).run C.P w=.ok v w:=by
        have:=h.cell (h3 0 v (by simp[(h2.oneCell hc.1.2).1]));rw[hc.1.1] at ha;simp[loadVar,tK ha,run_load,this]
   exact .dat (uw ho fI vM) h2
  ·cases hr
 ·
  rename_i j ver size off es;rw[es] at dU;cases hb:Nat.beq ver (S.ver j)<;>simp only[hb,cond_true,cond_false] at hr
  ·cases hr
  have dC:=au hb;obtain⟨k,n,c,ik,i,eQ,th,bl,fI⟩:=dU.2 dC;have aV:=h.objs j;split at hr
  ·rename_i T' ts eo;rw[eo] at aV;obtain⟨cells,xs,h1,h2,⟨vs,h3,h4⟩,h5⟩:=aV;cases aA:Nat.beq size ts.length<;>simp only[aA,cond_true,cond_false] at hr
   ·cases hr
   have qm:=au aA;simp only[av] at hr;obtain⟨ty,aY,rfl⟩:=hr;rw[eQ] at h2;have aP:=h2.cells (g:=k) rfl;obtain⟨b,c',e1,Mc,Cd⟩:=wD h2;cases e1;obtain⟨y,hy⟩:∃y,xs[i]?=some y:=⟨_,bo bl⟩
   have Hg:=h3 i y hy;obtain⟨us,ds,tF,hd,l1,l2,aD,dh⟩:=Hg.agg_inv;obtain⟨bE,hlen,lh⟩:=Ia aY l1 l2 aD dh;have agG:(PE.nth (.o j) (pA x)).ev ρ=.agg ds:=by
        simp only[PE.ev,h1,D.l_list,th,D.i_int,uS];rw[rj hy,hd]
   refine .dat (uw ho fI (I4 hi ha hlen (fun e=>by rw[hlen];exact lh e) (fun m u hu=>?_))) (by rw[H9 agG];exact bE);simp only[dm,dN] at hu;split at hu
   ·have:=h4 i (off+m) u (by omega) (by rw[tF];simpa [Value.cells] using hu);have:=aP _ _ this;rw[qX] at this;simpa [Ty.size,qm,sI] using this
   ·cases hu
  ·rename_i T' e az eo;rw[eo] at aV;obtain⟨cells,xs,h1,h2,⟨vs,h3,h4⟩,h5⟩:=aV;cases hc:(!ag&&e.one&&Nat.beq off 0&&Nat.beq size 1)<;>simp only[hc,cond_true,cond_false] at hr
   ·cases hr
   cases hr;simp only[aj,hH] at hc;have iY:=au hc.1.2;have aA:=au hc.2;subst iY;subst aA;rw[eQ] at h2;have aP:=h2.cells (g:=k) rfl;obtain⟨b,c',e1,Mc,Cd⟩:=wD h2;cases e1;obtain⟨y,hy⟩:∃y,xs[i]?=some y:=⟨_,bo bl⟩
   have Hg:=h3 i y hy;have vM:(loadVar T ⟨k,i*1+0,none⟩).run C.P w=.ok (vs i) w:=by
        have h6:=h4 i 0 (vs i) bl (by simp[(Hg.oneCell hc.1.1.2).1]);have:=aP _ _ h6;rw[qX] at this;have BX:e.size=1:=by cases e<;>simp_all [Ty.size,Ty.one]
        rw[hc.1.1.1] at ha;rw[BX] at this;simp only[eW,gK,Nat.mul_one] at this;simp[loadVar,tK ha,run_load,this]
   refine .dat (uw ho fI vM) ?_;simp only[PE.ev,h1,D.l_list,th,D.i_int,uS];rw[rj hy];exact Hg
  ·cases hr
 ·simp only[ao] at hr;obtain⟨p,hp,hr⟩:=hr;have aQ:=cl h hC hg hp;split at hr
  ·rename_i ty e1;rw[e1] at aQ;cases hc:(Nat.beq inf.size ty.size&&(ag==ty.rowT))<;>simp only[hc,cond_true,cond_false] at hr
   ·cases hr
   cases hr;simp only[aj] at hc;exact ajZ h hi ha ho aQ hc.1 hc.2
  ·cases hr
end
end Cx
namespace Cx
open Go Go.RowKit
section
variable {C:Ctx} {S:St} {ρ:Env} {σ:Im} {own:Nat→Option Nat} {hv:Nat→Value} {w0:World} {σ0:Base} {A:Nat→Prop} {a:Act} {w:World} {gs:List (Nat×Bool)} {Φ:aR} {dst:Nat}
theorem qF (h:Inv C S ρ σ own hv w0 σ0 A a w)(hg:holds gs ρ=true)(x:Operand):aC C S ρ σ hv (eU S gs x) (a.eval x) ((pA x).ev ρ)∧∀bG s,eU S gs x≠.opt bG s:=by
 cases x with
 |tmp t=>exact ml h hg t
 |_=>exact⟨trivial,fun _ _ e=>by cases e⟩
theorem TG {P:Program}{T:TypeId}{i:Nat}{f:Field}(h:Bp P T i=some f):∃fs,P.underlying T=some (.struct fs)∧fs[i]?=some f:=by
 unfold Bp at h;split at h
 ·rename_i fs hu;exact⟨fs,hu,h⟩
 ·cases h
theorem PH {o:Oper}{T:TypeId}{x:Operand}{i:Nat}{f:Field}{inf:TypeInfo}{k off:Nat}(ho:o.op=.fieldAddr T x i)(hf:Bp C.P T i=some f)(hi:C.P.info? f.type=some inf)(hn:Nat.beq inf.size 0=false)
 (hx:a.eval x=.pointer (some ⟨k,off,none⟩)):(execOp a.eval o).run C.P w=.ok (.value (.pointer (some ⟨k,off+f.offset,none⟩))) w:=by
 obtain⟨fs,hu,vE⟩:=TG hf;have iX:inf.size≠0:=by intro e;simp[e] at hn
 simp[execOp,ho,Instr.fieldAt,run_underlying hu,vE,hx,Instr.sureAddr,fieldPlace,Go.sizeOf,run_typeInfo w hi,iX,qX]
theorem ajO (h:Inv C S ρ σ own hv w0 σ0 A a w)(hC:CtxOK C σ0)(hg:holds gs ρ=true){T:TypeId}{x:Operand}{i:Nat}{r:Sh×List PI}(hr:zn C S gs dst T x i=some r){o:Oper}(ho:o.op=.fieldAddr T x i):
 eF C S ρ σ hv Φ dst a w o r:=by
 simp only[zn,ao] at hr;obtain⟨f,hf,hr⟩:=hr;obtain⟨dU,eI⟩:=qF h hg x;split at hr
 case h_2=>cases hr
 rename_i inf ag hi ha;cases hn:Nat.beq inf.size 0<;>simp only[hn,cond_true,cond_false] at hr
 case true=>cases hr
 split at hr
 ·rename_i j ver size off es;cases hb:Nat.beq ver (S.ver j)<;>simp only[hb,cond_true,cond_false] at hr
  ·cases hr
  cases hr;rw[es] at dU;intro ρ' af;obtain⟨k,n,c,ik,idx,eQ,th,bl,fI⟩:=dU.2 (au hb);exact⟨_,_,sm af,PH ho hf hi hn fI,⟨dU.1,fun _=>⟨k,n,c,ik,idx,eQ,th,bl,by rw[sI]⟩⟩,fun _ _ e=>by cases e⟩
 ·split at hr
  ·rename_i ts e hu;have aQ:=cl h hC hg hu;simp only[av] at hr;obtain⟨ty,aY,rfl⟩:=hr;obtain⟨k,off,v,y,aL,ba,bE,ir⟩:=Rep.ref_inv aQ;obtain⟨vs,ds,rfl,rfl,l1,l2,aD,dh⟩:=bE.agg_inv;obtain⟨nE,hlen,lh⟩:=Ia aY l1 l2 aD dh;refine .dat (PH ho hf hi hn aL) ?_;have hde:(PE.deref e).ev ρ=.agg ds:=by simp only[PE.ev,ba,D.deref]
   simp only[PE.ev];rw[H9 hde];refine .ref ty k (off+f.offset) _ _ nE (fun j u hu=>?_);have kE:((vs.drop f.offset).take inf.size)[j]?=some u:=by
        cases ag with
        |true=>simpa [rowOf,Value.cells] using hu
        |false=>
         have:=lh rfl;rw[this] at hlen ⊢;obtain⟨q,hq⟩:∃q,(vs.drop f.offset).take 1=[q]:=by
          match(vs.drop f.offset).take 1,hlen with
          |[q],_=>exact⟨q,rfl⟩
         rw[this] at nE hu;rw[hq] at nE hu ⊢;simp only[rowOf,sB] at nE hu;have tD:ty.rowT=false:=by
          unfold tV at aY;cases hle:Nat.ble (f.offset+inf.size) ts.length<;>simp only[hle,cond_true,cond_false] at aY
          ·cases aY
          ·cases hb:Nat.beq inf.size 1<;>simp only[hb,cond_true,cond_false] at aY
           ·cases aY
           ·have:=dh _ _ aY;cases ty<;>simp_all [Ty.one,Ty.rowT]
         rw[nE.cells1 tD] at hu;simpa using hu
   simp only[dm,dN] at kE;split at kE
   ·have:=ir (f.offset+j) u (by simpa [Value.cells] using kE)
    rwa [←sI] at this
   ·cases kE
  ·split at hr
   ·rename_i j ver off es;cases hb:Nat.beq ver (S.ver j)<;>simp only[hb,cond_true,cond_false] at hr
    ·cases hr
    cases hr;rw[es] at dU;intro ρ' af;obtain⟨k,eQ,fI⟩:=dU.2 (au hb);exact⟨_,_,sm af,PH ho hf hi hn fI,⟨dU.1,fun _=>⟨k,eQ,rfl⟩⟩,fun _ _ e=>by cases e⟩
   ·cases hr
theorem ajQ (h:Inv C S ρ σ own hv w0 σ0 A a w)(hC:CtxOK C σ0)(hg:holds gs ρ=true){T:TypeId}{x:Operand}{i:Nat}{r:Sh×List PI}(hr:zm C S gs dst T x i=some r){o:Oper}(ho:o.op=.field T x i):
 eF C S ρ σ hv Φ dst a w o r:=by
 simp only[zm,ao] at hr;obtain⟨f,hf,hr⟩:=hr;split at hr
 case h_2=>cases hr
 rename_i inf ag hi ha;split at hr
 case h_2=>cases hr
 rename_i ts e hu;have aQ:=cl h hC hg hu;simp only[av] at hr;obtain⟨ty,aY,rfl⟩:=hr;obtain⟨vs,ds,aL,ba,l1,l2,aD,dh⟩:=Rep.agg_inv aQ;obtain⟨nE,hlen,lh⟩:=Ia aY l1 l2 aD dh;obtain⟨fs,kE,vE⟩:=TG hf;have hle:f.offset+inf.size≤ts.length:=by
  unfold tV at aY;cases hle:Nat.ble (f.offset+inf.size) ts.length<;>simp only[hle,cond_true,cond_false] at aY
  ·cases aY
  ·exact jP hle
 refine .dat (v:=rowOf ag ((vs.drop f.offset).take inf.size)) ?_ (by rw[H9 ba];exact nE);cases ag with
 |true=>
  simp only[execOp,ho,Instr.field,aL,asAgg,part];simp[run_underlying kE,vE,tK ha,Go.sizeOf,run_typeInfo w hi,rowOf]
 |false=>
  have hn:=lh rfl;have ae:f.offset<vs.length:=by omega
  simp only[execOp,ho,Instr.field,aL,asAgg,part];simp[run_underlying kE,vE,tK ha,rowOf,hn,bo ae,aF,dm,dN]
theorem Zz {o:Oper}{T e:TypeId}{x i:Operand}{inf:TypeInfo}{k off n c idx:Nat}{ik:IntKind}(ho:o.op=.indexAddr T x i)(hT:C.P.underlying T=some (.slice e))(hi:C.P.info? e=some inf)
 (hx:a.eval x=.slice (some ⟨k,off,none⟩) n c) (af9:a.eval i=.int ik idx) (ae:idx<n):(execOp a.eval o).run C.P w=.ok (.value (.pointer (some ⟨k,off+idx*inf.size,none⟩))) w:=by
 simp[execOp,ho,Instr.indexAt,run_underlying hT,hx,af9,asIntOf,ae,Go.sizeOf,run_typeInfo w hi,qX]
theorem Jc {P:Program}{T:TypeId}{t:Ty}(h:qG P T t=true):∃inf,P.info? T=some inf∧inf.size=t.size:=by
 unfold qG at h;split at h
 ·rename_i i hi;exact⟨i,hi,au h⟩
 ·cases h
theorem ajT (h:Inv C S ρ σ own hv w0 σ0 A a w)(hC:CtxOK C σ0)(hg:holds gs ρ=true){T:TypeId}{x i:Operand}{r:Sh×List PI}(hr:zp C S gs dst T x i=some r){o:Oper}(ho:o.op=.indexAddr T x i):
 eF C S ρ σ hv Φ dst a w o r:=by
 unfold zp at hr;split at hr
 case h_2=>cases hr
 rename_i e hT;simp only[ao] at hr;obtain⟨p,hp,hr⟩:=hr;have aQ:=cl h hC hg hp;split at hr
 case h_2=>cases hr
 rename_i ik e1;rw[e1] at aQ;obtain⟨idx,aL,ba,b1,b2⟩:=aQ.int_inv;split at hr
 ·rename_i t pe hu;have du:=cl h hC hg hu;cases aA:qG C.P e t<;>simp only[aA,cond_true,cond_false] at hr
  ·cases hr
  cases hr;obtain⟨inf,hi,hs⟩:=Jc aA;obtain⟨xs,hd,qd⟩:=Rep.slice_inv du;refine .datc hg fun hc=>?_;simp only[PE.ev,hd,ba,D.l_list,D.i_int,D.b_bool,decide_eq_true_eq] at hc;rcases qd with⟨_,rfl⟩|⟨k,off,c,tH,h1,h2,vs,h3,h4⟩
  ·simp at hc;omega
  ·obtain⟨m,rfl⟩:=uR hc.1;have ae:m<xs.length:=by omega
   refine⟨_,Zz ho hT hi tH aL ae,?_⟩;obtain⟨y,hy⟩:∃y,xs[m]?=some y:=⟨_,bo ae⟩
   simp only[PE.ev,hd,ba,D.l_list,D.i_int,uS,rj hy];exact .ref t.unf k _ (vs m) y (h3 m y hy) (fun j u hu=>by rw[hs];exact h4 m j u ae hu)
 ·cases hr
 ·obtain⟨dU,eI⟩:=qF h hg x;split at hr
  ·rename_i j ver es;rw[es] at dU;cases hb:Nat.beq ver (S.ver j)<;>simp only[hb,cond_true,cond_false] at hr
   ·cases hr
   have dC:=au hb;have aV:=h.objs j;have cj:=dU.2 dC;split at hr
   ·rename_i T' t eo;rw[eo] at aV;cases aA:qG C.P e t<;>simp only[aA,cond_true,cond_false] at hr
    ·cases hr
    cases hr;obtain⟨inf,hi,hs⟩:=Jc aA;obtain⟨cells,xs,h1,h2,⟨vs,h3,h4⟩,h5⟩:=aV;intro ρ' af;obtain⟨hc,hρ⟩:=PJ hg af;simp only[PE.ev,h1,ba,D.l_list,D.i_int,D.b_bool,decide_eq_true_eq] at hc;obtain⟨m,rfl⟩:=uR hc.1;have ae:m<xs.length:=by omega
    rcases h2.2 with⟨_,e0⟩|⟨g,cap,cur,eQ,_⟩
    ·omega
    ·refine⟨_,_,hρ,Zz ho hT hi (cj.trans eQ) aL ae,⟨by omega,fun _=>⟨g,xs.length,cap,ik,m,eQ,ba,ae,?_⟩⟩,fun _ _ e=>by cases e⟩;rw[hs];simp
   ·cases hr
  ·cases hr
theorem ajV (h:Inv C S ρ σ own hv w0 σ0 A a w)(hC:CtxOK C σ0)(hg:holds gs ρ=true){T:TypeId}{x i:Operand}{r:Sh×List PI}(hr:zo C S gs dst T x i=some r){o:Oper}(ho:o.op=.index T x i):
 eF C S ρ σ hv Φ dst a w o r:=by
 unfold zo at hr;split at hr
 case h_2=>cases hr
 rename_i hT;simp only[ao] at hr;obtain⟨p,hp,q,hq,hr⟩:=hr;have aQ:=cl h hC hg hp;have dK:=cl h hC hg hq;split at hr
 case h_2=>cases hr
 rename_i ik e1 e2;rw[e1] at aQ;rw[e2] at dK;obtain⟨idx,aL,ba,b1,b2⟩:=aQ.int_inv;obtain⟨s,gS,eg,_⟩:=dK.str_inv;cases hr;refine .datc hg fun hc=>?_;simp only[PE.ev,eg,ba,D.s_str,D.i_int,D.b_bool,decide_eq_true_eq] at hc;obtain⟨m,rfl⟩:=uR hc.1;have ae:m<s.size:=by omega
 refine⟨.int .u8 (s.data.getD m 0).toNat,?_,?_⟩
 ·have:s[m]?=some (s.data.getD m 0):=by
   rw[getElem?_pos s m ae];simp[ByteArray.getElem_eq_getElem_data,ej,dX (show m<s.data.size from ae)]
  simp[execOp,ho,Instr.index,run_underlying hT,aL,gS,asIntOf,this]
 ·simp only[PE.ev,eg,ba,D.s_str,D.i_int,uS];refine .int _ _ ?_ ?_
  ·simp only[IntKind.min,IntKind.signed];simp
  ·simp only[IntKind.max,IntKind.signed,IntKind.bits];have:=UInt8.toNat_lt (s.data.getD m 0);simp at this ⊢;omega
end
end Cx
namespace Cx
open Go Go.RowKit
section
variable {C:Ctx} {S:St} {ρ:Env} {σ:Im} {own:Nat→Option Nat} {hv:Nat→Value} {w0:World} {σ0:Base} {A:Nat→Prop} {a:Act} {w:World} {gs:List (Nat×Bool)} {Φ:aR} {dst:Nat}
theorem aod (h:Inv C S ρ σ own hv w0 σ0 A a w)(hC:CtxOK C σ0)(hg:holds gs ρ=true){lo:Option Operand}{l:Ty×PE}{k:IntKind}(hl:Em C S gs lo=some l)(hk:l.1=.int k):
 ∃n,l.2.ev ρ=.v (.int k n)∧((lo=none∧n=0)∨∃x,lo=some x∧a.eval x=.int k n):=by
 cases lo with
 |none=>simp[Em] at hl;subst hl;simp at hk;subst hk;exact⟨0,rfl,.inl ⟨rfl,rfl⟩⟩
 |some x=>
  have:=cl h hC hg hl;rw[hk] at this;obtain⟨n,h1,h2,_⟩:=this.int_inv;exact⟨n,h2,.inr ⟨x,rfl,h1⟩⟩
theorem aob (h:Inv C S ρ σ own hv w0 σ0 A a w)(hC:CtxOK C σ0)(hg:holds gs ρ=true){e:PE}{hi:Option Operand}{l:Ty×PE}{k:IntKind}(hl:El C S gs e hi=some l)(hk:l.1=.int k):
 ∃n,l.2.ev ρ=.v (.int k n)∧((hi=none∧n=(e.ev ρ).l.length)∨∃x,hi=some x∧a.eval x=.int k n):=by
 cases hi with
 |none=>simp[El] at hl;subst hl;simp at hk;subst hk;exact⟨_,rfl,.inl ⟨rfl,rfl⟩⟩
 |some x=>
  have:=cl h hC hg hl;rw[hk] at this;obtain⟨n,h1,h2,_⟩:=this.int_inv;exact⟨n,h2,.inr ⟨x,rfl,h1⟩⟩
theorem run_sliceBound {P:Program}{x:Value}{y i:Nat}{k:IntKind}{code:BoundsCode}{w:World}(hx:x=.int k i)(h:i≤y):(Instr.sliceBound x y code).run P w=.ok i w:=by
 subst hx;simp[Instr.sliceBound,asIntOf,h]
theorem aj8 (h:Inv C S ρ σ own hv w0 σ0 A a w)(hC:CtxOK C σ0)(hg:holds gs ρ=true){T:TypeId}{x:Operand}{lo hi mx:Option Operand}{r:Sh×List PI}(hr:zw C S gs dst T x lo hi mx=some r){o:Oper}(ho:o.op=.slice T x lo hi mx):
 eF C S ρ σ hv Φ dst a w o r:=by
 unfold zw at hr;split at hr
 case h_3=>cases hr
 case h_2=>
  rename_i n e hT;split at hr
  case h_2=>cases hr
  simp only[ao] at hr;obtain⟨p,hp,hr⟩:=hr;have aQ:=cl h hC hg hp;split at hr
  case h_2=>cases hr
  rename_i t ts e1;cases hc:(Nat.beq n (ts.length+1)&&ts.all (Ty.beq t)&&t.one&&qG C.P e t&&Nat.ble n maxLen)<;>simp only[hc,cond_true,cond_false] at hr
  ·cases hr
  cases hr;simp only[aj] at hc;obtain⟨⟨⟨⟨c1,c2⟩,c3⟩,c4⟩,c5⟩:=hc;have hn:=au c1;have hm:=jP c5;obtain⟨inf,nA,hs⟩:=Jc c4;rw[e1] at aQ;obtain⟨k,off,x0,y,tH,hd,hr0,ir⟩:=aQ.ref_inv;obtain⟨vs,ds,rfl,rfl,l1,l2,iu,_⟩:=hr0.agg_inv
  have aD:∀(i:Nat),i<n→(t::ts)[i]?=some t:=fun i hi=>by
   cases i with
   |zero=>rfl
   |succ i=>
    have ae:i<ts.length:=by omega
    rw[EC,bo ae];rw[Ty.beq_eq _ _ (bz.1 c2 _ (ec ae))]
  have Ma:vs.length=n:=by rw[l1,hn];rfl
  have yR:ds.length=n:=by rw[l2,hn];rfl
  have dh:t.size=1:=by cases t<;>simp_all [Ty.one,Ty.size]
  refine eF.dat (v:=.slice (some ⟨k,off,none⟩) n n) ?_ ?_
  ·have:Addr.add ⟨k,off,none⟩ 0=⟨k,off,none⟩:=by simp[Addr.add]
   simp[execOp,ho,Instr.sliceAt,run_underlying hT,tH,Instr.sureAddr,Instr.sliceBounds,Go.sizeOf,run_typeInfo w nA,this]
  ·have agp:(PE.lst ((List.range n).map fun i=>.cell (.deref p.2) i)).ev ρ=.list ds:=by
        simp only[PE.ev]
        congr 1
        have bD:∀l:List PE,PE.evs ρ l=l.map fun e=>e.ev ρ:=fun l=>by induction l with|nil=>rfl|cons e l ih=>simp[PE.evs,ih]
        rw[bD,JM];apply JC;intro i;rw[cA];by_cases hi:i<n
        ·rw[pM hi,bo (by omega)];simp only[kg,Function.comp,PE.ev,hd,D.deref,D.c,D.cells];rw[aF,bo (by omega)];rfl
        ·rw[qP (by simp;omega),qP (by omega)];rfl
   rw[agp];refine .slice t k off n n ds (fun i=>vs.getD i undef) yR (aU _) hm (fun i x hx=>?_) (fun i j u hi hu=>?_)
   ·have ae:i<n:=by rw[←yR];exact(dZ.1 hx).1
    have:=iu i t (aD i ae);rw[rj hx] at this;exact this.unf
   ·have h1:=(iu i t (aD i hi)).oneCell c3;rw[h1.1] at hu;cases j with
    |zero=>
     simp at hu;have:=ir i (vs.getD i undef) (by
      simp only[Value.cells];rw[ED,bo (by omega),aF,bo (by omega)];rfl)
     rw[dh,←hu];simpa using this
    |succ j=>simp at hu
 rename_i e hT;simp only[ao] at hr;obtain⟨p,hp,hr⟩:=hr;have aQ:=cl h hC hg hp;split at hr
 case h_2=>cases hr
 rename_i t e1;rw[e1] at aQ;simp only[ao] at hr;obtain⟨l,hl,u,hu,hr⟩:=hr;split at hr
 case h_2=>cases hr
 rename_i k1 k2 e2 e3;cases aA:qG C.P e t<;>simp only[aA,cond_true,cond_false] at hr
 ·cases hr
 cases hr;obtain⟨inf,nA,hs⟩:=Jc aA;obtain⟨n1,ba,vL⟩:=aod h hC hg hl e2;obtain⟨n2,eg,L3⟩:=aob h hC hg hu e3;obtain⟨xs,hd,qd⟩:=Rep.slice_inv aQ;refine .datc hg fun hc=>?_;simp only[PE.ev,hd,ba,eg,D.l_list,D.i_int,D.b_bool,decide_eq_true_eq] at hc;obtain⟨m1,rfl⟩:=uR hc.1;obtain⟨m2,rfl⟩:=uR (show 0≤n2 by omega);have vu:m1≤m2:=by omega
 have h2l:m2≤xs.length:=by omega
 have Uy:∀c,xs.length≤c→(Instr.sliceBounds true xs.length c (lo.map a.eval) (hi.map a.eval) none).run C.P w=.ok (m1,m2,c) w:=by
  intro c ku
  have hh:∀code,(match hi.map a.eval with|some v=>Instr.sliceBound v c code|none=>(pure xs.length:Sem Nat)).run C.P w=.ok m2 w:=by
   intro code;rcases L3 with⟨rfl,e⟩|⟨y,rfl,e⟩
   ·rw[hd,D.l_list] at e;simp;omega
   ·simp only[kg];exact run_sliceBound e (by omega)
  have G2:∀code,(match lo.map a.eval with|some v=>Instr.sliceBound v m2 code|none=>(pure 0:Sem Nat)).run C.P w=.ok m1 w:=by
   intro code;rcases vL with⟨rfl,e⟩|⟨y,rfl,e⟩
   ·simp;omega
   ·simp only[kg];exact run_sliceBound e vu
  have UQ:=hh .sliceAcap;have UZ:=G2 .sliceB;unfold Instr.sliceBounds;cases hi<;>cases lo<;>simp at UQ UZ ⊢<;>simp[UQ,UZ]
 rcases qd with⟨⟨p0,tH⟩,rfl⟩|⟨k,off,c,tH,h1,h2,vs,h3,h4⟩
 ·have:m2=0:=by simpa using h2l
  have:m1=0:=by omega
  subst_vars
  refine⟨.slice p0 0 0,?_,?_⟩
  ·have hb:=Uy 0 (aU _);simp only[Au] at hb;cases p0 with
   |none=>simp[execOp,ho,Instr.sliceAt,Instr.slice,run_underlying hT,tH,hb,Go.sizeOf,run_typeInfo w nA]
   |some a0=>simp[execOp,ho,Instr.sliceAt,Instr.slice,run_underlying hT,tH,hb,Go.sizeOf,run_typeInfo w nA]
  ·simp only[PE.ev,hd,ba,eg,D.l_list,D.i_int];cases p0 with
   |none=>exact .nil t
   |some a0=>exact .emp t a0
 ·refine⟨.slice (some (if c=m1 then⟨k,off,none⟩ else⟨k,off+m1*inf.size,none⟩)) (m2-m1) (c-m1),?_,?_⟩
  ·have hb:=Uy c h1;simp only[execOp,ho,Option.map_none,Instr.sliceAt,run_underlying hT,tH];simp[run_underlying hT,Instr.slice,hb,Go.sizeOf,run_typeInfo w nA,qX];split<;>simp
  ·simp only[PE.ev,hd,ba,eg,D.l_list,D.i_int,uS];have hlen:((xs.take m2).drop m1).length=m2-m1:=by simp;omega
   have iu:∀(i:Nat) (y:D),((xs.take m2).drop m1)[i]?=some y→xs[m1+i]?=some y:=by
        intro i y hy;simp only[dN,dm] at hy;split at hy
        ·exact hy
        ·cases hy
   have ir:∀(i j:Nat) (v:Value),i<m2-m1→(vs (m1+i)).cells[j]?=some v→σ.c k (off+m1*inf.size+i*t.size+j)=some v:=by
        intro i j v hi hj;have:=h4 (m1+i) j v (by omega) hj;rw[oh] at this;rw[hs]
        rwa [←sI] at this
   split
   ·rename_i yH;refine .slice t k off (m2-m1) (c-m1) _ (fun i=>vs (m1+i)) hlen (by omega) (by omega) (fun i y hy=>h3 _ _ (iu i y hy)) (fun i j v hi hj=>by omega)
   ·exact .slice t k (off+m1*inf.size) (m2-m1) (c-m1) _ (fun i=>vs (m1+i)) hlen (by omega) (by omega) (fun i y hy=>h3 _ _ (iu i y hy)) ir
theorem aad (h:Inv C S ρ σ own hv w0 σ0 A a w)(hC:CtxOK C σ0)(hg:holds gs ρ=true):∀(xs:List Operand) (r:List Ty×List PE),j7 C S gs xs=some r→
 r.1.length=xs.length∧r.2.length=xs.length∧∀(i:Nat) (t:Ty),r.1[i]?=some t→Rep C.cap σ t ((xs.map a.eval).getD i undef) ((PE.evs ρ r.2).getD i .none):=by
 intro xs
 induction xs with
 |nil=>intro r hr;simp[j7] at hr;subst hr;exact⟨rfl,rfl,by simp⟩
 |cons x xs ih=>
  intro r hr;simp only[j7,ao,av] at hr;obtain⟨p,hp,q,hq,rfl⟩:=hr;obtain⟨l1,l2,aD⟩:=ih q hq;refine⟨by simp[l1],by simp[l2],fun i t hi=>?_⟩;cases i with
  |zero=>simp at hi;subst hi;simpa [PE.evs] using cl h hC hg hp
  |succ i=>simp at hi;simpa [PE.evs] using aD i t hi
theorem ajR (h:Inv C S ρ σ own hv w0 σ0 A a w)(hC:CtxOK C σ0)(hg:holds gs ρ=true){fn:Fn}{first caps:Array Operand}{r:Sh×List PI}(hr:Oa C S gs dst fn first caps=some r){o:Oper}(ho:o.op=.makeFunc fn first caps):
 eF C S ρ σ hv Φ dst a w o r:=by
 unfold Oa at hr;split at hr
 case h_2=>cases hr
 rename_i f B2;have BY:first=#[]:=by simpa using B2
 subst BY;simp only[ao] at hr;obtain⟨cs,dA,p,hp,hr⟩:=hr;cases hb:Ty.subs p.1 cs.caps<;>simp only[hb,cond_true,cond_false] at hr
 ·cases hr
 cases hr;obtain⟨l1,l2,aD⟩:=aad h hC hg _ _ hp;have hl:=Ty.subs_len _ _ hb;refine .dat (v:=.func (.func f) #[] (caps.map a.eval)) ?_ ?_
 ·simp[execOp,ho,Instr.makeFunc]
 ·simp only[PE.ev];have:caps.map a.eval=(caps.toList.map a.eval).toArray:=by apply qL;rw[uO]
  rw[this];have e1:(caps.toList.map a.eval).length=cs.caps.length:=by rw[fl];omega
  have e2:(PE.evs ρ p.2).length=cs.caps.length:=by rw[PE.evs_eq,fl];omega
  refine .fn f cs _ _ dA e1 e2 (fun i t hi=>?_);obtain⟨s,hs,bX⟩:=Ty.subs_get _ _ hb i t hi;exact(aD i s hs).sub bX
theorem aj3 (h:Inv C S ρ σ own hv w0 σ0 A a w)(hC:CtxOK C σ0)(hg:holds gs ρ=true){x:Operand}{r:Sh×List PI}(hr:zt C S gs dst x=some r){o:Oper}(ho:o.op=.nilCheck x):
 eF C S ρ σ hv Φ dst a w o r:=by
 have af:∀k off,a.eval x=.pointer (some ⟨k,off,none⟩)→(execOp a.eval o).run C.P w=.ok (.value (a.eval x)) w:=by
  intro k off e;simp[execOp,ho,e]
 unfold zt at hr;split at hr
 ·rename_i t e hu;cases hr;have aQ:=cl h hC hg hu;obtain⟨k,off,v,y,aL,ba,bE,ir⟩:=Rep.ref_inv aQ;exact .dat (af k off aL) aQ
 ·split at hr
  ·rename_i t _;obtain⟨hs,eI⟩:=ml h hg t;split at hr
   ·rename_i j ver off es;rw[es] at hs;cases hb:Nat.beq ver (S.ver j)<;>simp only[hb,cond_true,cond_false] at hr
    ·cases hr
    cases hr;obtain⟨k,eQ,fI⟩:=hs.2 (au hb);intro ρ' Cv;exact⟨_,_,sm Cv,af k off fI,hs,fun _ _ e=>by cases e⟩
   ·rename_i j ver sz off es;rw[es] at hs;cases hb:Nat.beq ver (S.ver j)<;>simp only[hb,cond_true,cond_false] at hr
    ·cases hr
    cases hr;have er:=hs;obtain⟨k,n,c,ik,i,eQ,th,bl,fI⟩:=hs.2 (au hb);intro ρ' Cv;exact⟨_,_,sm Cv,af _ _ fI,er,fun _ _ e=>by cases e⟩
   ·cases hr
  ·cases hr
theorem aan {cap:Nat→Option CSig}{t:Ty}{z:Ty×D}{v:Value}(h:pH t=some z)(hz:wX t v=true):Rep cap σ z.1 v z.2∧z.1.one=true∧Ty.sub z.1 t=true:=by
 unfold wX at hz;split at hz
 ·simp at hz;obtain⟨rfl,rfl⟩:=hz;simp[pH] at h;subst h;exact⟨.int _ 0 (by rename_i k;cases k<;>decide) (by rename_i k;cases k<;>decide),rfl,by simp[Ty.sub,Ty.beq]⟩
 ·simp at hz;subst hz;simp[pH] at h;subst h;exact⟨.bool false,rfl,rfl⟩
 ·rename_i s;have:s=ByteArray.empty:=by
   have:s.size=0:=by simpa using hz
   cases s with|mk d=>simp[ByteArray.size] at this;subst this;rfl
  subst this;simp[pH] at h;subst h;exact⟨.str _ (by decide),rfl,rfl⟩
 ·simp[pH] at h;subst h;exact⟨.nils _,rfl,rfl⟩
 ·simp[pH] at h;subst h;refine⟨.mapnil _ _,rfl,?_⟩;simp only[Ty.sub];exact Ty.beq_refl _
 ·simp[pH] at h;subst h;exact⟨.fnnil _ _,rfl,by simp only[Ty.sub];exact Ty.beq_refl _⟩
 ·cases hz
end
end Cx
namespace Cx
open Go Go.RowKit
theorem mapM_some {α β:Type}(f:α→Option β):∀(l:List α) (r:List β),l.mapM f=some r→r.length=l.length∧∀(i:Nat) (x:α),l[i]?=some x→∃y,r[i]?=some y∧f x=some y
 |[],r,h=>by simp at h;subst h;exact⟨rfl,by simp⟩
 |x::l,r,h=>by
  simp only[Sd,Option.bind_eq_bind,ao] at h;obtain⟨y,hy,ys,rK,h⟩:=h;cases h;obtain⟨h1,h2⟩:=mapM_some f l ys rK;refine⟨by simp[h1],fun i z hi=>?_⟩;cases i with
  |zero=>simp at hi;subst hi;exact⟨y,rfl,hy⟩
  |succ i=>simp at hi;simpa using h2 i z hi
theorem RP:∀(ts:List Ty) (vs:List Value),Ao ts vs=true→vs.length=ts.length∧∀(i:Nat) (t:Ty),ts[i]?=some t→∃v,vs[i]?=some v∧wX t v=true
 |[],vs,h=>by cases vs<;>simp_all [Ao]
 |t::ts,vs,h=>by
  cases vs with
  |nil=>simp[Ao] at h
  |cons v vs=>
   simp only[Ao,aj] at h;obtain⟨h1,h2⟩:=RP ts vs h.2;refine⟨by simp[h1],fun i u hi=>?_⟩;cases i with
   |zero=>simp at hi;subst hi;exact⟨v,rfl,h.1⟩
   |succ i=>simp at hi;simpa using h2 i u hi
theorem wY {cap:Nat→Option CSig}{σ:Im}{t:Ty}{z:Ty×D}{v:Value}(h:oc t=some z)(hz:jo t v=true):Rep cap σ z.1 v z.2∧Ty.sub z.1 t=true∧z.1.one=t.one:=by
 cases t with
 |agg ts=>
  simp only[oc,av] at h;obtain⟨zs,rM,rfl⟩:=h;cases v with
  |agg vs=>
   simp only[jo] at hz;obtain⟨l1,h1⟩:=RP ts vs.toList hz;obtain⟨l2,h2⟩:=mapM_some _ _ _ rM;have key:∀(i:Nat) (t:Ty),ts[i]?=some t→∃y v,zs[i]?=some y∧vs.toList[i]?=some v∧Rep cap σ y.1 v y.2∧y.1.one=true∧Ty.sub y.1 t=true:=by
      intro i t hi;obtain⟨y,hy,rJ⟩:=h2 i t hi;obtain⟨v,hv,gS⟩:=h1 i t hi;obtain⟨g1,g2,g3⟩:=aan (cap:=cap) (σ:=σ) rJ gS;exact⟨y,v,hy,hv,g1,g2,g3⟩
   have bI:∀(ts:List Ty) (zs:List (Ty×D)),zs.length=ts.length→(∀(i:Nat) (t:Ty),ts[i]?=some t→∃y,zs[i]?=some y∧Ty.sub y.1 t=true)→Ty.subs (zs.map (·.1)) ts=true:=by
      intro ts
      induction ts with
      |nil=>intro zs hl _;cases zs<;>simp_all [Ty.subs]
      |cons t ts ih=>
       intro zs hl hh;cases zs with
       |nil=>simp at hl
       |cons z zs=>
        simp only[gz,Ty.subs,aj];refine⟨?_,ih zs (by simpa using hl) fun i u hu=>by simpa using hh (i+1) u (by simpa using hu)⟩;obtain⟨y,hy,rJ⟩:=hh 0 t rfl;simp at hy;subst hy;exact rJ
   refine⟨?_,?_,rfl⟩
   ·have:vs=vs.toList.toArray:=by simp
    rw[this];refine .agg _ _ _ (by rw[fl];omega) (by simp) (fun i t hi=>?_) (fun i t hi=>?_)
    ·simp only[cA,av] at hi;obtain⟨q,hq,rfl⟩:=hi;obtain⟨t',MU⟩:∃t',ts[i]?=some t':=⟨_,bo (by have:=(dZ.1 hq).1;omega)⟩
     obtain⟨y,v,hy,hv,g1,g2,g3⟩:=key i t' MU;rw[hq] at hy;cases hy;rw[rj hv,rj (show(zs.map (·.2))[i]?=some q.2 by simp[hq])];exact g1
    ·simp only[cA,av] at hi;obtain⟨q,hq,rfl⟩:=hi;obtain⟨t',MU⟩:∃t',ts[i]?=some t':=⟨_,bo (by have:=(dZ.1 hq).1;omega)⟩
     obtain⟨y,v,hy,hv,g1,g2,g3⟩:=key i t' MU;rw[hq] at hy;cases hy;exact g2
   ·simp only[Ty.sub];exact bI ts zs l2 fun i t hi=>by obtain⟨y,v,hy,hv,g1,g2,g3⟩:=key i t hi;exact⟨y,hy,g3⟩
  |_=>simp[jo] at hz
 |_=>
  obtain⟨g1,g2,g3⟩:=aan (cap:=cap) (σ:=σ) (by simpa [oc] using h) (by simpa [jo] using hz);exact⟨g1,g3,(Ty.sub_one _ _ g3).1⟩
theorem abp {a b:ByteArray}(h:(a==b)=true):a=b:=by
 cases a with|mk x=>cases b with|mk y=>
 have:(x==y)=true:=h;rw[eq_of_beq this]
theorem abq (a:ByteArray):(a==a)=true:=by
 cases a with|mk x=>
 show(x==x)=true;simp
theorem Ng {P:Program}{K:TypeId}{kt:Ty}(hk:l5 P K kt=true):
 (∃k k',kt=.int k∧P.underlying K=some (.int k'))∨(kt=.str∧P.underlying K=some .string)∨(kt=.bool∧P.underlying K=some .bool):=by
 unfold l5 at hk;split at hk
 ·split at hk
  ·exact .inl ⟨_,_,rfl,by assumption⟩
  ·cases hk
 ·split at hk
  ·exact .inr (.inl ⟨rfl,by assumption⟩)
  ·cases hk
 ·split at hk
  ·exact .inr (.inr ⟨rfl,by assumption⟩)
  ·cases hk
 ·cases hk
theorem ady {cap:Nat→Option CSig}{σ:Im}{P:Program}{K:TypeId}{kt:Ty}{desc:TypeDesc}(hk:l5 P K kt=true)(hu:P.underlying K=some desc){v:Value}{d:D}(hv:Rep cap σ kt v d):
 ∀(es:List MapEntry) (ds:List (D×D)) (i:Nat),ds.length=es.length→(∀(j:Nat) (e:MapEntry) (p:D×D),es[j]?=some e→ds[j]?=some p→Rep cap σ kt e.key p.1)→
  (Instr.findNow desc v es i=some none∧∀(j:Nat) (p:D×D),ds[j]?=some p→eK d p.1=false)∨
  ∃j e p,es[j]?=some e∧ds[j]?=some p∧Instr.findNow desc v es i=some (some (i+j,e.val))∧eK d p.1=true∧Instr.sameBits 10000 e.key v=true∧∀m q,m<j→ds[m]?=some q→eK d q.1=false:=by
 have dh:∀(v':Value) (d':D),Rep cap σ kt v' d'→Instr.sameNow desc v v'=some (eK d d')∧(eK d d'=true→Instr.sameBits 10000 v' v=true):=by
  intro v' d' h';rcases Ng hk with⟨k,k',rfl,kE⟩|⟨rfl,kE⟩|⟨rfl,kE⟩
  ·rw[hu] at kE;cases kE;obtain⟨n,rfl,rfl,_⟩:=hv.int_inv;obtain⟨m,rfl,rfl,_⟩:=h'.int_inv;refine⟨by simp[Instr.sameNow,eK,D.cells,qo,rO],fun e=>?_⟩;have:n=m:=by simpa [eK,D.cells,qo,rO] using e
   subst this;simp[Instr.sameBits]
  ·rw[hu] at kE;cases kE;obtain⟨n,rfl,rfl,_⟩:=hv.str_inv;obtain⟨m,rfl,rfl,_⟩:=h'.str_inv;refine⟨by simp[Instr.sameNow,eK,D.cells,qo,rO],fun e=>?_⟩;have:n=m:=abp (by simpa [eK,D.cells,qo,rO] using e);subst this;simpa [Instr.sameBits] using abq n
  ·rw[hu] at kE;cases kE;obtain⟨n,rfl,rfl⟩:=hv.bool_inv;obtain⟨m,rfl,rfl⟩:=h'.bool_inv;refine⟨by simp[Instr.sameNow,eK,D.cells,qo,rO],fun e=>?_⟩;have:n=m:=by simpa [eK,D.cells,qo,rO] using e
   subst this;simp[Instr.sameBits]
 intro es
 induction es with
 |nil=>intro ds i hl _;left;exact⟨rfl,by cases ds<;>simp_all⟩
 |cons e es ih=>
  intro ds i hl aD;cases ds with
  |nil=>simp at hl
  |cons p ds=>
   obtain⟨hs,hb⟩:=dh e.key p.1 (aD 0 e p rfl rfl);cases mL:eK d p.1 with
   |true=>
    right;rw[mL] at hs;exact⟨0,e,p,rfl,rfl,by simp[Instr.findNow,hs],mL,hb mL,fun m q hm=>by omega⟩
   |false=>
    rw[mL] at hs;rcases ih ds (i+1) (by simpa using hl) (fun j e' p' he hp=>aD (j+1) e' p' (by simpa using he) (by simpa using hp)) with⟨h1,h2⟩|⟨j,e',p',h1,h2,h3,h4,h5,h6⟩
    ·left;refine⟨by simp[Instr.findNow,hs,h1],fun j q hq=>?_⟩;cases j with
     |zero=>simp at hq;subst hq;exact mL
     |succ j=>exact h2 j q (by simpa using hq)
    ·right;refine⟨j+1,e',p',by simpa using h1,by simpa using h2,?_,h4,h5,fun m q hm hq=>?_⟩
     ·simp[Instr.findNow,hs,h3];omega
     ·cases m with
      |zero=>simp at hq;subst hq;exact mL
      |succ m=>exact h6 m q (by omega) (by simpa using hq)
theorem Nr {d:D}:∀{ds:List (D×D)},(∀(j:Nat) (p:D×D),ds[j]?=some p→eK d p.1=false)→l6 d ds=none
 |[],_=>rfl
 |p::ds,h=>by simp only[l6,h 0 p rfl];exact Nr fun j q hq=>h (j+1) q (by simpa using hq)
theorem Ns {d:D}:∀{ds:List (D×D)} {j:Nat} {p:D×D},ds[j]?=some p→eK d p.1=true→(∀(m:Nat) (q:D×D),m<j→ds[m]?=some q→eK d q.1=false)→l6 d ds=some p.2
 |[],j,p,hp,_,_=>by simp at hp
 |x::ds,0,p,hp,hk,_=>by simp at hp;subst hp;simp[l6,hk]
 |x::ds,j+1,p,hp,hk,hm=>by
  simp only[l6,hm 0 x (by omega) rfl];exact Ns (j:=j) (by simpa using hp) hk fun m q ae hq=>hm (m+1) q (by omega) (by simpa using hq)
theorem Ot {d v:D}:∀{ds:List (D×D)},(∀(j:Nat) (p:D×D),ds[j]?=some p→eK d p.1=false)→kL d v ds=ds++[(d,v)]
 |[],_=>rfl
 |p::ds,h=>by simp only[kL,h 0 p rfl,uQ,if_false,EA];rw[Ot fun j q hq=>h (j+1) q (by simpa using hq)]
theorem Ou {d v:D}:∀{ds:List (D×D)} {j:Nat} {p:D×D},ds[j]?=some p→eK d p.1=true→(∀(m:Nat) (q:D×D),m<j→ds[m]?=some q→eK d q.1=false)→kL d v ds=ds.set j (d,v)
 |[],j,p,hp,_,_=>by simp at hp
 |x::ds,0,p,hp,hk,_=>by simp at hp;subst hp;simp[kL,hk]
 |x::ds,j+1,p,hp,hk,hm=>by
  simp only[kL,hm 0 x (by omega) rfl,uQ,if_false,List.set_cons_succ];rw[Ou (j:=j) (by simpa using hp) hk fun m q ae hq=>hm (m+1) q (by omega) (by simpa using hq)]
theorem VW {P:Program}{K:TypeId}{kt:Ty}(hk:y8 P K kt=true):
 ∃k k' e q i,kt=.agg [.int k,.int k']∧P.underlying K=some (.array 2 e)∧P.underlying e=some (.int q)∧P.plainKey e=true∧P.info? e=some i∧P.cellsOf e=1:=by
 unfold y8 at hk;split at hk
 case h_2=>cases hk
 rename_i k k';split at hk
 case h_2=>cases hk
 rename_i n e hu;simp only[aj] at hk;obtain⟨⟨⟨h1,h2⟩,h3⟩,h4⟩:=hk;have hn:=au h1;subst hn;split at h2
 case h_2=>cases h2
 rename_i q hq;split at h4
 case h_2=>cases h4
 rename_i i hi;exact⟨k,k',e,q,i,rfl,hu,hq,h3,hi,au h4⟩
theorem Rep.pair_inv {cap:Nat→Option CSig}{σ:Im}{k k':IntKind}{v:Value}{d:D}(h:Rep cap σ (.agg [.int k,.int k']) v d):∃a b,v=.agg #[.int k a,.int k' b]∧d=.agg [.v (.int k a),.v (.int k' b)]:=by
 generalize ht:Ty.agg [.int k,.int k']=t at h;cases h with
 |agg ts vs ds h1 h2 h ho=>
  cases ht;obtain⟨x,y,rfl⟩:∃x y,vs=[x,y]:=by
   match vs,h1 with
   |[x,y],_=>exact⟨x,y,rfl⟩
  obtain⟨p,q,rfl⟩:∃x y,ds=[x,y]:=by
   match ds,h2 with
   |[x,y],_=>exact⟨x,y,rfl⟩
  obtain⟨a,e1,e2,_⟩:=(h 0 _ rfl).int_inv;obtain⟨b,e3,e4,_⟩:=(h 1 _ rfl).int_inv;simp at e1 e2 e3 e4;subst e1 e2 e3 e4;exact⟨a,b,rfl,rfl⟩
 |_=>cases ht
theorem alF {P:Program}{K e:TypeId}{q:IntKind}{i:TypeInfo}(hu:P.underlying K=some (.array 2 e))(hq:P.underlying e=some (.int q))(hp:P.plainKey e=true)(hi:P.info? e=some i)(hc:P.cellsOf e=1)(k k':IntKind)(a b c d:Int)(w:World):
 (Op.equal K (.agg #[.int k a,.int k' b]) (.agg #[.int k c,.int k' d])).run P w=.ok (a==c&&b==d) w:=by
 unfold Op.equal;show(Op.equalIn (9999+1) K _ _).run P w=_;rw[run_equalIn_array w 9999 _ _ hu hi,hc];have e0:List.range 2=[0,1]:=rfl;have p0:∀(x y:Value) (w:World),(part e #[x,y] 0).run P w=.ok x w:=fun x y w=>run_part_plain w hp rfl;have p1:∀(x y:Value) (w:World),(part e #[x,y] 1).run P w=.ok y w:=fun x y w=>run_part_plain w hp rfl;have q0:∀(k:IntKind) (a b:Int) (w:World),(Op.equalIn 9999 e (.int k a) (.int k b)).run P w=.ok (a==b) w:=fun k a b w=>run_equalIn_int w 9998 e k q a b hq;rw[e0];simp only[Op.eqItems,Sem.run_bind,Nat.zero_mul,Nat.one_mul,p0,p1,Result.andThen_ok,q0];cases a==c
 ·simp
 ·simp only[qN,uQ,if_false,Sem.run_bind,p1,Result.andThen_ok,q0];cases b==d<;>simp
theorem VV {P:Program}{K:TypeId}{kt:Ty}(hk:tL P K kt=true):l5 P K kt=true∨y8 P K kt=true:=by
 unfold tL at hk;simpa using hk
theorem abO {cap:Nat→Option CSig}{σ:Im}{P:Program}{K:TypeId}{kt:Ty}(hk:y8 P K kt=true){v:Value}{d:D}(hv:Rep cap σ kt v d){w:World}{b:Bool}:(Instr.checkKey b 10000 K v).run P w=.ok () w:=by
 obtain⟨k,k',e,q,i,rfl,hu,hq,hp,hi,hc⟩:=VW hk;obtain⟨x,y,rfl,_⟩:=hv.pair_inv;have p0:∀(x y:Value) (w:World),(part e #[x,y] 0).run P w=.ok x w:=fun x y w=>run_part_plain w hp rfl;have p1:∀(x y:Value) (w:World),(part e #[x,y] 1).run P w=.ok y w:=fun x y w=>run_part_plain w hp rfl
 have c0:∀(m:Nat) (k:IntKind) (n:Int) (w:World),(Instr.checkKey b (m+1) e (.int k n)).run P w=.ok () w:=fun m k n w=>by
  simp[Instr.checkKey,run_underlying hq]
 have s0:∀w:World,(Go.sizeOf e).run P w=Result.ok 1 w:=fun w=>by rw[run_sizeOf w hi,hc]
 have main:∀m,(Instr.checkKey b (m+1+1) K (.agg #[.int k x,.int k' y])).run P w=.ok () w:=by
  intro m;rw[Instr.checkKey];simp only[Sem.run_bind,run_underlying hu,Result.andThen_ok,Std.Legacy.Range.forIn_eq_forIn_range',Std.Legacy.Range.size,Nat.sub_zero,Nat.add_one_sub_one,Nat.div_one];simp[List.range',s0,p0,p1,c0,Sem.run_bind,Result.andThen_ok]
 exact main 9998
theorem Tb {cap:Nat→Option CSig}{σ:Im}{P:Program}{K:TypeId}{kt:Ty}(hk:tL P K kt=true){v:Value}{d:D}(hv:Rep cap σ kt v d){w:World}{b:Bool}:(Instr.checkKey b 10000 K v).run P w=.ok () w:=by
 rcases VV hk with hk|hk
 case inr=>exact abO hk hv
 have:∀n,(Instr.checkKey b (n+1) K v).run P w=.ok () w:=by
  intro n;rcases Ng hk with⟨k,k',rfl,hu⟩|⟨rfl,hu⟩|⟨rfl,hu⟩<;>cases v<;>simp[Instr.checkKey,run_underlying hu]
 exact this 9999
section
variable {C:Ctx} {S:St} {ρ:Env} {σ:Im} {own:Nat→Option Nat} {hv:Nat→Value} {w0:World} {σ0:Base} {A:Nat→Prop} {a:Act} {w:World} {gs:List (Nat×Bool)} {Φ:aR} {dst:Nat}
theorem ah1 {P:Program}{K:TypeId}{kt:Ty}(hk:l5 P K kt=true):∃desc,P.underlying K=some desc:=by
 rcases Ng hk with⟨k,k',rfl,hu⟩|⟨rfl,hu⟩|⟨rfl,hu⟩<;>exact⟨_,hu⟩
theorem alG {cap:Nat→Option CSig}{P:Program}{K:TypeId}{kt et:Ty}(hk:y8 P K kt=true){v:Value}{d:D}(hv:Rep cap σ kt v d)(arr:Array MapEntry)(ds:List (D×D))(hl:ds.length=arr.size)
 (aD:∀(j:Nat) (e:MapEntry) (p:D×D),arr[j]?=some e→ds[j]?=some p→Rep cap σ kt e.key p.1∧Rep cap σ et e.val p.2) (w:World):
 ((Instr.findKey K v arr.toList).run P w=.ok none w∧l6 d ds=none∧∀u,kL d u ds=ds++[(d,u)])∨
 ∃j e p,arr[j]?=some e∧ds[j]?=some p∧(Instr.findKey K v arr.toList).run P w=.ok (some (j,e.val)) w∧l6 d ds=some p.2∧(∀u,kL d u ds=ds.set j (d,u))∧Instr.sameBits 10000 e.key v=true:=by
 obtain⟨k,k',e,q,i,rfl,hu,hq,hp,hi,hc⟩:=VW hk;have dh:∀(v':Value) (d':D),Rep cap σ (.agg [.int k,.int k']) v' d'→(Op.equal K v v').run P w=.ok (eK d d') w∧(eK d d'=true→Instr.sameBits 10000 v' v=true)∧Instr.sameNow (.array 2 e) v v'=none:=by
  intro v' d' h';obtain⟨a,b,rfl,rfl⟩:=hv.pair_inv;obtain⟨a',b',rfl,rfl⟩:=h'.pair_inv;refine⟨?_,fun he=>?_,rfl⟩
  ·rw[alF hu hq hp hi hc];simp[eK,D.cells,qo,rO]
  ·have:a=a'∧b=b':=by simpa [eK,D.cells,qo,rO] using he
   obtain⟨rfl,rfl⟩:=this;simp[Instr.sameBits]
 have ask:∀(es:List MapEntry) (ds:List (D×D)) (i:Nat),ds.length=es.length→(∀(j:Nat) (e:MapEntry) (p:D×D),es[j]?=some e→ds[j]?=some p→Rep cap σ (.agg [.int k,.int k']) e.key p.1)→
  ((Instr.findAsking K v es i).run P w=.ok none w∧∀(j:Nat) (p:D×D),ds[j]?=some p→eK d p.1=false)∨
  ∃j e p,es[j]?=some e∧ds[j]?=some p∧(Instr.findAsking K v es i).run P w=.ok (some (i+j,e.val)) w∧eK d p.1=true∧Instr.sameBits 10000 e.key v=true∧∀m q,m<j→ds[m]?=some q→eK d q.1=false:=by
  intro es
  induction es with
  |nil=>intro ds i hl _;left;exact⟨by simp[Instr.findAsking],by cases ds<;>simp_all⟩
  |cons en es ih=>
   intro ds i hl aD;cases ds with
   |nil=>simp at hl
   |cons p ds=>
    obtain⟨hs,hb,_⟩:=dh en.key p.1 (aD 0 en p rfl rfl);cases mL:eK d p.1 with
    |true=>
     right;rw[mL] at hs;exact⟨0,en,p,rfl,rfl,by simp[Instr.findAsking,hs],mL,hb mL,fun m q hm=>by omega⟩
    |false=>
     rw[mL] at hs;rcases ih ds (i+1) (by simpa using hl) (fun j e' p' he hp=>aD (j+1) e' p' (by simpa using he) (by simpa using hp)) with⟨h1,h2⟩|⟨j,e',p',h1,h2,h3,h4,h5,h6⟩
     ·left;refine⟨by simp[Instr.findAsking,hs,h1],fun j q hq=>?_⟩;cases j with
      |zero=>simp at hq;subst hq;exact mL
      |succ j=>exact h2 j q (by simpa using hq)
     ·right;refine⟨j+1,e',p',by simpa using h1,by simpa using h2,?_,h4,h5,fun m q hm hq=>?_⟩
      ·simp[Instr.findAsking,hs,h3];omega
      ·cases m with
       |zero=>simp at hq;subst hq;exact mL
       |succ m=>exact h6 m q (by omega) (by simpa using hq)
 have kA:(Instr.findKey K v arr.toList).run P w=(Instr.findAsking K v arr.toList 0).run P w:=by
  cases iW:arr.toList with
  |nil=>simp[Instr.findKey,run_underlying hu,Instr.findNow,Instr.findAsking]
  |cons en es=>
   obtain⟨p,Co⟩:∃p,ds[0]?=some p:=by
        have:0<ds.length:=by rw[hl];have:=congrArg List.length iW;simp at this;omega
        exact⟨_,bo this⟩
   have LW:arr[0]?=some en:=by rw[←wZ,iW];rfl
   have:=(dh en.key p.1 (aD 0 en p LW Co).1).2.2;simp[Instr.findKey,run_underlying hu,Instr.findNow,this]
 rw[kA];rcases ask arr.toList ds 0 (by simpa using hl) (fun j e p he hp=>(aD j e p (by simpa using he) hp).1) with⟨h1,h2⟩|⟨j,e,p,h1,h2,h3,h4,h5,h6⟩
 ·left;exact⟨h1,Nr h2,fun u=>Ot h2⟩
 ·right;simp only[eW] at h3;exact⟨j,e,p,by simpa using h1,h2,h3,Ns h2 h4 h6,fun u=>Ou h2 h4 h6,h5⟩
theorem run_findKey {cap:Nat→Option CSig}{P:Program}{K:TypeId}{kt et:Ty}(yP:tL P K kt=true){v:Value}{d:D}(hv:Rep cap σ kt v d)(arr:Array MapEntry)(ds:List (D×D))(hl:ds.length=arr.size)
 (aD:∀(j:Nat) (e:MapEntry) (p:D×D),arr[j]?=some e→ds[j]?=some p→Rep cap σ kt e.key p.1∧Rep cap σ et e.val p.2) (w:World):
 ((Instr.findKey K v arr.toList).run P w=.ok none w∧l6 d ds=none∧∀u,kL d u ds=ds++[(d,u)])∨
 ∃j e p,arr[j]?=some e∧ds[j]?=some p∧(Instr.findKey K v arr.toList).run P w=.ok (some (j,e.val)) w∧l6 d ds=some p.2∧(∀u,kL d u ds=ds.set j (d,u))∧Instr.sameBits 10000 e.key v=true:=by
 rcases VV yP with hk|hk
 case inr=>exact alG hk hv arr ds hl aD w
 obtain⟨desc,hu⟩:=ah1 hk;rcases ady hk hu hv arr.toList ds 0 (by simpa using hl) (fun j e p he hp=>(aD j e p (by simpa using he) hp).1) with⟨h1,h2⟩|⟨j,e,p,h1,h2,h3,h4,h5,h6⟩
 ·left;exact⟨by simp[Instr.findKey,run_underlying hu,h1],Nr h2,fun u=>Ot h2⟩
 ·right;refine⟨j,e,p,by simpa using h1,h2,?_,Ns h2 h4 h6,fun u=>Ou h2 h4 h6,h5⟩;simp only[eW] at h3;simp[Instr.findKey,run_underlying hu,h3]
theorem aj1 (h:Inv C S ρ σ own hv w0 σ0 A a w)(hC:CtxOK C σ0)(hg:holds gs ρ=true){T:TypeId}{m k:Operand}{ok:Bool}{r:Sh×List PI}(hr:zr C S gs dst T m k ok=some r){o:Oper}(ho:o.op=.lookup T m k ok):
 eF C S ρ σ hv Φ dst a w o r:=by
 unfold zr at hr;split at hr
 case h_2=>cases hr
 rename_i K E hT;simp only[ao] at hr;obtain⟨p,hp,q,hq,hr⟩:=hr;have aQ:=RK h hC hg hp;have dK:=cl h hC hg hq;split at hr
 case h_2=>cases hr
 rename_i kt et e1;rw[e1] at aQ;split at hr
 case h_2=>cases hr
 rename_i z inf hz nA;cases hc:(Ty.beq q.1 kt&&tL C.P K kt&&Ty.sub z.1 et&&sr inf et)<;>simp only[hc,cond_true,cond_false] at hr
 ·cases hr
 simp only[aj] at hc;obtain⟨⟨⟨GY,B9⟩,bI⟩,hzero⟩:=hc;rw[Ty.beq_eq _ _ GY] at dK;obtain⟨v0,rG,CO⟩:∃v0,inf.zero=some v0∧Rep C.cap σ et v0 z.2:=by
  unfold sr at hzero;split at hzero
  ·rename_i v0 e0;exact⟨v0,e0,(wY hz hzero).1.sub bI⟩
  ·cases hzero
 have afS:∃(arr:Array MapEntry) (ds:List (D×D)),(p.2.ev ρ).m=ds∧ds.length=arr.size∧
  (∀(j:Nat) (e:MapEntry) (p:D×D),arr[j]?=some e→ds[j]?=some p→Rep C.cap σ kt e.key p.1∧Rep C.cap σ et e.val p.2)∧
  ((a.eval m=.map none∧arr=#[])∨∃g clock,a.eval m=.map (some g)∧w.heap[g]?=some (.map arr clock)):=by
  rcases aQ with aQ|⟨T',e,cells,xs,ht,_⟩|⟨g,arr,clock,es,kt',et',ht,Vx,hb,hd,hl,hx,aD⟩
  ·generalize vX:a.eval m=v at aQ;generalize BU:p.2.ev ρ=d at aQ;cases aQ with
   |mapnil=>exact⟨#[],[],by simp[D.m],rfl,by simp,.inl ⟨rfl,rfl⟩⟩
   |map kt et r jn es hm hl hx hk he=>
    obtain⟨_,arr,clock,hb,iW⟩:=(h.ok.m _ _ hm).resolve_right (fun e=>C1 hl hk e.1);have hn:es.length=arr.size:=by rw[hl,←iW];simp[entriesOf]
    refine⟨arr,es,by simp[D.m],hn,fun j e p hj hp=>?_,.inr ⟨r,clock,rfl,hb⟩⟩;have:jn[j]?=some (e.key,e.val):=by rw[←iW];simp[entriesOf,hj]
    exact⟨hk j _ p this hp,he j _ p this hp⟩
  ·cases ht
  ·cases ht;exact⟨arr,es,by rw[hd];rfl,hl,aD,.inr ⟨g,clock,Vx,hb⟩⟩
 obtain⟨arr,ds,hd,hl,aD,cj⟩:=afS;have ru:∀b,(Instr.checkKey b 10000 K (a.eval k)).run C.P w=.ok () w:=fun b=>Tb (cap:=C.cap) (σ:=σ) B9 dK;have Me:∃u b x,(Instr.lookup T (a.eval m) (a.eval k) ok).run C.P w=.ok (if ok then .tuple #[u,.bool b] else u) w∧(l6 (q.2.ev ρ) (p.2.ev ρ).m).getD z.2=x∧(l6 (q.2.ev ρ) (p.2.ev ρ).m).isSome=b∧Rep C.cap σ et u x:=by
  rw[hd];rcases run_findKey B9 dK arr ds hl aD w with⟨h1,h2,_⟩|⟨j,e,x,h1,h2,h3,h4,_,_⟩
  ·refine⟨v0,false,z.2,?_,by rw[h2];rfl,by rw[h2];rfl,CO⟩;rcases cj with⟨em,rfl⟩|⟨g,clock,em,hb⟩
   ·simp only[List.toList_toArray] at h1;cases ok<;>simp[Instr.lookup,run_underlying hT,em,ru,h1,zeroValue,run_typeInfo w nA,rG]
   ·cases ok<;>simp[Instr.lookup,run_underlying hT,em,getObj,Sem.run,hb,ru,h1,zeroValue,run_typeInfo w nA,rG]
  ·refine⟨e.val,true,x.2,?_,by rw[h4];rfl,by rw[h4];rfl,(aD j e x h1 h2).2⟩;rcases cj with⟨em,rfl⟩|⟨g,clock,em,hb⟩
   ·simp at h1
   ·cases ok<;>simp[Instr.lookup,run_underlying hT,em,getObj,Sem.run,hb,ru,h3]
 obtain⟨u,b,x,af,bM,cR,bE⟩:=Me;cases ok with
 |true=>
  simp only[cond_true] at hr;cases hr;refine .dat (v:=.tuple #[u,.bool b]) (by simp[execOp,ho,af]) ?_;simp only[PE.ev,PE.evs,bM,cR];refine .tup [et,.bool] [u,.bool b] [x,.v (.bool b)] rfl rfl (fun i t hi=>?_)
  match i,hi with
  |0,hi=>simp at hi;subst hi;exact bE
  |1,hi=>simp at hi;subst hi;exact .bool b
  |i+2,hi=>simp at hi
 |false=>
  simp only[cond_false] at hr;cases hr;refine .dat (v:=u) (by simp[execOp,ho,af]) ?_;simp only[PE.ev,bM];exact bE
end
end Cx
namespace Cx
open Go Go.RowKit
theorem TW (off:Nat):∀(l:List Value) (s:Nat) (cells:Array Value),off+s+l.length≤cells.size→
 ((l.zipIdx s).foldl (fun cs (x:Value×Nat)=>cs.setIfInBounds (off+x.2) x.1) cells).size=cells.size∧
 ∀p,((l.zipIdx s).foldl (fun cs (x:Value×Nat)=>cs.setIfInBounds (off+x.2) x.1) cells)[p]?=if off+s≤p∧p<off+s+l.length then l[p-(off+s)]? else cells[p]?
 |[],s,cells,_=>by
  refine⟨rfl,fun p=>?_⟩;have:¬(off+s≤p∧p<off+s+0):=by omega
  simp only[List.zipIdx_nil,List.foldl_nil,Au];rw[if_neg this]
 |v::l,s,cells,h=>by
  simp only[og] at h;obtain⟨h1,h2⟩:=TW off l (s+1) (cells.setIfInBounds (off+s) v) (by simp;omega);simp only[List.zipIdx_cons,JG];refine⟨by rw[h1];simp,fun p=>?_⟩;rw[h2 p];by_cases hp:p=off+s
  ·subst hp;have c1:¬(off+(s+1)≤off+s∧off+s<off+(s+1)+l.length):=by omega
   have c2:off+s≤off+s∧off+s<off+s+(v::l).length:=by simp
   rw[if_neg c1,if_pos c2,uM,if_pos rfl,if_pos (by omega)];simp
  ·by_cases hc:off+(s+1)≤p∧p<off+(s+1)+l.length
   ·have c2:off+s≤p∧p<off+s+(v::l).length:=by simp only[og];omega
    rw[if_pos hc,if_pos c2];rw[show p-(off+s)=(p-(off+(s+1)))+1 by omega];simp
   ·have c2:¬(off+s≤p∧p<off+s+(v::l).length):=by simp only[og];omega
    rw[if_neg hc,if_neg c2,uM];rw[if_neg (by omega)]
theorem K7 (place:Nat→Option (Nat×Nat)):∀(parts:List (Nat×Value)) (cells:Array Value),
 (∀p,p∈parts→∃o,place p.1=some (o,p.2.cells.size)∧o+p.2.cells.size≤cells.size)→
 (∀i j oi si oj sj,i≠j→place i=some (oi,si)→place j=some (oj,sj)→oi+si≤oj∨oj+sj≤oi)→(parts.map (·.1)).Nodup→
 ∃dp,Instr.fill place cells parts=some dp∧dp.size=cells.size∧
  (∀i v o,(i,v)∈parts→place i=some (o,v.cells.size)→∀m,m<v.cells.size→dp[o+m]?=v.cells[m]?)∧
  (∀i o s,i∉parts.map (·.1)→place i=some (o,s)→∀m,m<s→dp[o+m]?=cells[o+m]?)
 |[],cells,_,_,_=>⟨cells,rfl,rfl,by simp,fun _ _ _ _ _ _ _=>rfl⟩
 |(i,v)::parts,cells,h,yJ,be=>by
  obtain⟨o,hp,hle⟩:=h (i,v) (dG ..);simp only at hp hle;obtain⟨g1,g2⟩:=TW o v.cells.toList 0 cells (by simp;omega);simp only[gz,mB] at be
  have hz:v.cells.zipIdx.foldl (fun cs (x:Value×Nat)=>cs.setIfInBounds (o+x.2) x.1) cells=(v.cells.toList.zipIdx 0).foldl (fun cs (x:Value×Nat)=>cs.setIfInBounds (o+x.2) x.1) cells:=by
    rw[←Array.foldl_toList];simp
  generalize BR:(v.cells.toList.zipIdx 0).foldl (fun cs (x:Value×Nat)=>cs.setIfInBounds (o+x.2) x.1) cells=c1 at g1 g2 hz
  obtain⟨dp,k1,k2,k3,k4⟩:=K7 place parts c1 (fun p hm=>by
    obtain⟨o',h1,h2⟩:=h p (dz _ hm);exact⟨o',h1,by rw[g1];exact h2⟩) yJ be.2
  refine⟨dp,?_,k2.trans g1,?_,?_⟩
  ·simp only[Instr.fill,hp];have:¬((v.cells.size≠v.cells.size||decide (o+v.cells.size>cells.size))=true):=by simp;omega
   rw[if_neg this];rw[←k1,←hz]
  ·intro j u o' hm yV m ae;rcases df.1 hm with e|fu
   ·cases e;rw[hp] at yV;cases yV;rw[k4 i o v.cells.size be.1 hp m ae,g2];rw[if_pos (by simp;omega)];simp
   ·exact k3 j u o' fu yV m ae
  ·intro j o' s' vO yV m ae;simp only[gz,df,not_or] at vO;rw[k4 j o' s' vO.2 yV m ae,g2];have:=yJ i j o v.cells.size o' s' (fun e=>vO.1 e.symm) hp yV;rw[if_neg (by simp;omega)]
section
variable {C:Ctx} {S:St} {ρ:Env} {σ:Im} {own:Nat→Option Nat} {hv:Nat→Value} {w0:World} {σ0:Base} {A:Nat→Prop} {a:Act} {w:World} {gs:List (Nat×Bool)} {Φ:aR} {dst:Nat}
theorem Rep.flat {cap:Nat→Option CSig}{t:Ty}{v:Value}{d:D}(h:Rep cap σ t v d)(ht:t.rowT=true∨t.one=true):
 t.flat.length=t.size∧d.cells.length=t.size∧∀(m:Nat) (tm:Ty),t.flat[m]?=some tm→tm.one=true∧Rep cap σ tm (v.cells.getD m undef) (d.cells.getD m .none):=by
 cases h with
 |agg ts vs ds h1 h2 h ho=>
  refine⟨rfl,by simp[D.cells,Ty.size,h2],fun m tm hm=>⟨ho m tm hm,?_⟩⟩;have:=h m tm hm;simpa [Value.cells,D.cells,ej,aF] using this
 |tup ts vs ds h1 h2 h=>simp[Ty.rowT,Ty.one] at ht
 |_=>
  refine⟨rfl,rfl,fun m tm hm=>?_⟩
  match m,hm with
  |0,hm=>
   simp only[Ty.flat,JH,aO] at hm;subst hm;refine⟨rfl,?_⟩;simp only[Value.cells,D.cells,sB];constructor<;>assumption
  |m+1,hm=>simp[Ty.flat] at hm
theorem l8:∀{l:List Nat},gp l=true→l.Nodup
 |[],_=>List.nodup_nil
 |a::r,h=>by
  simp only[gp,aj,hH] at h;refine mB.2 ⟨fun hm=>?_,l8 h.2⟩;have:=List.any_eq_false.1 h.1 a hm;simp at this
def Laid (P:Program):List Field→Nat→Prop
 |[],_=>True
 |f::fs,off=>f.offset=off∧∃inf,P.info? f.type=some inf∧Laid P fs (off+inf.size)
theorem Laid.get {P:Program}:∀{fs:List Field} {off:Nat},Laid P fs off→∀(i:Nat) (f:Field),fs[i]?=some f→∃inf,P.info? f.type=some inf∧off≤f.offset∧
 ∀(j:Nat) (g:Field),i<j→fs[j]?=some g→f.offset+inf.size≤g.offset
 |[],_,_,i,f,hi=>by simp at hi
 |f0::fs,off,h,i,f,hi=>by
  obtain⟨h1,inf,h2,h3⟩:=h;cases i with
  |zero=>
   simp at hi;subst hi;refine⟨inf,h2,by omega,fun j g hj hg=>?_⟩;cases j with
   |zero=>omega
   |succ j=>obtain⟨_,_,h4,_⟩:=h3.get j g (by simpa using hg);omega
  |succ i=>
   simp at hi;obtain⟨ahO,k1,k2,k3⟩:=h3.get i f hi;refine⟨ahO,k1,by omega,fun j g hj hg=>?_⟩;cases j with
   |zero=>omega
   |succ j=>exact k3 j g (by omega) (by simpa using hg)
theorem X7 {ft:Ty}{x:Operand}{y:List AgC×PE}(h:rT C S gs ft x=some y):y.1.length=ft.size:=by
 have Li:∀t:Ty,t.flat.length=t.size:=fun t=>by cases t<;>simp[Ty.flat,Ty.size]
 unfold rT at h;split at h
 ·rename_i a _;cases hs:(Ty.sub a.1 ft&&(a.1.rowT||a.1.one))<;>simp only[hs,cond_true,cond_false] at h
  ·cases h
  cases h;simp only[aj] at hs;rw[fl,Li,(Ty.sub_one _ _ hs.1).2]
 ·split at h
  ·rename_i j ver _;cases hb:(Nat.beq ver (S.ver j)&&Nd (S.o j)&&Nat.beq ft.size 1)<;>simp only[hb,cond_true,cond_false] at h
   ·cases h
   cases h;simp only[aj] at hb;exact(au hb.2).symm
  ·cases h
theorem X8 (h:Inv C S ρ σ own hv w0 σ0 A a w)(hC:CtxOK C σ0)(hg:holds gs ρ=true){ft:Ty}{x:Operand}{y:List AgC×PE}(hy:rT C S gs ft x=some y):
 (a.eval x).cells.size=ft.size∧(y.2.ev ρ).cells.length=ft.size∧∀(m:Nat) (c:AgC),y.1[m]?=some c→mz C S σ hv c ((a.eval x).cells.getD m undef) ((y.2.ev ρ).cells.getD m .none):=by
 unfold rT at hy;split at hy
 ·rename_i q hq;cases hs:(Ty.sub q.1 ft&&(q.1.rowT||q.1.one))<;>simp only[hs,cond_true,cond_false] at hy
  ·cases hy
  cases hy;simp only[aj,gw] at hs;have hr:=cl h hC hg hq;obtain⟨f1,f2,f3⟩:=hr.flat hs.2;have e:=(Ty.sub_one _ _ hs.1).2;refine⟨by rw[hr.size,e],by rw[f2,e],fun m c hm=>?_⟩;simp only[cA,av] at hm;obtain⟨t,ht,rfl⟩:=hm;exact f3 m t ht
 ·split at hy
  ·rename_i j ver eu;cases hb:(Nat.beq ver (S.ver j)&&Nd (S.o j)&&Nat.beq ft.size 1)<;>simp only[hb,cond_true,cond_false] at hy
   ·cases hy
   cases hy;simp only[aj] at hb;obtain⟨⟨bW,bk⟩,fa⟩:=hb;have dC:=au bW;have aA:=au fa;have dU:aC C S ρ σ hv (eU S gs x) (a.eval x) ((pA x).ev ρ):=by
        cases x with
        |tmp t=>exact(ml h hg t).1
        |_=>cases eu
   rw[eu] at dU;have aL:=dU.2 dC;have aV:=h.objs j;have hc:(a.eval x).cells=#[a.eval x]:=by
        rw[aL];cases ho:S.o j with
        |row T e=>
         rw[ho] at aV;obtain⟨cells,xs,_,h2,_⟩:=aV;rcases h2.2 with⟨e1,_⟩|⟨g,cap,cur,e1,_⟩<;>rw[e1]<;>rfl
        |_=>rw[ho] at bk;cases bk
   refine⟨by rw[hc,aA];rfl,by rw[aA];rfl,fun m c hm=>?_⟩;cases m with
   |zero=>
    simp at hm;subst hm;rw[hc];exact dU
   |succ m=>simp at hm
  ·cases hy
theorem abu {zs:List Value}{parts:List (Nat×Operand)}:∀(fs:List Field) (i off:Nat) (r:List AgC×List PE),kh C S gs zs parts fs i off=some r→Laid C.P fs off:=by
 intro fs
 induction fs with
 |nil=>intro i off r _;trivial
 |cons f fs ih=>
  intro i off r h;simp only[kh] at h;split at h
  case h_2=>cases h
  rename_i inf ft hi ht;cases hc:(Nat.beq f.offset off&&Nat.beq inf.size ft.size)<;>simp only[hc,cond_true,cond_false] at h
  ·cases h
  simp only[aj] at hc;simp only[ao] at h;obtain⟨q,hq,_⟩:=h;exact⟨au hc.1,inf,hi,ih _ _ _ hq⟩
theorem SW {zs:List Value}{parts:List (Nat×Operand)}:∀(fs:List Field) (i off:Nat) (r:List AgC×List PE),kh C S gs zs parts fs i off=some r→off≤zs.length:=by
 intro fs
 induction fs with
 |nil=>intro i off r h;simp only[kh] at h;cases hb:Nat.beq off zs.length<;>simp[hb] at h;exact Nat.le_of_eq (au hb)
 |cons f fs ih=>
  intro i off r h;simp only[kh] at h;split at h
  case h_2=>cases h
  rename_i inf ft hi ht;cases hc:(Nat.beq f.offset off&&Nat.beq inf.size ft.size)<;>simp only[hc,cond_true,cond_false] at h
  ·cases h
  simp only[ao] at h;obtain⟨q,hq,_⟩:=h;have:=ih _ _ _ hq;omega
theorem abt {zs:List Value}{parts:List (Nat×Operand)}:∀(fs:List Field) (i off:Nat) (r:List AgC×List PE),kh C S gs zs parts fs i off=some r→
 ∃ft:List AgC×List PE,r=ft∧(∀(m:Nat) (f:Field) (inf:TypeInfo),fs[m]?=some f→C.P.info? f.type=some inf→f.offset+inf.size≤zs.length)∧(∀(m:Nat) (x:Nat×Operand) (f:Field) (inf:TypeInfo),fs[m]?=some f→C.P.info? f.type=some inf→parts.find? (fun p=>Nat.beq p.1 (i+m))=some x→∃y ft,rT C S gs ft x.2=some y∧ft.size=inf.size)∧off+r.1.length=zs.length:=by
 intro fs
 induction fs with
 |nil=>intro i off r h;simp only[kh] at h;cases hb:Nat.beq off zs.length<;>simp[hb] at h;subst h;exact⟨_,rfl,by simp,by simp,by simpa using au hb⟩
 |cons f fs ih=>
  intro i off r h;simp only[kh] at h;split at h
  case h_2=>cases h
  rename_i inf ft hi ht;cases hc:(Nat.beq f.offset off&&Nat.beq inf.size ft.size)<;>simp only[hc,cond_true,cond_false] at h
  ·cases h
  simp only[aj] at hc;have iY:=au hc.1;have aA:=au hc.2;simp only[ao] at h;obtain⟨q,hq,h⟩:=h;have hle:=SW _ _ _ _ hq;obtain⟨_,rfl,k1,k2,k3⟩:=ih _ _ _ hq;have e1:∀(m:Nat) (g:Field) (ig:TypeInfo),(f::fs)[m]?=some g→C.P.info? g.type=some ig→g.offset+ig.size≤zs.length:=by
   intro m g ig hm fT;cases m with
   |zero=>simp at hm;subst hm;rw[hi] at fT;cases fT;omega
   |succ m=>exact k1 m g ig (by simpa using hm) fT
  have Li:∀t:Ty,t.flat.length=t.size:=fun t=>by cases t<;>simp[Ty.flat,Ty.size]
  split at h
  ·rename_i x hx;simp only[av] at h;obtain⟨y,hy,rfl⟩:=h;refine⟨_,rfl,e1,fun m x' g ig hm fT hf=>?_,?_⟩
   ·cases m with
    |zero=>
     simp at hm;subst hm;rw[hi] at fT;cases fT;simp only[gK] at hf;rw[hx] at hf;cases hf;exact⟨y,ft,hy,aA.symm⟩
    |succ m=>exact k2 m x' g ig (by simpa using hm) fT (by rwa [show i+(m+1)=i+1+m by omega] at hf)
   ·have:=X7 hy;simp only[iK];omega
  ·rename_i hx;cases lY:jo ft (rowOf ft.rowT ((zs.drop off).take inf.size))<;>simp only[lY,cond_true,cond_false] at h
   ·cases h
   simp only[av] at h;obtain⟨z,hz,rfl⟩:=h;have bt:=(wY (cap:=C.cap) (σ:=⟨fun _ _=>none,fun _=>none⟩) hz lY).2.1;refine⟨_,rfl,e1,fun m x' g ig hm fT hf=>?_,?_⟩
   ·cases m with
    |zero=>simp only[gK] at hf;rw[hx] at hf;cases hf
    |succ m=>exact k2 m x' g ig (by simpa using hm) fT (by rwa [show i+(m+1)=i+1+m by omega] at hf)
   ·have:=(Ty.sub_one _ _ bt).2;simp only[iK,fl,Li];omega
theorem abv (h:Inv C S ρ σ own hv w0 σ0 A a w)(hC:CtxOK C σ0)(hg:holds gs ρ=true){zs:List Value}{parts:List (Nat×Operand)}(cells:Array Value):
 ∀(fs:List Field) (i off:Nat) (r:List AgC×List PE),kh C S gs zs parts fs i off=some r→
  (∀(m:Nat) (f:Field) (inf:TypeInfo),fs[m]?=some f→C.P.info? f.type=some inf→
        (∀x,parts.find? (fun p=>Nat.beq p.1 (i+m))=some x→∀q,q<inf.size→cells[f.offset+q]?=(a.eval x.2).cells[q]?)∧
        (parts.find? (fun p=>Nat.beq p.1 (i+m))=none→∀q,q<inf.size→cells[f.offset+q]?=zs[f.offset+q]?))→
  (PE.evc ρ r.2).length=r.1.length∧∀(m:Nat) (c:AgC),r.1[m]?=some c→mz C S σ hv c (cells.getD (off+m) undef) ((PE.evc ρ r.2).getD m .none):=by
 intro fs
 induction fs with
 |nil=>intro i off r hr _;simp only[kh] at hr;cases hb:Nat.beq off zs.length<;>simp[hb] at hr;subst hr;simp[PE.evc]
 |cons f fs ih=>
  intro i off r hr aD;simp only[kh] at hr;split at hr
  case h_2=>cases hr
  rename_i inf ft hi ht;cases hc:(Nat.beq f.offset off&&Nat.beq inf.size ft.size)<;>simp only[hc,cond_true,cond_false] at hr
  ·cases hr
  simp only[aj] at hc;have iY:=au hc.1;have aA:=au hc.2;simp only[ao] at hr;obtain⟨q,hq,hr⟩:=hr
  obtain⟨l1,tC⟩:=ih (i+1) (off+inf.size) q hq (fun m g ahP hm fT=>by
   have:=aD (m+1) g ahP (by simpa using hm) fT
   rwa [show i+(m+1)=i+1+m by omega] at this)
  obtain⟨hp,hn⟩:=aD 0 f inf rfl hi;have join:∀(l:List AgC) (v:Value) (d:D) (pe:PE),pe.ev ρ=d→l.length=inf.size→d.cells.length=inf.size→(∀m c,l[m]?=some c→mz C S σ hv c (v.cells.getD m undef) (d.cells.getD m .none))→(∀m,m<inf.size→cells[f.offset+m]?=v.cells[m]?)→
        (PE.evc ρ (pe::q.2)).length=(l++q.1).length∧∀(m:Nat) (c:AgC),(l++q.1)[m]?=some c→mz C S σ hv c (cells.getD (off+m) undef) ((PE.evc ρ (pe::q.2)).getD m .none):=by
   intro l v d pe tA f1 f2 f3 aP;simp only[PE.evc,tA];refine⟨by simp[f1,f2,l1],fun m t' hm=>?_⟩;rw[lH] at hm;split at hm
   ·rename_i ae;have g2:=f3 m t' hm;have e1:cells.getD (off+m) undef=v.cells.getD m undef:=by
     rw[ej,ej,←iY,aP m (by omega)]
    have e2:(d.cells++PE.evc ρ q.2).getD m .none=d.cells.getD m .none:=by
     rw[aF,aF,kf (by omega)]
    rw[e1,e2];exact g2
   ·rename_i fq;have g2:=tC _ t' hm;have e1:off+inf.size+(m-l.length)=off+m:=by omega
    have e2:(d.cells++PE.evc ρ q.2).getD m .none=(PE.evc ρ q.2).getD (m-l.length) .none:=by
     rw[aF,aF,iJ (by omega)];rw[f1,←f2]
    rw[e1] at g2;rw[e2];exact g2
  simp only[gK] at hp hn;split at hr
  ·rename_i x hx;simp only[av] at hr;obtain⟨y,hy,rfl⟩:=hr;obtain⟨g1,g2,g3⟩:=X8 h hC hg hy;exact join y.1 (a.eval x.2) (y.2.ev ρ) y.2 rfl (by rw[X7 hy,aA]) (by rw[g2,aA]) g3 (hp x hx)
  ·rename_i hx;cases lY:jo ft (rowOf ft.rowT ((zs.drop off).take inf.size))<;>simp only[lY,cond_true,cond_false] at hr
   ·cases hr
   simp only[av] at hr;obtain⟨z,hz,rfl⟩:=hr;obtain⟨k1,k2,k3⟩:=wY (cap:=C.cap) (σ:=σ) hz lY;have G3:(rowOf ft.rowT ((zs.drop off).take inf.size)).cells.size=inf.size:=by rw[k1.size,(Ty.sub_one _ _ k2).2,aA]
   have gR:z.1.rowT=true∨z.1.one=true:=by
        cases ft<;>simp[oc,pH] at hz<;>first|(subst hz;simp[Ty.one])|(obtain⟨_,_,rfl⟩:=hz;simp[Ty.rowT])
   obtain⟨z1,z2,z3⟩:=k1.flat gR;have ez:z.1.size=inf.size:=by rw[(Ty.sub_one _ _ k2).2,aA]
   refine join (z.1.flat.map .dat) (rowOf ft.rowT ((zs.drop off).take inf.size)) z.2 (.con z.2) rfl (by rw[fl,z1,ez]) (by rw[z2,ez]) (fun m c hm=>?_) (fun m hm=>?_)
   ·simp only[cA,av] at hm;obtain⟨t,ht,rfl⟩:=hm;exact z3 m t ht
   ·rw[hn hx m hm,iY];cases tD:ft.rowT with
    |true=>simp[rowOf,Value.cells,dm,dN,hm]
    |false=>
     rw[tD] at G3 k1;have h1:(z.1).rowT=false:=by
       have:=(Ty.sub_one _ _ k2)
       cases ft<;>simp[Ty.rowT] at tD<;>simp[oc,pH] at hz<;>subst hz<;>rfl
     rw[k1.cells1 h1] at G3 ⊢;simp at G3;have hm0:m=0:=by omega
     subst hm0;have:∃u,zs[off]?=some u:=⟨_,bo (show off<zs.length by have:=SW _ _ _ _ hq;omega)⟩
     simp[rowOf,aF,dm,dN,←G3];obtain⟨u,hu⟩:=this;simp[hu]
theorem VX {P:Program}:∀(fs:List Field) (off:Nat),Laid P fs off→
 ∃l:List (Nat×Nat),fs.mapM (fun f=>(P.info? f.type).map fun i=>(f.offset,i.size))=some l∧l.length=fs.length∧
  ∀(i:Nat) (f:Field) (inf:TypeInfo),fs[i]?=some f→P.info? f.type=some inf→l[i]?=some (f.offset,inf.size)
 |[],_,_=>⟨[],rfl,rfl,by simp⟩
 |f::fs,off,h=>by
  obtain⟨h1,inf,h2,h3⟩:=h;obtain⟨l,k1,k2,k3⟩:=VX fs _ h3;refine⟨(f.offset,inf.size)::l,?_,by simp[k2],fun i g ig hi fT=>?_⟩
  ·simp[Sd,h2,k1]
  ·cases i with
   |zero=>simp at hi;subst hi;rw[h2] at fT;cases fT;rfl
   |succ i=>simp at hi;simpa using k3 i g ig hi fT
theorem TJ {parts:List (Nat×Operand)}(be:(parts.map (·.1)).Nodup){i:Nat}{x:Operand}(h:(i,x)∈parts):parts.find? (fun p=>Nat.beq p.1 i)=some (i,x):=by
 induction parts with
 |nil=>cases h
 |cons p ps ih=>
  simp only[gz,mB] at be;rcases df.1 h with e|hm
  ·subst e;simp
  ·have:¬p.1=i:=fun e=>be.1 (e▸List.mem_map_of_mem (f:=(·.1)) hm);rw[List.find?_cons_of_neg (by simpa using this)];exact ih be.2 hm
theorem ajI (h:Inv C S ρ σ own hv w0 σ0 A a w)(hC:CtxOK C σ0)(hg:holds gs ρ=true){T:TypeId}{ps:Array (Nat×Operand)}{r:Sh×List PI}(hr:zj C S gs dst T ps.toList=some r){o:Oper}(ho:o.op=.build T ps):
 eF C S ρ σ hv Φ dst a w o r:=by
 unfold zj at hr;split at hr
 case h_3=>cases hr
 case h_2=>
  rename_i n e inf hT nA;split at hr
  case h_2=>cases hr
  rename_i zs ie hz hie;split at hr
  case h_2=>cases hr
  rename_i x y rF;simp only[ao] at hr;obtain⟨p,hp,q,hq,hr⟩:=hr;split at hr
  case h_2=>cases hr
  rename_i k k' hk bU;cases hc:(Nat.beq n 2&&Nat.beq zs.size 2&&Nat.beq ie.size 1)<;>simp only[hc,cond_true,cond_false] at hr
  ·cases hr
  cases hr;simp only[aj] at hc;obtain⟨⟨c1,c2⟩,c3⟩:=hc;have c1:=au c1;have c2:=au c2;have c3:=au c3;subst c1;have hx:=cl h hC hg hp;have hy:=cl h hC hg hq;rw[hk] at hx;rw[bU] at hy;obtain⟨a1,KV,ea2,_⟩:=hx.int_inv;obtain⟨b1,KW,eb2,_⟩:=hy.int_inv;have agY:ps=#[(0,x),(1,y)]:=by rw[←sv];exact rF
  obtain⟨z0,z1,rfl⟩:∃z0 z1,zs=#[z0,z1]:=by
   match zs,c2 with
   |⟨[z0,z1]⟩,_=>exact⟨z0,z1,rfl⟩
  have LK:C.P.built T [(0,a.eval x),(1,a.eval y)]=some #[a.eval x,a.eval y]:=by
   rw[KV,KW];simp only[Program.built,nA,hT,hz,hie,c3];simp[Instr.fill,Value.cells]
  have af:(execOp a.eval o).run C.P w=.ok (.value (.agg #[a.eval x,a.eval y])) w:=by
   have:=run_build (P:=C.P) w T (ps.map fun(x:Nat×Operand)=>(x.1,a.eval x.2)) #[a.eval x,a.eval y] (by rw[agY];simpa using LK);simp[execOp,ho,this]
  refine .dat af ?_;have e1:(PE.mk [p.2,q.2]).ev ρ=.agg [p.2.ev ρ,q.2.ev ρ]:=by simp[PE.ev,PE.evc,ea2,eb2,D.cells]
  rw[e1];refine .agg _ [a.eval x,a.eval y] _ rfl rfl (fun i t hi=>?_) (fun i t hi=>?_)
  ·match i,hi with
   |0,hi=>simp at hi;subst hi;rw[hk];simpa using hx
   |1,hi=>simp at hi;subst hi;rw[bU];simpa using hy
   |i+2,hi=>simp at hi
  ·match i,hi with
   |0,hi=>simp at hi;subst hi;rw[hk];rfl
   |1,hi=>simp at hi;subst hi;rw[bU];rfl
   |i+2,hi=>simp at hi
 rename_i fs inf hT nA;split at hr
 case h_2=>cases hr
 rename_i zs hz;cases hc:(gp (ps.toList.map (·.1))&&ps.toList.all (fun p=>Nat.blt p.1 fs.size))<;>simp only[hc,cond_true,cond_false] at hr
 ·cases hr
 simp only[aj] at hc;obtain⟨be,ae⟩:=hc;simp only[av] at hr;obtain⟨q,hq,rfl⟩:=hr;have G0:=abu _ _ _ _ hq;have jF:=l8 be;obtain⟨_,rfl,bl,ahy,LX⟩:=abt _ _ _ _ hq;obtain⟨pl,fy,asV,Cr⟩:=VX _ _ G0
 have jH:∀p,p∈(ps.toList.map fun(x:Nat×Operand)=>(x.1,a.eval x.2))→∃o,pl.toArray[p.1]?=some (o,p.2.cells.size)∧o+p.2.cells.size≤zs.size:=by
  intro p hp;obtain⟨x,hx,rfl⟩:=eE.1 hp;have vY:x.1<fs.toList.length:=by
   have:=bz.1 ae x hx;have h2:x.1<fs.size:=by simpa [ia] using this
   simpa using h2
  obtain⟨f,hf⟩:∃f,fs.toList[x.1]?=some f:=⟨_,bo vY⟩
  obtain⟨ig,fT,_,_⟩:=G0.get _ _ hf;have B1:=TJ jF (i:=x.1) (x:=x.2) hx;obtain⟨y,ft,hy,aA⟩:=ahy x.1 (x.1,x.2) f ig hf fT (by simpa using B1);have tE:=(X8 h hC hg hy).1;rw[aA] at tE;simp only;refine⟨f.offset,?_,?_⟩
  ·rw[tE];simpa using Cr x.1 f ig hf fT
  ·rw[tE];simpa using bl x.1 f ig hf fT
 have yJ:∀(i j oi si oj sj:Nat),i≠j→pl.toArray[i]?=some (oi,si)→pl.toArray[j]?=some (oj,sj)→oi+si≤oj∨oj+sj≤oi:=by
  intro i j oi si oj sj az hi hj;simp only[ED] at hi hj;obtain⟨f,hf⟩:∃f,fs.toList[i]?=some f:=⟨_,bo (by have:=(dZ.1 hi).1;omega)⟩
  obtain⟨g,yM⟩:∃g,fs.toList[j]?=some g:=⟨_,bo (by have:=(dZ.1 hj).1;omega)⟩
  obtain⟨ig,fT,_,agr⟩:=G0.get _ _ hf;obtain⟨jg,hjg,_,ags⟩:=G0.get _ _ yM;rw[Cr i f ig hf fT] at hi;rw[Cr j g jg yM hjg] at hj;cases hi;cases hj;rcases EJ i j with ae|fq
  ·exact .inl (agr j g ae yM)
  ·exact .inr (ags i f (by omega) hf)
 obtain⟨dp,f1,f2,f3,f4⟩:=K7 (pl.toArray[·]?) (ps.toList.map fun(x:Nat×Operand)=>(x.1,a.eval x.2)) zs jH yJ (by simpa [Ez] using jF)
 have LK:C.P.built T (ps.toList.map fun(x:Nat×Operand)=>(x.1,a.eval x.2))=some dp:=by
  simp only[Program.built,nA,hT,hz,fy];exact f1
 have af:(execOp a.eval o).run C.P w=.ok (.value (.agg dp)) w:=by
  have:=run_build (P:=C.P) w T (ps.map fun(x:Nat×Operand)=>(x.1,a.eval x.2)) dp (by rw[uO];exact LK);simp[execOp,ho,this]
 have vA:∀(m:Nat) (f:Field) (ig:TypeInfo),fs.toList[m]?=some f→C.P.info? f.type=some ig→
  (∀x,ps.toList.find? (fun p=>Nat.beq p.1 (0+m))=some x→∀q,q<ig.size→dp[f.offset+q]?=(a.eval x.2).cells[q]?)∧
  (ps.toList.find? (fun p=>Nat.beq p.1 (0+m))=none→∀q,q<ig.size→dp[f.offset+q]?=zs.toList[f.offset+q]?):=by
  intro m f ig hm fT;refine⟨fun x hx p hp=>?_,fun hx p hp=>?_⟩
  ·have bM:x.1=m:=by have:=JF hx;simpa using this
   have y5:(x.1,a.eval x.2)∈(ps.toList.map fun(x:Nat×Operand)=>(x.1,a.eval x.2)):=eE.2 ⟨x,sF hx,rfl⟩;obtain⟨o',dJ,hle⟩:=jH _ y5;simp only at dJ hle;have Vf:=Cr m f ig hm fT;simp only[ED,bM] at dJ;rw[Vf] at dJ;simp only[aO,ng] at dJ;obtain⟨e1,e2⟩:=dJ;exact f3 x.1 (a.eval x.2) f.offset y5 (by simp[bM,Vf,←e2]) p (by omega)
  ·have vO:m∉(ps.toList.map fun(x:Nat×Operand)=>(x.1,a.eval x.2)).map (·.1):=by
        intro cK;simp only[JM,eE,Ez] at cK;obtain⟨x,y5,e⟩:=cK;have:=sA.1 hx x y5;simp[e] at this
   rw[f4 m f.offset ig.size vO (by simpa using Cr m f ig hm fT) p hp];simp
 obtain⟨l1,aD⟩:=abv h hC hg dp _ _ _ _ hq vA;have yF:dp=dp.toList.toArray:=by simp
 have hlen:dp.toList.length=q.1.length:=by simp[f2] at LX ⊢;omega
 have ij:∀(i:Nat) (c:AgC),q.1[i]?=some c→mz C S σ hv c (dp.toList.getD i undef) ((PE.evc ρ q.2).getD i .none):=fun i c hi=>by
  have:=aD i c hi;simpa [ej,aF] using this
 cases LQ:q.1.all VK
 ·simp only[cond_false];exact fun ρ' nF=>⟨_,_,sm nF,af,⟨dp.toList,PE.evc ρ q.2,by rw[←yF],by simp only[PE.ev],hlen,l1,ij⟩,fun _ _ e=>by cases e⟩
 ·simp only[cond_true];refine .dat af ?_;simp only[PE.ev];rw[yF]
  have oJ:∀(i:Nat) (t:Ty),(q.1.map AgC.ty)[i]?=some t→t.one=true∧Rep C.cap σ t (dp.toList.getD i undef) ((PE.evc ρ q.2).getD i .none):=fun i t hi=>by
   simp only[cA,av] at hi;obtain⟨c,hc,rfl⟩:=hi;have h1:=ij i c hc;have h2:=bz.1 LQ c (jO hc);cases c with
   |dat t=>exact h1
   |obj j ver=>cases h2
  exact .agg _ _ _ (by rw[fl];exact hlen) (by rw[fl];exact l1) (fun i t hi=>(oJ i t hi).2) (fun i t hi=>(oJ i t hi).1)
end
end Cx
