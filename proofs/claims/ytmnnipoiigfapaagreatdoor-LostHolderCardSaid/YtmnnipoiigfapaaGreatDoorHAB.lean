/-
  Shared texts of this claim.
-/
import Derived.Test.YtmnnipoiigfapaaGreatDoorHAA
import Derived.ChangeKeysEq
import Derived.Laws.Tables
set_option linter.unusedSimpArgs false
set_option linter.unusedVariables false
namespace Cx
open Go Go.RowKit
theorem Rep.int_inv {cap:Nat→Option CSig}{σ:Im}{k:IntKind}{v:Value}{d:D}(h:Rep cap σ (.int k) v d):∃n,v=.int k n∧d=.v (.int k n)∧k.min≤n∧n≤k.max:=by
 cases h with
 |int k n h1 h2=>exact⟨n,rfl,rfl,h1,h2⟩
theorem Rep.bool_inv {cap:Nat→Option CSig}{σ:Im}{v:Value}{d:D}(h:Rep cap σ .bool v d):∃b,v=.bool b∧d=.v (.bool b):=by
 cases h with
 |bool b=>exact⟨b,rfl,rfl⟩
theorem Rep.str_inv {cap:Nat→Option CSig}{σ:Im}{v:Value}{d:D}(h:Rep cap σ .str v d):∃s,v=.string s∧d=.v (.string s)∧s.size≤maxLen:=by
 cases h with
 |str s h=>exact⟨s,rfl,rfl,h⟩
theorem Rep.slice_inv {cap:Nat→Option CSig}{σ:Im}{e:Ty}{v:Value}{d:D}(h:Rep cap σ (.slice e) v d):∃xs,d=.list xs∧
 (((∃p,v=.slice p 0 0)∧xs=[])∨∃k o c,v=.slice (some ⟨k,o,none⟩) xs.length c∧xs.length≤c∧c≤maxLen∧
   ∃vs:Nat→Value,(∀(i:Nat) (x:D),xs[i]?=some x→Rep cap σ e.unf (vs i) x)∧∀(i j:Nat) (u:Value),i<xs.length→(vs i).cells[j]?=some u→σ.c k (o+i*e.size+j)=some u):=by
 cases h with
 |nil e=>exact⟨[],rfl,.inl ⟨⟨_,rfl⟩,rfl⟩⟩
 |emp e a=>exact⟨[],rfl,.inl ⟨⟨_,rfl⟩,rfl⟩⟩
 |slice e k o n c xs vs hn hc hm h hv=>subst hn;exact⟨xs,rfl,.inr ⟨k,o,c,rfl,hc,hm,vs,h,hv⟩⟩
theorem Rep.ref_inv {cap:Nat→Option CSig}{σ:Im}{t:Ty}{v:Value}{d:D}(h:Rep cap σ (.ref t) v d):∃k o x y,v=.pointer (some ⟨k,o,none⟩)∧d=.ref y∧Rep cap σ t x y∧∀(j:Nat) (u:Value),x.cells[j]?=some u→σ.c k (o+j)=some u:=by
 cases h with
 |ref t k o x y h hv=>exact⟨k,o,x,y,rfl,rfl,h,hv⟩
theorem Rep.agg_inv {cap:Nat→Option CSig}{σ:Im}{ts:List Ty}{v:Value}{d:D}(h:Rep cap σ (.agg ts) v d):∃(vs:List Value) (ds:List D),v=.agg vs.toArray∧d=.agg ds∧vs.length=ts.length∧ds.length=ts.length∧
 (∀(i:Nat) (t:Ty),ts[i]?=some t→Rep cap σ t (vs.getD i undef) (ds.getD i .none))∧∀(i:Nat) (t:Ty),ts[i]?=some t→t.one=true:=by
 cases h with
 |agg ts vs ds h1 h2 h ho=>exact⟨vs,ds,rfl,rfl,h1,h2,h,ho⟩
theorem Rep.tup_inv {cap:Nat→Option CSig}{σ:Im}{ts:List Ty}{v:Value}{d:D}(h:Rep cap σ (.tup ts) v d):∃(vs:List Value) (ds:List D),v=.tuple vs.toArray∧d=.tup ds∧vs.length=ts.length∧ds.length=ts.length∧
 (∀(i:Nat) (t:Ty),ts[i]?=some t→Rep cap σ t (vs.getD i undef) (ds.getD i .none)):=by
 cases h with
 |tup ts vs ds h1 h2 h=>exact⟨vs,ds,rfl,rfl,h1,h2,h⟩
theorem rM (k:IntKind)(n:Int):k.min≤k.wrap n∧k.wrap n≤k.max:=by
 cases k<;>simp only[IntKind.min,IntKind.max,IntKind.wrap,IntKind.signed,IntKind.bits]<;>simp<;>(try split)<;>omega
theorem adN (k:IntKind){a b:Int}(ha:k.min≤a∧a≤k.max):k.min≤a.tmod b∧a.tmod b≤k.max:=by
 have h1:k.min≤0:=by cases k<;>decide
 have h2:0≤k.max:=by cases k<;>decide
 have hn:(a.tmod b).natAbs≤a.natAbs:=by rw[Int.natAbs_tmod];exact Nat.mod_le _ _
 rcases Int.le_total 0 a with h|h
 ·have:=Int.tmod_nonneg b h;omega
 ·have:a.tmod b≤0:=by
   have:=Int.tmod_nonneg b (a:=-a) (by omega);rw[Int.neg_tmod] at this;omega
  omega
theorem WG (k:IntKind){a:Int}(n:Nat)(ha:k.min≤a∧a≤k.max):k.min≤a.fdiv (2^n)∧a.fdiv (2^n)≤k.max:=by
 have h1:k.min≤0:=by cases k<;>decide
 have h2:0≤k.max:=by cases k<;>decide
 have hp:(0:Int)<2^n:=Int.pow_pos (by decide);rw[aef _ (by omega)];rcases Int.le_total 0 a with h|h
 ·have h3:=Int.ediv_nonneg h (by omega:(0:Int)≤2^n);have h4:=Int.ediv_le_self (b:=2^n) h;omega
 ·have h3:a/2^n≤0:=by
   have:=Int.ediv_le_ediv hp h;simpa using this
  have h4:a≤a/2^n:=by
   rw[Int.le_ediv_iff_mul_le hp];have:a*2^n≤a*1:=Int.mul_le_mul_of_nonpos_left h (by omega);omega
  omega
section
variable {C:Ctx} {S:St} {ρ:Env} {σ:Im} {own:Nat→Option Nat} {hv:Nat→Value} {w0:World} {σ0:Base} {A:Nat→Prop} {a:Act} {w:World} {gs:List (Nat×Bool)} {Φ:aQ} {dst:Nat}
theorem vu {e:PE}{ρ':Env}(h:PI.runs Φ [.setR dst e] ρ=some ρ'):ρ'=ρ.setR dst (e.ev ρ):=by
 simp[PI.runs,PI.run] at h;exact h.symm
theorem R7 (hg:holds gs ρ=true){c e:PE}{ρ':Env}(h:PI.runs Φ [qG gs c,.setR dst e] ρ=some ρ'):(c.ev ρ).b=true∧ρ'=ρ.setR dst (e.ev ρ):=by
 simp only[PI.runs,PI.run,qG] at h;cases dt:gs with
 |nil=>
  subst dt;simp only at h;cases hb:(c.ev ρ).b<;>simp[hb] at h;exact⟨rfl,h.symm⟩
 |cons g r=>
  rw[dt] at h;simp only at h;rw[dt] at hg;cases hb:(c.ev ρ).b
  ·simp[PE.ev,hg,hb,D.b_bool] at h
  ·simp[PE.ev,hg,hb,D.b_bool] at h;exact⟨rfl,h.symm⟩
def ei (C:Ctx)(S:St)(ρ:Env)(σ:Im)(hv:Nat→Value)(Φ:aQ)(dst:Nat)(a:Act)(w:World)(o:Oper)(r:Sh×List PI):Prop:=
 ∀ρ',PI.runs Φ r.2 ρ=some ρ'→∃v d,ρ'=ρ.setR dst d∧(execOp a.eval o).run C.P w=.ok (.value v) w∧aH C S ρ σ hv r.1 v d∧∀gs s,r.1≠.opt gs s
theorem ei.dat {o:Oper}{t:Ty}{e:PE}{v:Value}(hx:(execOp a.eval o).run C.P w=.ok (.value v) w)(hr:Rep C.cap σ t v (e.ev ρ)):
 ei C S ρ σ hv Φ dst a w o (.dat t,[.setR dst e]):=by
 intro ρ' h;exact⟨v,e.ev ρ,vu h,hx,hr,fun _ _ e=>by cases e⟩
theorem ei.datc (hg:holds gs ρ=true){o:Oper}{t:Ty}{c e:PE}(hx:(c.ev ρ).b=true→∃v,(execOp a.eval o).run C.P w=.ok (.value v) w∧Rep C.cap σ t v (e.ev ρ)):
 ei C S ρ σ hv Φ dst a w o (.dat t,[qG gs c,.setR dst e]):=by
 intro ρ' h;obtain⟨hb,he⟩:=R7 hg h;obtain⟨v,h1,h2⟩:=hx hb;exact⟨v,e.ev ρ,he,h1,h2,fun _ _ e=>by cases e⟩
theorem abw (h:Inv C S ρ σ own hv w0 σ0 A a w)(hC:CtxOK C σ0)(hg:holds gs ρ=true){x:Operand}{r:Sh×List PI}(hr:p6 C S gs dst x=some r){o:Oper}(ho:o.op=.move x∨o.op=.assign x):
 ei C S ρ σ hv Φ dst a w o r:=by
 have hx:(execOp a.eval o).run C.P w=.ok (.value (a.eval x)) w:=by rcases ho with ho|ho<;>simp[execOp,ho,Sem.run,pure]
 unfold p6 at hr;split at hr
 ·rename_i y hy;cases hr;exact .dat hx (cq h hC hg hy)
 ·split at hr
  ·rename_i t _;obtain⟨hs,hn⟩:=nB h hg t;split at hr
   ·cases hr
   ·cases hr
   ·cases hr;intro ρ' h';exact⟨_,_,vu h',hx,hs,hn⟩
  ·cases hr
theorem aoP (h:Inv C S ρ σ own hv w0 σ0 A a w)(hC:CtxOK C σ0)(hg:holds gs ρ=true){c x y:Operand}{r:Sh×List PI}(hr:AM C S gs dst c x y=some r){o:Oper}(ho:o.op=.pick c x y):
 ei C S ρ σ hv Φ dst a w o r:=by
 unfold AM at hr;split at hr
 ·rename_i t;split at hr
  ·rename_i es;obtain⟨hs,_⟩:=nB h hg t;rw[es] at hs;obtain⟨b,aS,bo⟩:=Rep.bool_inv hs;simp only[av] at hr;obtain⟨q1,h1,q2,h2,hr⟩:=hr;cases hb:Ty.beq q1.1 q2.1<;>simp only[hb,cond_true,cond_false] at hr
   ·cases hr
   ·cases hr;have e2:=Ty.beq_eq _ _ hb;have ak:(execOp a.eval o).run C.P w=.ok (.value (if b then a.eval x else a.eval y)) w:=by
     have:a.eval (.tmp t)=.bool b:=aS;simp[execOp,ho,this,asBool,Sem.run,pure,bind,Sem.bind]
    refine .dat ak ?_;show Rep C.cap σ q1.1 _ (bif (ρ.r t).b then q1.2.ev ρ else q2.2.ev ρ);have gr:(ρ.r t).b=b:=by rw[bo];rfl
    cases b with
    |true=>
     simp only[gr,cond_true,if_true];exact cq h hC (by simp only[holds,qu,gr];exact hg) h1
    |false=>
     simp only[gr,cond_false];rw[e2];exact cq h hC (by simp only[holds,qu,gr];exact hg) h2
  ·cases hr
 ·cases hr
theorem KP {op:BinOp}{T T':TypeId}{x y:Operand}{v v':Value}{o:Oper}(ho:o.op=.binOp op T x y T')(hv:a.eval x=v)(hv':a.eval y=v')(h1:∀u,v≠.agg u)(h2:v≠.nilIface):
 (execOp a.eval o).run C.P w=((binOp op T v v').bind fun r=>.pure (.value r)).run C.P w:=by
 have he:eqGuard op T x y v v'=.pure ():=by
  cases v<;>first|(exact absurd rfl h2)|(exact absurd rfl (h1 _))|(cases op<;>simp[eqGuard]<;>rfl)
 simp only[execOp,ho,hv,hv',he];rfl
theorem WA {P:Program}{cap:Nat→Option CSig}{σ:Im}{ρ:Env}{x y:PE}(w:World)(d:Nat){t:Ty}{T:TypeId}{v u:Value}{e:PE}(hk:mh P T t=true)(he:wz t x y=some e)(g1:Rep cap σ t v (x.ev ρ))(g2:Rep cap σ t u (y.ev ρ)):
 ∃b,e.ev ρ=.v (.bool b)∧(Op.equalIn (d+1) T v u).run P w=.ok b w:=by
 cases t with
 |int k=>
  obtain⟨n,v1,d1,_⟩:=g1.int_inv;obtain⟨m,v2,d2,_⟩:=g2.int_inv;simp only[wz,aU] at he;subst he;have hu:∃k',P.underlying T=some (.int k'):=by
   simp only[mh] at hk;split at hk
   ·exact⟨_,by assumption⟩
   ·cases hk
  obtain⟨k',hu⟩:=hu;exact⟨n==m,by simp only[PE.ev,d1,d2];rfl,by rw[v1,v2];exact run_equalIn_int w d T k k' n m hu⟩
 |bool=>
  obtain⟨n,v1,d1⟩:=g1.bool_inv;obtain⟨m,v2,d2⟩:=g2.bool_inv;simp only[wz,aU] at he;subst he;have hu:P.underlying T=some .bool:=by
   simp only[mh] at hk;split at hk
   ·assumption
   ·cases hk
  exact⟨n==m,by simp only[PE.ev,d1,d2];rfl,by rw[v1,v2];exact run_equalIn_bool' w d T n m hu⟩
 |str=>
  obtain⟨n,v1,d1,_⟩:=g1.str_inv;obtain⟨m,v2,d2,_⟩:=g2.str_inv;simp only[wz,aU] at he;subst he;have hu:P.underlying T=some .string:=by
   simp only[mh] at hk;split at hk
   ·assumption
   ·cases hk
  exact⟨n.toList==m.toList,by simp only[PE.ev,d1,d2];rfl,by rw[v1,v2];exact run_equalIn_string w d T n m hu⟩
 |_=>simp[wz] at he
theorem ag5 {P:Program}{cap:Nat→Option CSig}{σ:Im}{ρ:Env}{x y:PE}{X Y:List D}(w:World)(hx:x.ev ρ=.agg X)(hy:y.ev ρ=.agg Y){vs us:List Value}(b d:Nat):
 ∀(fs:List Field) (i:Nat) (ts:List Ty) (e:PE),wx P x y b fs i ts=some e→(∀j t,ts[j]?=some t→Rep cap σ t (vs.getD (i+j) undef) (X.getD (b+i+j) .none)∧Rep cap σ t (us.getD (i+j) undef) (Y.getD (b+i+j) .none))→
  i+ts.length≤vs.length→i+ts.length≤us.length→
  ∃b,e.ev ρ=.v (.bool b)∧(Op.eqFields (d+1) vs.toArray us.toArray fs).run P w=.ok b w:=by
 intro fs
 induction fs with
 |nil=>
  intro i ts e h _ _ _;cases ts with
  |nil=>simp only[wx,aU] at h;subst h;exact⟨true,rfl,rfl⟩
  |cons t ts=>simp[wx] at h
 |cons f fs ih=>
  intro i ts e h hr l1 l2;cases ts with
  |nil=>simp[wx] at h
  |cons t ts=>
   simp only[wx] at h;cases hc:((f.name != "_")&&Nat.beq f.offset i&&mh P f.type t&&P.plainKey f.type)<;>simp only[hc,cond_true,cond_false] at h
   ·cases h
   simp only[ao,bne_iff_ne,ne_eq] at hc;obtain⟨⟨⟨hn,ho⟩,hk⟩,hp⟩:=hc;have ho:=az ho;simp only[av,aA] at h;obtain⟨e1,gJ,r,l9,rfl⟩:=h
   obtain⟨b2,dk,DL⟩:=ih (i+1) ts r l9 (fun j t hj=>by
        have:=hr (j+1) t (by simpa using hj)
        rwa [show i+(j+1)=i+1+j by omega,show b+i+(j+1)=b+(i+1)+j by omega] at this) (by simp at l1;omega) (by simp at l2;omega)
   obtain⟨g1,g2⟩:=hr 0 t rfl;rw[iw,iw] at g1 g2;simp only[nI] at l1 l2;have uM:vs.toArray[f.offset]?=some (vs.getD i undef):=by rw[ho];simp[aJ,show i<vs.length by omega]
   have OP:us.toArray[f.offset]?=some (us.getD i undef):=by rw[ho];simp[aJ,show i<us.length by omega]
   have p1:=run_part_plain (P:=P) (w:=w) hp uM;have p2:=run_part_plain (P:=P) (w:=w) hp OP;have ex:(PE.cell x (b+i)).ev ρ=X.getD (b+i) .none:=by simp only[PE.ev,hx];rfl
   have ey:(PE.cell y (b+i)).ev ρ=Y.getD (b+i) .none:=by simp only[PE.ev,hy];rfl
   obtain⟨b1,gZ,oh⟩:=WA (P:=P) w d (ρ:=ρ) hk gJ (by rw[ex];exact g1) (by rw[ey];exact g2);refine⟨b1&&b2,by simp only[PE.ev,gZ,dk];rfl,?_⟩;simp only[Op.eqFields,if_pos hn,Sem.run_bind,p1,p2,oh,Result.andThen_ok];cases b1
   ·rfl
   ·simpa using DL
theorem ag4 {P:Program}{cap:Nat→Option CSig}{σ:Im}{ρ:Env}{x y:PE}{X Y:List D}(w:World)(hx:x.ev ρ=.agg X)(hy:y.ev ρ=.agg Y){vs us:List Value}(d:Nat):
 ∀(fs:List Field) (i:Nat) (ts:List Ty) (e:PE),wy P x y fs i ts=some e→(∀j t,ts[j]?=some t→Rep cap σ t (vs.getD (i+j) undef) (X.getD (i+j) .none)∧Rep cap σ t (us.getD (i+j) undef) (Y.getD (i+j) .none))→
  i+ts.length≤vs.length→i+ts.length≤us.length→
  ∃b,e.ev ρ=.v (.bool b)∧(Op.eqFields (d+2) vs.toArray us.toArray fs).run P w=.ok b w:=by
 intro fs
 induction fs with
 |nil=>
  intro i ts e h _ _ _;cases ts with
  |nil=>simp only[wy,aU] at h;subst h;exact⟨true,rfl,rfl⟩
  |cons t ts=>simp[wy] at h
 |cons f fs ih=>
  intro i ts e h hr l1 l2;unfold wy at h;split at h
  ·rename_i n aY;cases hb:Nat.ble n ts.length<;>simp only[hb,cond_true,cond_false] at h
   ·cases h
   have hn:=jI hb;simp only[av,aA] at h;obtain⟨e1,gJ,r,l9,rfl⟩:=h
   obtain⟨b2,dk,DL⟩:=ih (i+n) (ts.drop n) r l9 (fun j t hj=>by
        have:=hr (n+j) t (by rw[fS] at hj;exact hj)
        rwa [show i+(n+j)=i+n+j by omega] at this) (by rw[Lr];omega) (by rw[Lr];omega)
   unfold YB at aY;split at aY
   case h_2=>cases aY
   rename_i fs' hu;cases hc:((f.name != "_")&&Nat.beq f.offset i&& !P.stoodInHeld f.type)<;>simp only[hc,cond_true,cond_false] at aY
   ·cases aY
   cases aY;simp only[ao,bne_iff_ne,ne_eq,gS] at hc;obtain⟨⟨ay,ho⟩,bM⟩:=hc;have ho:=az ho;have jO:P.underlying f.type=some (.struct (P.fieldsOf f.type)):=by unfold Program.fieldsOf;rw[hu]
   obtain⟨inf,hi⟩:=info_of_underlying hu
   have l8:∀zs:List Value,(part f.type zs.toArray f.offset).run P w=.ok (.agg ((zs.drop i).take (P.cellsOf f.type)).toArray) w:=fun zs=>by
        have:(zs.toArray.extract f.offset (f.offset+P.cellsOf f.type))=((zs.drop i).take (P.cellsOf f.type)).toArray:=by
         rw[ho];apply rO;rw[Array.toList_extract];simp[List.extract]
        rw[←this];simp[part,isAgg,run_underlying hu,run_sizeOf w hi]
   obtain⟨b1,gZ,oh⟩:=ag5 (P:=P) (cap:=cap) (σ:=σ) (ρ:=ρ) w hx hy (vs:=(vs.drop i).take (P.cellsOf f.type)) (us:=(us.drop i).take (P.cellsOf f.type)) i d _ 0 (ts.take (P.cellsOf f.type)) e1 gJ (fun j t hj=>by
        rw[eW] at hj;split at hj
        ·rename_i wO;have:=hr j t hj;simpa [aJ,eW,wO,fS] using this
        ·cases hj) (by simp only[dE,Lr];omega) (by simp only[dE,Lr];omega)
   have ak8:(Op.equalIn (d+2) f.type (.agg ((vs.drop i).take (P.cellsOf f.type)).toArray) (.agg ((us.drop i).take (P.cellsOf f.type)).toArray)).run P w=.ok b1 w:=by
        rw[run_equalIn_struct w (d+1) f.type _ _ jO bM];exact oh
   refine⟨b1&&b2,by simp only[PE.ev,gZ,dk];rfl,?_⟩;simp only[Op.eqFields,if_pos ay,Sem.run_bind,l8,ak8,Result.andThen_ok];cases b1
   ·rfl
   ·simpa using DL
  ·split at h
   ·rename_i t ts;cases hc:((f.name != "_")&&Nat.beq f.offset i&&mh P f.type t&&P.plainKey f.type)<;>simp only[hc,cond_true,cond_false] at h
    ·cases h
    simp only[ao,bne_iff_ne,ne_eq] at hc;obtain⟨⟨⟨hn,ho⟩,hk⟩,hp⟩:=hc;have ho:=az ho;simp only[av,aA] at h;obtain⟨e1,gJ,r,l9,rfl⟩:=h
    obtain⟨b2,dk,DL⟩:=ih (i+1) ts r l9 (fun j t hj=>by
     have:=hr (j+1) t (by simpa using hj)
     rwa [show i+(j+1)=i+1+j by omega] at this) (by simp at l1;omega) (by simp at l2;omega)
    obtain⟨g1,g2⟩:=hr 0 t rfl;rw[iw] at g1 g2;simp only[nI] at l1 l2;have uM:vs.toArray[f.offset]?=some (vs.getD i undef):=by rw[ho];simp[aJ,show i<vs.length by omega]
    have OP:us.toArray[f.offset]?=some (us.getD i undef):=by rw[ho];simp[aJ,show i<us.length by omega]
    have p1:=run_part_plain (P:=P) (w:=w) hp uM;have p2:=run_part_plain (P:=P) (w:=w) hp OP;have ex:(PE.cell x i).ev ρ=X.getD i .none:=by simp only[PE.ev,hx];rfl
    have ey:(PE.cell y i).ev ρ=Y.getD i .none:=by simp only[PE.ev,hy];rfl
    obtain⟨b1,gZ,oh⟩:=WA (P:=P) w (d+1) (ρ:=ρ) hk gJ (by rw[ex];exact g1) (by rw[ey];exact g2);refine⟨b1&&b2,by simp only[PE.ev,gZ,dk];rfl,?_⟩;simp only[Op.eqFields,if_pos hn,Sem.run_bind,p1,p2,oh,Result.andThen_ok];cases b1
    ·rfl
    ·simpa using DL
   ·cases h
theorem aoq (h:Inv C S ρ σ own hv w0 σ0 A a w)(hC:CtxOK C σ0)(hg:holds gs ρ=true){op:BinOp}{T T':TypeId}{x y:Operand}{r:Sh×List PI}(hr:AA C S gs dst op T x y=some r){o:Oper}(ho:o.op=.binOp op T x y T'):
 ei C S ρ σ hv Φ dst a w o r:=by
 simp only[AA,av] at hr;obtain⟨p,hp,q,hq,hr⟩:=hr;have aT:=cq h hC hg hp;have dJ:=cq h hC hg hq;split at hr
 ·rename_i k k' e1 e2;rw[e1] at aT;rw[e2] at dJ;obtain⟨n,aS,bo,b1,b2⟩:=aT.int_inv;obtain⟨m,ia,dI,b3,b4⟩:=dJ.int_inv;have ak:=KP (C:=C) (w:=w) ho aS ia (by intro u e;cases e) (by intro e;cases e);cases gM:(op==.shl||op==.shr)<;>simp only[gM,cond_true,cond_false] at hr
  ·cases jP:(k==k')<;>simp only[jP,cond_true,cond_false] at hr
   ·cases hr
   ·have NT:k=k':=by simpa using jP
    subst NT;cases Ow:(op==.quo||op==.rem)<;>simp only[Ow,cond_true,cond_false] at hr
    ·cases har:Gc op<;>simp only[har,cond_true,cond_false] at hr
     ·cases nX:zt op<;>simp only[nX,cond_true,cond_false] at hr
      ·cases hr
      ·cases hr;refine .dat (v:=.bool (je op n m)) ?_ ?_
       ·rw[ak];cases op<;>simp_all [zt]<;>simp[binOp,Op.intCmp,je,Sem.run,pure,Sem.bind]
       ·simp only[PE.ev,bo,dI,D.i_int];exact .bool _
     ·cases hr;refine .dat (v:=.int k (cP op k n m)) ?_ ?_
      ·rw[ak];cases op<;>simp_all [Gc]<;>simp[binOp,Op.intArith,Op.intBits,cP,Sem.run,pure,Sem.bind]
      ·simp only[PE.ev,bo,dI,D.i_int];refine .int _ _ ?_ ?_<;>(cases op<;>simp_all [Gc]<;>first|exact(rM _ _).1|exact(rM _ _).2)
    ·cases hr;refine .datc hg fun hc=>⟨.int k (cP op k n m),?_,?_⟩
     ·have ay:m≠0:=by simpa [PE.ev,dI,D.i_int,D.b_bool,je,D.int] using hc
      rw[ak];rcases(by simpa using Ow:op=.quo∨op=.rem) with rfl|rfl<;>simp[binOp,Op.intDiv,cP,Sem.run,pure,Sem.bind,ay]
     ·simp only[PE.ev,bo,dI,D.i_int];cases op<;>simp_all
      ·exact .int _ _ (rM _ _).1 (rM _ _).2
      ·exact .int _ _ (adN k ⟨b1,b2⟩).1 (adN k ⟨b1,b2⟩).2
  ·cases hr;refine .datc hg fun hc=>⟨.int k (cP op k n m),?_,?_⟩
   ·have ay:¬m<0:=by
     have:0≤m:=by simpa [PE.ev,dI,D.i_int,D.b_bool,je,D.int] using hc
     omega
    rw[ak];rcases(by simpa using gM:op=.shl∨op=.shr) with rfl|rfl<;>simp[binOp,Op.shift,cP,Sem.run,pure,Sem.bind,ay]
   ·simp only[PE.ev,bo,dI,D.i_int];cases op<;>simp_all
    ·exact .int _ _ (rM _ _).1 (rM _ _).2
    ·exact .int _ _ (WG k _ ⟨b1,b2⟩).1 (WG k _ ⟨b1,b2⟩).2
 ·rename_i e1 e2;rw[e1] at aT;rw[e2] at dJ;obtain⟨n,aS,bo⟩:=aT.bool_inv;obtain⟨m,ia,dI⟩:=dJ.bool_inv;have ak:=KP (C:=C) (w:=w) ho aS ia (by intro u e;cases e) (by intro e;cases e);cases cd:((op==.eql||op==.neq)&&O5 C.P T)<;>simp only[cd,cond_true,cond_false] at hr
  ·cases hr
  ·cases hr;simp only[ao] at cd;obtain⟨cd,hT⟩:=cd;have zP:C.P.underlying T=some .bool:=by
        unfold O5 at hT;split at hT
        ·assumption
        ·cases hT
   have heq:(Op.equal T (.bool n) (.bool m)).run C.P w=.ok (n==m) w:=by
        have:∀d,(Op.equalIn (d+1) T (.bool n) (.bool m)).run C.P w=.ok (n==m) w:=fun d=>by simp[Op.equalIn,run_underlying zP]
        exact this 9999
   refine .dat (v:=.bool (zr op n m)) ?_ ?_
   ·rw[ak];rcases(by simpa using cd:op=.eql∨op=.neq) with rfl|rfl<;>simp[binOp,zr,heq,Sem.run_bind']
   ·simp only[PE.ev,bo,dI,D.b_bool];exact .bool _
 ·rename_i e1 e2;rw[e1] at aT;rw[e2] at dJ;obtain⟨n,aS,bo,_⟩:=aT.str_inv;obtain⟨m,ia,dI,_⟩:=dJ.str_inv;have ak:=KP (C:=C) (w:=w) ho aS ia (by intro u e;cases e) (by intro e;cases e);cases cd:zt op<;>simp only[cd,cond_true,cond_false] at hr
  ·cases hr
  ·cases hr;refine .dat (v:=.bool (zu op n m)) ?_ ?_
   ·rw[ak];cases op<;>simp_all [zt]<;>simp[binOp,Op.stringOp,zu,Sem.run,pure,Sem.bind]
   ·simp only[PE.ev,bo,dI,D.s_str];exact .bool _
 ·rename_i e e' e1 e2;rw[e1] at aT;rw[e2] at dJ;split at hr
  case h_2=>cases hr
  rename_i E hT;cases cd:(op==.eql||op==.neq)<;>simp only[cd,cond_true,cond_false] at hr
  ·cases hr
  cases hr;obtain⟨n,xs,aS,bo,akB⟩:∃(n:Bool) (xs:List D),(n=true∧a.eval x=.slice none 0 0∨n=false∧∃k o m c,a.eval x=.slice (some ⟨k,o,none⟩) m c)∧p.2.ev ρ=.list xs∧n=decide (xs=[]):=by
   generalize a.eval x=vv at aT;generalize p.2.ev ρ=dd at aT;cases aT with
   |nsl0=>exact⟨true,[],.inl ⟨rfl,rfl⟩,rfl,rfl⟩
   |nsl _ k o m c xs h hx=>exact⟨false,xs,.inr ⟨rfl,k,o,m,c,rfl⟩,rfl,by simp[hx]⟩
  have ia:a.eval y=.slice none 0 0:=by
   generalize a.eval y=vv at dJ;generalize q.2.ev ρ=dd at dJ;cases dJ;rfl
  have heq:(Op.equal T (a.eval x) (a.eval y)).run C.P w=.ok n w:=by
   have:∀d,(Op.equalIn (d+1) T (a.eval x) (a.eval y)).run C.P w=.ok n w:=fun d=>by
        rw[ia];rcases aS with⟨rfl,h1⟩|⟨rfl,k,o,m,c,h1⟩<;>rw[h1]<;>simp[Op.equalIn,run_underlying hT]
   exact this 9999
  have ak:=KP (C:=C) (w:=w) ho rfl rfl (by
   intro u e;rcases aS with⟨_,h1⟩|⟨_,k,o,m,c,h1⟩<;>rw[h1] at e<;>cases e) (by
   intro e;rcases aS with⟨_,h1⟩|⟨_,k,o,m,c,h1⟩<;>rw[h1] at e<;>cases e)
  refine .dat (v:=.bool (je op xs.length 0)) ?_ ?_
  ·have ay:∀(y:D) (ys:List D),¬((ys.length:Int)+1=0):=fun y ys=>by omega
   rw[ak,ia];rw[ia] at heq;rcases aS with⟨_,h1⟩|⟨_,k,o,m,c,h1⟩<;>rw[h1] at heq ⊢<;>rcases(by simpa using cd:op=.eql∨op=.neq) with rfl|rfl<;>cases xs<;>simp[binOp,heq,Sem.run_bind',je,akB]<;>(try omega)
  ·simp only[PE.ev,bo,D.l_list,D.int,D.i_int];exact .bool _
 ·rename_i ts us e1 e2;rw[e1] at aT;rw[e2] at dJ;cases cd:((op==.eql||op==.neq)&&Ty.beqs ts us&&M3 C.P T)<;>simp only[cd,cond_true,cond_false] at hr
  ·cases hr
  simp only[ao] at cd;obtain⟨⟨cd,IY⟩,bM⟩:=cd;have:=Ty.beqs_eq _ _ IY;subst this;simp only[M3,ao,gS] at bM;obtain⟨⟨Yl,alm⟩,aln⟩:=bM;have jO:C.P.underlying T=some (.struct (C.P.fieldsOf T)):=by
   unfold Program.fieldsOf;split at Yl
   ·rename_i fs hu;rw[hu]
   ·cases Yl
  simp only[aA] at hr;obtain⟨e,he,rfl⟩:=hr;obtain⟨vs,ds,aS,bo,l1,l2,aO,_⟩:=aT.agg_inv;obtain⟨BA,ds',ia,dI,l3,l4,ki,_⟩:=dJ.agg_inv
  obtain⟨b,hb,ak⟩:=ag4 (P:=C.P) (cap:=C.cap) (σ:=σ) (ρ:=ρ) w bo dI (vs:=vs) (us:=BA) 9997 _ 0 ts e he (fun j t hj=>by
   rw[gF];exact⟨aO j t hj,ki j t hj⟩) (by omega) (by omega)
  have heq:(Op.equalIn 10000 T (.agg vs.toArray) (.agg BA.toArray)).run C.P w=.ok b w:=by
   rw[run_equalIn_struct w 9999 T _ _ jO alm];exact ak
  have kj:=run_eqGuard_agg (P:=C.P) (w:=w) op T x y vs.toArray BA.toArray aln
  have XB:(execOp a.eval o).run C.P w=((binOp op T (.agg vs.toArray) (.agg BA.toArray)).run C.P w).andThen fun r w'=>.ok (.value r) w':=by
   simp only[execOp,ho,aS,ia,Sem.run_bind,kj,Result.andThen_ok];rfl
  rcases(by simpa using cd:op=.eql∨op=.neq) with rfl|rfl
  ·refine .dat (v:=.bool b) ?_ ?_
   ·rw[XB,run_eql_struct,heq];rfl
   ·show Rep _ _ .bool _ (PE.ev ρ e);rw[hb];exact .bool _
  ·refine .dat (v:=.bool (!b)) ?_ ?_
   ·rw[XB,run_neq_struct,heq];rfl
   ·show Rep _ _ .bool _ (PE.ev ρ (.nt e));simp only[PE.ev,hb];exact .bool _
 ·cases hr
theorem aoU (h:Inv C S ρ σ own hv w0 σ0 A a w)(hC:CtxOK C σ0)(hg:holds gs ρ=true){op:UnOp}{T:TypeId}{x:Operand}{r:Sh×List PI}(hr:AO C S gs dst op x=some r){o:Oper}(ho:o.op=.unOp op T x):
 ei C S ρ σ hv Φ dst a w o r:=by
 simp only[AO,av] at hr;obtain⟨p,hp,hr⟩:=hr;have aT:=cq h hC hg hp;split at hr
 ·rename_i k e1;rw[e1] at aT;obtain⟨n,aS,bo,b1,b2⟩:=aT.int_inv;cases hr;refine .dat (v:=.int k (cP .sub k 0 n)) ?_ ?_
  ·simp[execOp,ho,aS,Op.unary,Op.intArith,cP,Sem.run,pure,bind,Sem.bind]
  ·simp only[PE.ev,bo,D.i_int];exact .int _ _ (rM _ _).1 (rM _ _).2
 ·rename_i e1;rw[e1] at aT;obtain⟨n,aS,bo⟩:=aT.bool_inv;cases hr;refine .dat (v:=.bool (!n)) ?_ ?_
  ·simp[execOp,ho,aS,Op.unary,Sem.run,pure,bind,Sem.bind]
  ·simp only[PE.ev,bo,D.b_bool];exact .bool _
 ·cases hr
theorem aou (h:Inv C S ρ σ own hv w0 σ0 A a w)(hC:CtxOK C σ0)(hg:holds gs ρ=true){s d:TypeId}{x:Operand}{r:Sh×List PI}(hr:AD C S gs dst s d x=some r){o:Oper}(ho:o.op=.convert s d x):
 ei C S ρ σ hv Φ dst a w o r:=by
 simp only[AD,av] at hr;obtain⟨p,hp,hr⟩:=hr;have aT:=cq h hC hg hp;split at hr
 ·rename_i k0 k k1 u1 u2 e1;rw[e1] at aT;obtain⟨n,aS,bo,b1,b2⟩:=aT.int_inv;cases hr;refine .dat (v:=.int k (k.wrap n)) ?_ ?_
  ·simp[execOp,ho,aS,convert,run_underlying u1,run_underlying u2,Conv.intToInt]
  ·simp only[PE.ev,bo,D.i_int];exact .int _ _ (rM _ _).1 (rM _ _).2
 ·rename_i u1 u2 e1;rw[e1] at aT;obtain⟨n,aS,bo,b1⟩:=aT.str_inv;cases hr;refine .dat (v:=.string n) ?_ ?_
  ·simp[execOp,ho,aS,convert,run_underlying u1,run_underlying u2]
  ·rw[bo];exact .str _ b1
 ·cases hr
end
end Cx
namespace Cx
open Go Go.RowKit
theorem uS {n:Nat}(h:n≤maxLen):IntKind.i64.min≤(n:Int)∧(n:Int)≤IntKind.i64.max:=by
 simp only[maxLen] at h;simp only[IntKind.min,IntKind.max,IntKind.signed,IntKind.bits];simp;omega
section
variable {C:Ctx} {S:St} {ρ:Env} {σ:Im} {own:Nat→Option Nat} {hv:Nat→Value} {w0:World} {σ0:Base} {A:Nat→Prop} {a:Act} {w:World} {gs:List (Nat×Bool)} {Φ:aQ} {dst:Nat}
def LF (C:Ctx)(σ:Im)(w:World)(B:Nat)(t:Ty)(v:Value)(d:D):Prop:=
 Rep C.cap σ t v d∨
 (∃T e cells xs,t=.slice e.rol∧d=.list xs∧w.ownsRow B T e.size v xs.length cells∧eh C.cap σ e cells xs)∨
 (∃k arr clock es kt et,t=.map kt et∧v=.map (some k)∧w.heap[k]?=some (.map arr clock)∧d=.map es∧es.length=arr.size∧es.length≤maxLen∧
    ∀(i:Nat) (e:MapEntry) (p:D×D),arr[i]?=some e→es[i]?=some p→Rep C.cap σ kt e.key p.1∧Rep C.cap σ et e.val p.2)
theorem UZ (h:Inv C S ρ σ own hv w0 σ0 A a w)(hC:CtxOK C σ0)(hg:holds gs ρ=true){x:Operand}{r:Ty×PE}(hu:view C S gs x=some r):LF C σ w w0.heap.size r.1 (a.eval x) (r.2.ev ρ):=by
 unfold view at hu;split at hu
 ·rename_i r' DH;cases hu;exact .inl (cq h hC hg DH)
 ·split at hu
  ·rename_i t _;obtain⟨hs,_⟩:=nB h hg t;split at hu
   ·rename_i j ver e;rw[e] at hs;cases hb:Nat.beq ver (S.ver j)<;>simp only[hb,cond_true,cond_false] at hu
    ·cases hu
    ·have dQ:=az hb;have ho:=h.objs j;have cu:a.eval (.tmp t)=hv j:=hs.2 dQ;split at hu
     ·rename_i T e eo;rw[eo] at ho;cases hu;obtain⟨cells,xs,h1,h2,h3,h4⟩:=ho;rw[cu];exact .inr (.inl ⟨T,e,cells,xs,rfl,h1,h2,h3⟩)
     ·rename_i kt et eo;rw[eo] at ho;cases hu;obtain⟨k,arr,clock,es,h1,h2,h3,h4,h5,⟨hx,_⟩,h6⟩:=ho;rw[cu];exact .inr (.inr ⟨k,arr,clock,es,kt,et,rfl,h1,h3,h4,h5,hx,h6⟩)
     ·cases hu
   ·cases hu
  ·cases hu
theorem xD {w:World}{B e size n:Nat}{v:Value}{cells:List Value}(h:w.ownsRow B e size v n cells):∃b c,v=.slice b n c∧n≤maxLen∧n≤c:=by
 rcases h.2 with⟨rfl,rfl⟩|⟨g,cap,cur,rfl,h1,h2,h3,h4,h5⟩
 ·exact⟨none,0,rfl,by decide,bk _⟩
 ·exact⟨_,cap,rfl,iy h3 h4,h3⟩
theorem R5 {b:Builtin}{args:Array Operand}{ts:Array TypeId}{o:Oper}(ho:o.op=.call {callee:=.builtin b,args:=args,argTypes:=ts}):
 ∃cs,(execOp a.eval o).run C.P w=(builtin b ts o.type cs (args.map a.eval)).run C.P w:=
 ⟨_,by simp only[execOp,ho,resolve,invoke];rfl⟩
theorem aoH (h:Inv C S ρ σ own hv w0 σ0 A a w)(hC:CtxOK C σ0)(hg:holds gs ρ=true){T:TypeId}{x:Operand}{r:Sh×List PI}(hr:AJ C S gs dst T x=some r){o:Oper}
 (ho:o.op=.call {callee:=.builtin .len,args:=#[x],argTypes:=#[T]}):ei C S ρ σ hv Φ dst a w o r:=by
 simp only[AJ,av] at hr;obtain⟨p,hp,hr⟩:=hr;have aT:=UZ h hC hg hp;obtain⟨cs,ak⟩:=R5 (C:=C) (w:=w) (a:=a) ho;split at hr
 ·rename_i e T' e1 e2;rw[e1] at aT;cases hr;have hx:∃b n c xs,a.eval x=.slice b n c∧p.2.ev ρ=.list xs∧xs.length=n∧n≤maxLen:=by
   rcases aT with aT|⟨T,e,cells,xs,ht,hd,cm,jk⟩|⟨k,arr,clock,es,kt,et,ht,_⟩
   ·obtain⟨xs,hd,⟨⟨p0,aS⟩,rfl⟩|⟨k,o,c,aS,h1,h2,_⟩⟩:=aT.slice_inv
    ·exact⟨p0,0,0,[],aS,hd,rfl,by decide⟩
    ·exact⟨_,_,c,xs,aS,hd,rfl,by omega⟩
   ·obtain⟨b,c,aS,h1,_⟩:=xD cm;exact⟨b,_,c,xs,aS,hd,rfl,h1⟩
   ·cases ht
  obtain⟨b,n,c,xs,aS,hd,hl,hm⟩:=hx;refine .dat (v:=.int .i64 n) ?_ ?_
  ·rw[ak];simp[builtin,Builtin.len_,aS,run_underlying e2,goInt]
  ·simp only[PE.ev,hd,D.l_list,hl];exact .int _ _ (uS hm).1 (uS hm).2
 ·rename_i e T' e1 e2;rw[e1] at aT;cases hr;rcases aT with aT|⟨T,e,cells,xs,ht,_⟩|⟨k,arr,clock,es,kt,et,ht,_⟩
  ·generalize xb:a.eval x=v at aT;generalize C8:p.2.ev ρ=d at aT;cases aT;refine .dat (v:=.int .i64 0) ?_ ?_
   ·rw[ak];simp[builtin,Builtin.len_,xb,run_underlying e2,goInt]
   ·simp only[PE.ev,C8,D.l_list];exact .int _ _ (by decide) (by decide)
  ·cases ht
  ·cases ht
 ·rename_i e1 e2;rw[e1] at aT;cases hr;rcases aT with aT|⟨T,e,cells,xs,ht,_⟩|⟨k,arr,clock,es,kt,et,ht,_⟩
  ·obtain⟨n,aS,bo,hm⟩:=aT.str_inv;refine .dat (v:=.int .i64 n.size) ?_ ?_
   ·rw[ak];simp[builtin,Builtin.len_,aS,run_underlying e2,goInt]
   ·simp only[PE.ev,bo,D.s_str];exact .int _ _ (uS hm).1 (uS hm).2
  ·cases ht
  ·cases ht
 ·rename_i k0 e0 a0 b0 e1 e2;rw[e1] at aT;cases hr;rcases aT with aT|⟨T,e,cells,xs,ht,_⟩|⟨k,arr,clock,es,kt,et,ht,aS,hb,bo,hl,hx,_⟩
  ·generalize xb:a.eval x=v at aT;generalize C8:p.2.ev ρ=d at aT;cases aT with
   |mapnil=>
    refine .dat (v:=.int .i64 0) ?_ ?_
    ·rw[ak];simp[builtin,Builtin.len_,xb,run_underlying e2,goInt]
    ·simp only[PE.ev,C8,D.m];exact .int _ _ (by decide) (by decide)
   |map kt et r jD es hm hl hx hk _=>
    obtain⟨_,arr,clock,hb,jm⟩:=(h.ok.m _ _ hm).resolve_right (fun e=>D8 hl hk e.1);have hn:arr.size=es.length:=by rw[hl,←jm];simp[entriesOf]
    refine .dat (v:=.int .i64 arr.size) ?_ ?_
    ·rw[ak];simp[builtin,Builtin.len_,xb,run_underlying e2,goInt,getObj,Sem.run,hb]
    ·simp only[PE.ev,C8,D.m,hn];exact .int _ _ (uS hx).1 (uS hx).2
  ·cases ht
  ·refine .dat (v:=.int .i64 arr.size) ?_ ?_
   ·rw[ak];simp[builtin,Builtin.len_,aS,run_underlying e2,goInt,getObj,Sem.run,hb]
   ·simp only[PE.ev,bo,D.m,hl];exact .int _ _ (uS (hl▸hx)).1 (uS (hl▸hx)).2
 ·cases hr
theorem abu (h:Inv C S ρ σ own hv w0 σ0 A a w)(hC:CtxOK C σ0)(hg:holds gs ρ=true){mx:Bool}{x y:Operand}{ts:Array TypeId}{r:Sh×List PI}(hr:xz C S gs dst mx x y=some r){o:Oper}
 (ho:o.op=.call {callee:=.builtin (bif mx then .max else .min),args:=#[x,y],argTypes:=ts}):ei C S ρ σ hv Φ dst a w o r:=by
 simp only[xz,av] at hr;obtain⟨p,hp,q,hq,hr⟩:=hr;have aT:=cq h hC hg hp;have dJ:=cq h hC hg hq;obtain⟨cs,ak⟩:=R5 (C:=C) (w:=w) (a:=a) ho;split at hr
 ·rename_i k k' e1 e2;rw[e1] at aT;rw[e2] at dJ;obtain⟨n,aS,bo,b1,b2⟩:=aT.int_inv;obtain⟨m,ia,dI,b3,b4⟩:=dJ.int_inv;cases jP:(k==k')<;>simp only[jP,cond_true,cond_false] at hr
  ·cases hr
  ·have NT:k=k':=by simpa using jP
   subst NT;cases hr;cases mx with
   |true=>
    refine .dat (v:=.int k (if m>n then m else n)) ?_ ?_
    ·rw[ak];simp[builtin,Builtin.max_,Builtin.max2,aS,ia]
    ·simp only[cond_true,PE.ev,bo,dI,D.i_int];by_cases ah:m>n<;>simp[ah]<;>constructor<;>assumption
   |false=>
    refine .dat (v:=.int k (if m<n then m else n)) ?_ ?_
    ·rw[ak];simp[builtin,Builtin.min_,Builtin.min2,aS,ia]
    ·simp only[cond_false,PE.ev,bo,dI,D.i_int];by_cases ah:m<n<;>simp[ah]<;>constructor<;>assumption
 ·cases hr
theorem aow (h:Inv C S ρ σ own hv w0 σ0 A a w)(hC:CtxOK C σ0)(hg:holds gs ρ=true){x:Operand}{i:Nat}{r:Sh×List PI}(hr:AE C S gs dst x i=some r){o:Oper}(ho:o.op=.extract x i):
 ei C S ρ σ hv Φ dst a w o r:=by
 simp only[AE,av] at hr;obtain⟨p,hp,hr⟩:=hr;have aT:=cq h hC hg hp;split at hr
 ·rename_i ts e1;rw[e1] at aT;simp only[aA] at hr;obtain⟨t,ht,rfl⟩:=hr;obtain⟨vs,ds,aS,bo,l1,l2,aO⟩:=aT.tup_inv;have hi:i<vs.length:=by rw[l1];exact(eC.1 ht).1
  refine .dat (v:=vs.getD i undef) ?_ ?_
  ·obtain⟨u,hu⟩:∃u,vs[i]?=some u:=⟨_,bA hi⟩
   have kj:vs.getD i undef=u:=by rw[aJ,hu];rfl
   rw[kj];simp[execOp,ho,aS,Instr.extract,hu]
  ·simp only[PE.ev,bo];exact aO i t ht
 ·cases hr
end
end Cx
namespace Cx
open Go Go.RowKit
theorem uQ {P:Program}{T:TypeId}{ag:Bool}(h:pV P T=some ag)(w:World):(isAgg T).run P w=.ok ag w:=by
 unfold pV at h;split at h
 ·rename_i fs hu;cases h;simp[isAgg,run_underlying hu]
 ·rename_i n e hu;cases h;simp[isAgg,run_underlying hu]
 ·rename_i d h1 h2 hu;cases h;cases d<;>simp_all [isAgg,run_underlying hu]
 ·cases h
theorem se (k o n:Nat):(⟨k,o,none⟩:Addr).add n=⟨k,o+n,none⟩:=by
 unfold Addr.add;split<;>simp_all
theorem KQ {P:Program}{T:TypeId}{inf:TypeInfo}{ag:Bool}{w:World}{k o:Nat}{cs:List Value}(hi:P.info? T=some inf)(ha:pV P T=some ag)(hl:cs.length=inf.size)
 (h1:ag=false→cs.length=1) (hc:∀j u,cs[j]?=some u→w.cell? ⟨k,o+j,none⟩=some u):(loadVar T ⟨k,o,none⟩).run P w=.ok (rowOf ag cs) w:=by
 cases ag with
 |true=>
  have:=run_loadCells_list (P:=P) w ⟨k,o,none⟩ cs (fun j v hv=>by rw[se];exact hc j v hv);rw[hl] at this;simp[loadVar,uQ ha,Go.sizeOf,run_typeInfo w hi,this,rowOf]
 |false=>
  obtain⟨u,hu⟩:∃u,cs=[u]:=by
   have:=h1 rfl
   match cs,this with
   |[u],_=>exact⟨u,rfl⟩
  subst hu;have h0:=hc 0 u rfl;simp only[iw] at h0;simp[loadVar,uQ ha,rowOf,run_load,h0]
section
variable {C:Ctx} {S:St} {ρ:Env} {σ:Im} {own:Nat→Option Nat} {hv:Nat→Value} {w0:World} {σ0:Base} {A:Nat→Prop} {a:Act} {w:World} {gs:List (Nat×Bool)} {Φ:aQ} {dst:Nat}
theorem vt {o:Oper}{T:TypeId}{x:Operand}{v:Value}{k off:Nat}(ho:o.op=.load T x)(hx:a.eval x=.pointer (some ⟨k,off,none⟩))(hl:(loadVar T ⟨k,off,none⟩).run C.P w=.ok v w):
 (execOp a.eval o).run C.P w=.ok (.value v) w:=by
 simp[execOp,ho,Instr.loadAt,hx,Instr.sureAddr,hl]
theorem sE {α:Type}{l:List α}{i:Nat}{x d:α}(h:l[i]?=some x):l.getD i d=x:=by
 rw[aJ,h];rfl
theorem JI {cap:Nat→Option CSig}{ts:List Ty}{vs:List Value}{ds:List D}{ag:Bool}{n off:Nat}{ty:Ty}(hp:vb ag n ts off=some ty)
 (h1:vs.length=ts.length) (h2:ds.length=ts.length) (hr:∀(i:Nat) (t:Ty),ts[i]?=some t→Rep cap σ t (vs.getD i undef) (ds.getD i .none)) (ho:∀(i:Nat) (t:Ty),ts[i]?=some t→t.one=true):
 Rep cap σ ty (rowOf ag ((vs.drop off).take n)) (bif ag then .agg ((ds.drop off).take n) else ds.getD off .none)∧((vs.drop off).take n).length=n∧(ag=false→n=1):=by
 unfold vb at hp;cases hle:Nat.ble (off+n) ts.length<;>simp only[hle,cond_true,cond_false] at hp
 ·cases hp
 ·have Dq:=jI hle;have hlen:((vs.drop off).take n).length=n:=by simp;omega
  cases ag with
  |true=>
   simp only[cond_true] at hp;cases hp;refine⟨?_,hlen,fun e=>by cases e⟩;simp only[rowOf,if_true,cond_true];refine .agg _ _ _ (by simp;omega) (by simp;omega) (fun i t hi=>?_) (fun i t hi=>?_)
   ·simp only[eW,fS] at hi;split at hi
    ·rename_i aY;have:=hr (off+i) t hi;simpa [aJ,eW,fS,aY] using this
    ·cases hi
   ·simp only[eW,fS] at hi;split at hi
    ·exact ho _ t hi
    ·cases hi
  |false=>
   simp only[cond_false] at hp;cases hn:Nat.beq n 1<;>simp only[hn,cond_true,cond_false] at hp
   ·cases hp
   ·have ly:=az hn;subst ly;refine⟨?_,hlen,fun _=>rfl⟩;have:=hr off ty hp;have ah:off<vs.length:=by omega
    simpa [rowOf,aJ,eW,fS] using this
theorem JH {ag:Bool}{n:Nat}{e:PE}{off:Nat}{ds:List D}(h:e.ev ρ=.agg ds):(AR ag n e off).ev ρ=bif ag then .agg ((ds.drop off).take n) else ds.getD off .none:=by
 cases ag<;>simp[AR,PE.ev,h,D.cells,D.c]
theorem Inv.cell (h:Inv C S ρ σ own hv w0 σ0 A a w){k o:Nat}{u:Value}(hc:σ.c k o=some u):w.cell? ⟨k,o,none⟩=some u:=h.ok.c _ _ _ hc
theorem Rep.rowOf {cap:Nat→Option CSig}{t:Ty}{v:Value}{d:D}(h:Rep cap σ t v d):v=Cx.rowOf t.rowT v.cells.toList:=by
 cases h<;>simp[Cx.rowOf,Ty.rowT,Value.cells]
theorem Rep.cells1 {cap:Nat→Option CSig}{t:Ty}{v:Value}{d:D}(h:Rep cap σ t v d)(ht:t.rowT=false):v.cells=#[v]:=by
 cases h<;>simp_all [Ty.rowT,Value.cells]
theorem aoJ (h:Inv C S ρ σ own hv w0 σ0 A a w){T:TypeId}{x:Operand}{inf:TypeInfo}{ag:Bool}(hi:C.P.info? T=some inf)(ha:pV C.P T=some ag){o:Oper}(ho:o.op=.load T x)
 {ty:Ty} {e:PE} (hr:Rep C.cap σ (.ref ty) (a.eval x) (e.ev ρ)) (hs:Nat.beq inf.size ty.size=true) (Ie:(ag==ty.rowT)=true):
 ei C S ρ σ hv Φ dst a w o (.dat ty,[.setR dst (.deref e)]):=by
 obtain⟨k,off,v,y,aS,bo,bW,iN⟩:=hr.ref_inv;have eI:=az hs;have C2:ag=ty.rowT:=by simpa using Ie
 have hz:=bW.size;have w5:=bW.rowOf;refine .dat (v:=v) (vt ho aS ?_) ?_
 ·rw[w5,←C2];refine KQ hi ha (by simp[hz,eI]) (fun e=>?_) (fun j u hu=>?_)
  ·subst e;simp[bW.cells1 C2.symm]
  ·exact h.cell (iN j u (by simpa using hu))
 ·simp only[PE.ev,bo,D.deref];exact bW
theorem Mx {w:World}{k:Nat}{cs:Array Value}{T:TypeId}{fr:Nat×Nat}(hb:w.heap[k]?=some (.cells cs T fr)){i:Nat}(hi:i<cs.size):w.cell? ⟨k,i,none⟩=some (cs.getD i undef):=by
 simp[World.cell?,hb,dU,fB hi]
theorem zL (cs:Array Value)(i:Nat):cs.toList.getD i undef=cs.getD i undef:=by
 simp[aJ,dU]
theorem VF {cs:Array Value}{ds:List D}:∀(shs:List Sh) (i:Nat) (l:List AgC),tU S shs=some l→(∀m s,shs[m]?=some s→aH C S ρ σ hv s (cs.getD (i+m) undef) (ds.getD (i+m) .none))→
 l.length=shs.length∧∀(m:Nat) (c:AgC),l[m]?=some c→tJ C S σ hv c (cs.getD (i+m) undef) (ds.getD (i+m) .none)
 |[],i,l,hl,_=>by simp only[tU,aU] at hl;subst hl;exact⟨rfl,fun m c hm=>by simp at hm⟩
 |s::r,i,l,hl,aO=>by
  simp only[tU,av] at hl;obtain⟨x,hx,hl⟩:=hl
  obtain⟨g1,g3⟩:=VF r (i+1) x hx fun m s hm=>by
   have:=aO (m+1) s (by simpa using hm)
   rwa [show i+(m+1)=i+1+m by omega] at this
  have h0:=aO 0 s rfl;rw[iw] at h0;split at hl
  ·rename_i t;cases dB:t.one<;>simp only[dB,cond_true,cond_false] at hl
   ·cases hl
   cases hl;refine⟨by simp[g1],fun m c hm=>?_⟩;cases m with
   |zero=>simp at hm;subst hm;exact⟨dB,h0⟩
   |succ m=>simp at hm;have:=g3 m c hm;rwa [show i+1+m=i+(m+1) by omega] at this
  ·rename_i j ver;cases hb:Nat.beq ver (S.ver j)<;>simp only[hb,cond_true,cond_false] at hl
   ·cases hl
   cases hl;refine⟨by simp[g1],fun m c hm=>?_⟩;cases m with
   |zero=>simp at hm;subst hm;exact h0
   |succ m=>simp at hm;have:=g3 m c hm;rwa [show i+1+m=i+(m+1) by omega] at this
  ·cases hl
theorem aeA {j off n len:Nat}{ds:List D}(h:ρ.o j=.agg ds)(hl:ds.length=len):(LK j off n len).ev ρ=.agg ((ds.drop off).take n):=by
 unfold LK;cases hb:(Nat.beq off 0&&Nat.beq n len)
 ·simp only[cond_false,PE.ev,h];rfl
 ·simp only[ao] at hb;obtain rfl:=az hb.1;obtain rfl:=az hb.2;simp only[cond_true,PE.ev,h,List.drop_zero,←hl,List.take_length]
theorem Ec (h:Inv C S ρ σ own hv w0 σ0 A a w)(hC:CtxOK C σ0)(hg:holds gs ρ=true){T:TypeId}{x:Operand}{r:Sh×List PI}(hr:td C S gs dst T x=some r){o:Oper}(ho:o.op=.load T x):
 ei C S ρ σ hv Φ dst a w o r:=by
 unfold td at hr;split at hr
 case h_2=>cases hr
 rename_i inf ag hi ha;have eJ:aH C S ρ σ hv (fw S gs x) (a.eval x) ((rD x).ev ρ):=by
  cases x with
  |tmp t=>exact(nB h hg t).1
  |_=>trivial
 split at hr
 ·
  rename_i j ver off es;rw[es] at eJ;cases hb:Nat.beq ver (S.ver j)<;>simp only[hb,cond_true,cond_false] at hr
  ·cases hr
  have dQ:=az hb;obtain⟨k,eL,fF⟩:=eJ.2 dQ;have bf:=h.objs j;split at hr
  ·rename_i bag shs eo;rw[eo] at bf;obtain⟨k',cs,T',ds,h1,h2,h3,h4,h5,h6,h7⟩:=bf;rw[eL] at h1;cases h1;cases ag with
   |true=>
    simp only[cond_true] at hr;cases hle:Nat.ble (off+inf.size) shs.length<;>simp only[hle,cond_true,cond_false] at hr
    ·cases hr
    have Dq:=jI hle;have hlen:((shs.drop off).take inf.size).length=inf.size:=by simp;omega
    have dz:∀m u,((cs.toList.drop off).take inf.size)[m]?=some u→w.cell? ⟨k,off+m,none⟩=some u:=fun m u hu=>by
     simp only[eW,fS] at hu;split at hu
     ·rename_i hm;have:=Mx h3 (i:=off+m) (by omega);rw[this,←zL];exact congrArg some (sE hu)
     ·cases hu
    have Yh:=vt ho fF (KQ hi ha (by simp;omega) (fun e=>by cases e) dz);split at hr
    ·rename_i l hl;cases hr
     revert hl
     cases LI C j
     ·intro hl;cases hl
     intro hl
     obtain⟨ll,lo⟩:=VF (cs:=cs) (ds:=ds) _ off l hl (fun m s hm=>by
      simp only[eW,fS] at hm;split at hm
      ·exact(h7 (off+m) s hm).2
      ·cases hm)
     rw[hlen] at ll;refine fun ρ' ak=>⟨_,_,vu ak,Yh,⟨(cs.toList.drop off).take inf.size,(ds.drop off).take inf.size,by simp[rowOf],aeA h5 h6,by simp;omega,by simp;omega,fun m c hm=>?_⟩,fun _ _ e=>by cases e⟩
     have l7:m<inf.size:=by have:=(eC.1 hm).1;omega
     have:=lo m c hm;simpa [aJ,eW,fS,l7] using this
    simp only[aA] at hr;obtain⟨p,hp,rfl⟩:=hr
    obtain⟨l1,es,⟨he,_⟩,l2,bW⟩:=MD (b:=.o j) h (cs:=cs.toList) h5 _ off p (fun m s hm=>by
     simp only[eW,fS] at hm;split at hm
     ·have:=(h7 (off+m) s hm).2;rw[zL];exact this
     ·cases hm) hp
    refine .dat (v:=rowOf true ((cs.toList.drop off).take inf.size)) Yh ?_
    ·simp only[PE.ev,rowOf,if_true,he];refine .agg _ _ _ (by simp;omega) (by omega) (fun m t hm=>?_) (fun m t hm=>(bW m t hm).1);have l7:m<inf.size:=by have:=(eC.1 hm).1;omega
     have:=(bW m t hm).2;simpa [aJ,eW,fS,l7] using this
   |false=>
    simp only[cond_false] at hr;split at hr
    ·rename_i ty hs;cases dB:ty.one<;>simp only[dB,cond_true,cond_false] at hr
     ·cases hr
     cases hr;have pM:=(h7 off _ hs).2;have ah:off<shs.length:=(eC.1 hs).1;have wU:(loadVar T ⟨k,off,none⟩).run C.P w=.ok (cs.getD off undef) w:=by
      simp[loadVar,uQ ha,run_load,Mx h3 (i:=off) (by omega)]
     refine .dat (v:=cs.getD off undef) (vt ho fF wU) ?_;simp only[PE.ev,h5,D.c,D.cells];exact pM
    ·rename_i j' mL hs;cases hr;have pM:=(h7 off _ hs).2;have ah:off<shs.length:=(eC.1 hs).1;have wU:(loadVar T ⟨k,off,none⟩).run C.P w=.ok (cs.getD off undef) w:=by
      simp[loadVar,uQ ha,run_load,Mx h3 (i:=off) (by omega)]
     intro ρ' ak;exact⟨_,_,vu ak,vt ho fF wU,pM,fun _ _ e=>by cases e⟩
    ·cases hr
  ·rename_i ts eo;rw[eo] at bf;obtain⟨k',v,h1,h2,h3⟩:=bf;rw[eL] at h1;cases h1;simp only[aA] at hr;obtain⟨ty,bh,rfl⟩:=hr;obtain⟨vs,ds,rfl,hd,l1,l2,aO,dB⟩:=h2.agg_inv;obtain⟨bW,hlen,ly⟩:=JI bh l1 l2 aO dB;refine .dat (vt ho fF (KQ hi ha hlen (fun e=>by rw[hlen];exact ly e) (fun m u hu=>h.cell ?_))) (by rw[JH (e:=.o j) hd];exact bW);simp only[eW,fS] at hu;split at hu
   ·exact h3 (off+m) u (by simpa [Value.cells] using hu)
   ·cases hu
  ·rename_i ty ay eo;rw[eo] at bf;obtain⟨k',v,h1,h2,h3⟩:=bf;rw[eL] at h1;cases h1;cases hc:(!ag&&ty.one&&Nat.beq off 0)<;>simp only[hc,cond_true,cond_false] at hr
   ·cases hr
   cases hr;simp only[ao,gS] at hc;have jn:=az hc.2;subst jn;have wU:(loadVar T ⟨k,0,none⟩).run C.P w=.ok v w:=by
        have:=h.cell (h3 0 v (by simp[(h2.oneCell hc.1.2).1]));rw[hc.1.1] at ha;simp[loadVar,uQ ha,run_load,this]
   exact .dat (vt ho fF wU) h2
  ·cases hr
 ·
  rename_i j ver size off es;rw[es] at eJ;cases hb:Nat.beq ver (S.ver j)<;>simp only[hb,cond_true,cond_false] at hr
  ·cases hr
  have dQ:=az hb;obtain⟨k,n,c,ik,i,eL,ux,aY,fF⟩:=eJ.2 dQ;have bf:=h.objs j;split at hr
  ·rename_i T' ts eo;rw[eo] at bf;obtain⟨cells,xs,h1,h2,⟨vs,h3,h4⟩,h5⟩:=bf;cases aK:Nat.beq size ts.length<;>simp only[aK,cond_true,cond_false] at hr
   ·cases hr
   have q6:=az aK;simp only[aA] at hr;obtain⟨ty,bh,rfl⟩:=hr;rw[eL] at h2;have be:=h2.cells (g:=k) rfl;obtain⟨b,c',e1,Dr,Ds⟩:=xD h2;cases e1;obtain⟨y,hy⟩:∃y,xs[i]?=some y:=⟨_,bA aY⟩
   have IU:=h3 i y hy;obtain⟨us,ds,uM,hd,l1,l2,aO,dB⟩:=IU.agg_inv;obtain⟨bW,hlen,ly⟩:=JI bh l1 l2 aO dB;have akG:(PE.nth (.o j) (rD x)).ev ρ=.agg ds:=by
        simp only[PE.ev,h1,D.l_list,ux,D.i_int,vR];rw[sE hy,hd]
   refine .dat (vt ho fF (KQ hi ha hlen (fun e=>by rw[hlen];exact ly e) (fun m u hu=>?_))) (by rw[JH akG];exact bW);simp only[eW,fS] at hu;split at hu
   ·have:=h4 i (off+m) u (by omega) (by rw[uM];simpa [Value.cells] using hu);have:=be _ _ this;rw[se] at this;simpa [Ty.size,q6,vU] using this
   ·cases hu
  ·rename_i T' e ay eo;rw[eo] at bf;obtain⟨cells,xs,h1,h2,⟨vs,h3,h4⟩,h5⟩:=bf;cases hc:(!ag&&e.one&&Nat.beq off 0&&Nat.beq size 1)<;>simp only[hc,cond_true,cond_false] at hr
   ·cases hr
   cases hr;simp only[ao,gS] at hc;have jn:=az hc.1.2;have aK:=az hc.2;subst jn;subst aK;rw[eL] at h2;have be:=h2.cells (g:=k) rfl;obtain⟨b,c',e1,Dr,Ds⟩:=xD h2;cases e1;obtain⟨y,hy⟩:∃y,xs[i]?=some y:=⟨_,bA aY⟩
   have IU:=h3 i y hy;have wU:(loadVar T ⟨k,i*1+0,none⟩).run C.P w=.ok (vs i) w:=by
        have h6:=h4 i 0 (vs i) aY (by simp[(IU.oneCell hc.1.1.2).1]);have:=be _ _ h6;rw[se] at this;have Db:e.size=1:=by cases e<;>simp_all [Ty.size,Ty.one]
        rw[hc.1.1.1] at ha;rw[Db] at this;simp only[gF,iw,Nat.mul_one] at this;simp[loadVar,uQ ha,run_load,this]
   refine .dat (vt ho fF wU) ?_;simp only[PE.ev,h1,D.l_list,ux,D.i_int,vR];rw[sE hy];exact IU
  ·cases hr
 ·simp only[av] at hr;obtain⟨p,hp,hr⟩:=hr;have aT:=cq h hC hg hp;split at hr
  ·rename_i ty e1;rw[e1] at aT;cases hc:(Nat.beq inf.size ty.size&&(ag==ty.rowT))<;>simp only[hc,cond_true,cond_false] at hr
   ·cases hr
   cases hr;simp only[ao] at hc;exact aoJ h hi ha ho aT hc.1 hc.2
  ·cases hr
end
end Cx
namespace Cx
open Go Go.RowKit
section
variable {C:Ctx} {S:St} {ρ:Env} {σ:Im} {own:Nat→Option Nat} {hv:Nat→Value} {w0:World} {σ0:Base} {A:Nat→Prop} {a:Act} {w:World} {gs:List (Nat×Bool)} {Φ:aQ} {dst:Nat}
theorem rH (h:Inv C S ρ σ own hv w0 σ0 A a w)(hg:holds gs ρ=true)(x:Operand):aH C S ρ σ hv (fw S gs x) (a.eval x) ((rD x).ev ρ)∧∀bR s,fw S gs x≠.opt bR s:=by
 cases x with
 |tmp t=>exact nB h hg t
 |_=>exact⟨trivial,fun _ _ e=>by cases e⟩
theorem WH {P:Program}{T:TypeId}{i:Nat}{f:Field}(h:CH P T i=some f):∃fs,P.underlying T=some (.struct fs)∧fs[i]?=some f:=by
 unfold CH at h;split at h
 ·rename_i fs hu;exact⟨fs,hu,h⟩
 ·cases h
theorem R6 {o:Oper}{T:TypeId}{x:Operand}{i:Nat}{f:Field}{inf:TypeInfo}{k off:Nat}(ho:o.op=.fieldAddr T x i)(hf:CH C.P T i=some f)(hi:C.P.info? f.type=some inf)(hn:Nat.beq inf.size 0=false)
 (hx:a.eval x=.pointer (some ⟨k,off,none⟩)):(execOp a.eval o).run C.P w=.ok (.value (.pointer (some ⟨k,off+f.offset,none⟩))) w:=by
 obtain⟨fs,hu,sL⟩:=WH hf;have jR:inf.size≠0:=by intro e;simp[e] at hn
 simp[execOp,ho,Instr.fieldAt,run_underlying hu,sL,hx,Instr.sureAddr,fieldPlace,Go.sizeOf,run_typeInfo w hi,jR,se]
theorem aoy (h:Inv C S ρ σ own hv w0 σ0 A a w)(hC:CtxOK C σ0)(hg:holds gs ρ=true){T:TypeId}{x:Operand}{i:Nat}{r:Sh×List PI}(hr:AG C S gs dst T x i=some r){o:Oper}(ho:o.op=.fieldAddr T x i):
 ei C S ρ σ hv Φ dst a w o r:=by
 simp only[AG,av] at hr;obtain⟨f,hf,hr⟩:=hr;obtain⟨eJ,du⟩:=rH h hg x;split at hr
 case h_2=>cases hr
 rename_i inf ag hi ha;cases hn:Nat.beq inf.size 0<;>simp only[hn,cond_true,cond_false] at hr
 case true=>cases hr
 split at hr
 ·rename_i j ver size off es;cases hb:Nat.beq ver (S.ver j)<;>simp only[hb,cond_true,cond_false] at hr
  ·cases hr
  cases hr;rw[es] at eJ;intro ρ' ak;obtain⟨k,n,c,ik,idx,eL,ux,aY,fF⟩:=eJ.2 (az hb);exact⟨_,_,vu ak,R6 ho hf hi hn fF,⟨eJ.1,fun _=>⟨k,n,c,ik,idx,eL,ux,aY,by rw[vU]⟩⟩,fun _ _ e=>by cases e⟩
 ·split at hr
  ·rename_i ts e hu;have aT:=cq h hC hg hu;simp only[aA] at hr;obtain⟨ty,bh,rfl⟩:=hr;obtain⟨k,off,v,y,aS,bo,bW,iN⟩:=Rep.ref_inv aT;obtain⟨vs,ds,rfl,rfl,l1,l2,aO,dB⟩:=bW.agg_inv;obtain⟨l8,hlen,ly⟩:=JI bh l1 l2 aO dB;refine .dat (R6 ho hf hi hn aS) ?_;have hde:(PE.deref e).ev ρ=.agg ds:=by simp only[PE.ev,bo,D.deref]
   simp only[PE.ev];rw[JH hde];refine .ref ty k (off+f.offset) _ _ l8 (fun j u hu=>?_);have kS:((vs.drop f.offset).take inf.size)[j]?=some u:=by
        cases ag with
        |true=>simpa [rowOf,Value.cells] using hu
        |false=>
         have:=ly rfl;rw[this] at hlen ⊢;obtain⟨q,hq⟩:∃q,(vs.drop f.offset).take 1=[q]:=by
          match(vs.drop f.offset).take 1,hlen with
          |[q],_=>exact⟨q,rfl⟩
         rw[this] at l8 hu;rw[hq] at l8 hu ⊢;simp only[rowOf,tN] at l8 hu;have uI:ty.rowT=false:=by
          unfold vb at bh;cases hle:Nat.ble (f.offset+inf.size) ts.length<;>simp only[hle,cond_true,cond_false] at bh
          ·cases bh
          ·cases hb:Nat.beq inf.size 1<;>simp only[hb,cond_true,cond_false] at bh
           ·cases bh
           ·have:=dB _ _ bh;cases ty<;>simp_all [Ty.one,Ty.rowT]
         rw[l8.cells1 uI] at hu;simpa using hu
   simp only[eW,fS] at kS;split at kS
   ·have:=iN (f.offset+j) u (by simpa [Value.cells] using kS)
    rwa [←vU] at this
   ·cases kS
  ·split at hr
   ·rename_i j ver off es;cases hb:Nat.beq ver (S.ver j)<;>simp only[hb,cond_true,cond_false] at hr
    ·cases hr
    cases hr;rw[es] at eJ;intro ρ' ak;obtain⟨k,eL,fF⟩:=eJ.2 (az hb);exact⟨_,_,vu ak,R6 ho hf hi hn fF,⟨eJ.1,fun _=>⟨k,eL,rfl⟩⟩,fun _ _ e=>by cases e⟩
   ·cases hr
theorem aoA (h:Inv C S ρ σ own hv w0 σ0 A a w)(hC:CtxOK C σ0)(hg:holds gs ρ=true){T:TypeId}{x:Operand}{i:Nat}{r:Sh×List PI}(hr:AF C S gs dst T x i=some r){o:Oper}(ho:o.op=.field T x i):
 ei C S ρ σ hv Φ dst a w o r:=by
 simp only[AF,av] at hr;obtain⟨f,hf,hr⟩:=hr;split at hr
 case h_2=>cases hr
 rename_i inf ag hi ha;split at hr
 case h_2=>cases hr
 rename_i ts e hu;have aT:=cq h hC hg hu;simp only[aA] at hr;obtain⟨ty,bh,rfl⟩:=hr;obtain⟨vs,ds,aS,bo,l1,l2,aO,dB⟩:=Rep.agg_inv aT;obtain⟨l8,hlen,ly⟩:=JI bh l1 l2 aO dB;obtain⟨fs,kS,sL⟩:=WH hf;have hle:f.offset+inf.size≤ts.length:=by
  unfold vb at bh;cases hle:Nat.ble (f.offset+inf.size) ts.length<;>simp only[hle,cond_true,cond_false] at bh
  ·cases bh
  ·exact jI hle
 refine .dat (v:=rowOf ag ((vs.drop f.offset).take inf.size)) ?_ (by rw[JH bo];exact l8);cases ag with
 |true=>
  simp only[execOp,ho,Instr.field,aS,asAgg,part];simp[run_underlying kS,sL,uQ ha,Go.sizeOf,run_typeInfo w hi,rowOf]
 |false=>
  have hn:=ly rfl;have ah:f.offset<vs.length:=by omega
  simp only[execOp,ho,Instr.field,aS,asAgg,part];simp[run_underlying kS,sL,uQ ha,rowOf,hn,bA ah,aJ,eW,fS]
theorem adj {o:Oper}{T e:TypeId}{x i:Operand}{inf:TypeInfo}{k off n c idx:Nat}{ik:IntKind}(ho:o.op=.indexAddr T x i)(hT:C.P.underlying T=some (.slice e))(hi:C.P.info? e=some inf)
 (hx:a.eval x=.slice (some ⟨k,off,none⟩) n c) (aj6:a.eval i=.int ik idx) (ah:idx<n):(execOp a.eval o).run C.P w=.ok (.value (.pointer (some ⟨k,off+idx*inf.size,none⟩))) w:=by
 simp[execOp,ho,Instr.indexAt,run_underlying hT,hx,aj6,asIntOf,ah,Go.sizeOf,run_typeInfo w hi,se]
theorem KW {P:Program}{T:TypeId}{t:Ty}(h:rI P T t=true):∃inf,P.info? T=some inf∧inf.size=t.size:=by
 unfold rI at h;split at h
 ·rename_i i hi;exact⟨i,hi,az h⟩
 ·cases h
theorem aoD (h:Inv C S ρ σ own hv w0 σ0 A a w)(hC:CtxOK C σ0)(hg:holds gs ρ=true){T:TypeId}{x i:Operand}{r:Sh×List PI}(hr:AI C S gs dst T x i=some r){o:Oper}(ho:o.op=.indexAddr T x i):
 ei C S ρ σ hv Φ dst a w o r:=by
 unfold AI at hr;split at hr
 case h_2=>cases hr
 rename_i e hT;simp only[av] at hr;obtain⟨p,hp,hr⟩:=hr;have aT:=cq h hC hg hp;split at hr
 case h_2=>cases hr
 rename_i ik e1;rw[e1] at aT;obtain⟨idx,aS,bo,b1,b2⟩:=aT.int_inv;split at hr
 ·rename_i t pe hu;have dm:=cq h hC hg hu;cases aK:rI C.P e t<;>simp only[aK,cond_true,cond_false] at hr
  ·cases hr
  cases hr;obtain⟨inf,hi,hs⟩:=KW aK;obtain⟨xs,hd,zT⟩:=Rep.slice_inv dm;refine .datc hg fun hc=>?_;simp only[PE.ev,hd,bo,D.l_list,D.i_int,D.b_bool,decide_eq_true_eq] at hc;rcases zT with⟨_,rfl⟩|⟨k,off,c,uN,h1,h2,vs,h3,h4⟩
  ·simp at hc;omega
  ·obtain⟨m,rfl⟩:=vQ hc.1;have ah:m<xs.length:=by omega
   refine⟨_,adj ho hT hi uN aS ah,?_⟩;obtain⟨y,hy⟩:∃y,xs[m]?=some y:=⟨_,bA ah⟩
   simp only[PE.ev,hd,bo,D.l_list,D.i_int,vR,sE hy];exact .ref t.unf k _ (vs m) y (h3 m y hy) (fun j u hu=>by rw[hs];exact h4 m j u ah hu)
 ·cases hr
 ·obtain⟨eJ,du⟩:=rH h hg x;split at hr
  ·rename_i j ver es;rw[es] at eJ;cases hb:Nat.beq ver (S.ver j)<;>simp only[hb,cond_true,cond_false] at hr
   ·cases hr
   have dQ:=az hb;have bf:=h.objs j;have cu:=eJ.2 dQ;split at hr
   ·rename_i T' t eo;rw[eo] at bf;cases aK:rI C.P e t<;>simp only[aK,cond_true,cond_false] at hr
    ·cases hr
    cases hr;obtain⟨inf,hi,hs⟩:=KW aK;obtain⟨cells,xs,h1,h2,⟨vs,h3,h4⟩,h5⟩:=bf;intro ρ' ak;obtain⟨hc,hρ⟩:=R7 hg ak;simp only[PE.ev,h1,bo,D.l_list,D.i_int,D.b_bool,decide_eq_true_eq] at hc;obtain⟨m,rfl⟩:=vQ hc.1;have ah:m<xs.length:=by omega
    rcases h2.2 with⟨_,e0⟩|⟨g,cap,cur,eL,_⟩
    ·omega
    ·refine⟨_,_,hρ,adj ho hT hi (cu.trans eL) aS ah,⟨by omega,fun _=>⟨g,xs.length,cap,ik,m,eL,bo,ah,?_⟩⟩,fun _ _ e=>by cases e⟩;rw[hs];simp
   ·cases hr
  ·cases hr
theorem aoF (h:Inv C S ρ σ own hv w0 σ0 A a w)(hC:CtxOK C σ0)(hg:holds gs ρ=true){T:TypeId}{x i:Operand}{r:Sh×List PI}(hr:AH C S gs dst T x i=some r){o:Oper}(ho:o.op=.index T x i):
 ei C S ρ σ hv Φ dst a w o r:=by
 unfold AH at hr;split at hr
 case h_2=>cases hr
 rename_i hT;simp only[av] at hr;obtain⟨p,hp,q,hq,hr⟩:=hr;have aT:=cq h hC hg hp;have dJ:=cq h hC hg hq;split at hr
 case h_2=>cases hr
 rename_i ik e1 e2;rw[e1] at aT;rw[e2] at dJ;obtain⟨idx,aS,bo,b1,b2⟩:=aT.int_inv;obtain⟨s,ia,dI,_⟩:=dJ.str_inv;cases hr;refine .datc hg fun hc=>?_;simp only[PE.ev,dI,bo,D.s_str,D.i_int,D.b_bool,decide_eq_true_eq] at hc;obtain⟨m,rfl⟩:=vQ hc.1;have ah:m<s.size:=by omega
 refine⟨.int .u8 (s.data.getD m 0).toNat,?_,?_⟩
 ·have:s[m]?=some (s.data.getD m 0):=by
   rw[getElem?_pos s m ah];simp[ByteArray.getElem_eq_getElem_data,dU,fB (show m<s.data.size from ah)]
  simp[execOp,ho,Instr.index,run_underlying hT,aS,ia,asIntOf,this]
 ·simp only[PE.ev,dI,bo,D.s_str,D.i_int,vR];refine .int _ _ ?_ ?_
  ·simp only[IntKind.min,IntKind.signed];simp
  ·simp only[IntKind.max,IntKind.signed,IntKind.bits];have:=UInt8.toNat_lt (s.data.getD m 0);simp at this ⊢;omega
end
end Cx
namespace Cx
open Go Go.RowKit
section
variable {C:Ctx} {S:St} {ρ:Env} {σ:Im} {own:Nat→Option Nat} {hv:Nat→Value} {w0:World} {σ0:Base} {A:Nat→Prop} {a:Act} {w:World} {gs:List (Nat×Bool)} {Φ:aQ} {dst:Nat}
theorem aud (h:Inv C S ρ σ own hv w0 σ0 A a w)(hC:CtxOK C σ0)(hg:holds gs ρ=true){lo:Option Operand}{l:Ty×PE}{k:IntKind}(hl:FN C S gs lo=some l)(hk:l.1=.int k):
 ∃n,l.2.ev ρ=.v (.int k n)∧((lo=none∧n=0)∨∃x,lo=some x∧a.eval x=.int k n):=by
 cases lo with
 |none=>simp[FN] at hl;subst hl;simp at hk;subst hk;exact⟨0,rfl,.inl ⟨rfl,rfl⟩⟩
 |some x=>
  have:=cq h hC hg hl;rw[hk] at this;obtain⟨n,h1,h2,_⟩:=this.int_inv;exact⟨n,h2,.inr ⟨x,rfl,h1⟩⟩
theorem aub (h:Inv C S ρ σ own hv w0 σ0 A a w)(hC:CtxOK C σ0)(hg:holds gs ρ=true){e:PE}{hi:Option Operand}{l:Ty×PE}{k:IntKind}(hl:FM C S gs e hi=some l)(hk:l.1=.int k):
 ∃n,l.2.ev ρ=.v (.int k n)∧((hi=none∧n=(e.ev ρ).l.length)∨∃x,hi=some x∧a.eval x=.int k n):=by
 cases hi with
 |none=>simp[FM] at hl;subst hl;simp at hk;subst hk;exact⟨_,rfl,.inl ⟨rfl,rfl⟩⟩
 |some x=>
  have:=cq h hC hg hl;rw[hk] at this;obtain⟨n,h1,h2,_⟩:=this.int_inv;exact⟨n,h2,.inr ⟨x,rfl,h1⟩⟩
theorem run_sliceBound {P:Program}{x:Value}{y i:Nat}{k:IntKind}{code:BoundsCode}{w:World}(hx:x=.int k i)(h:i≤y):(Instr.sliceBound x y code).run P w=.ok i w:=by
 subst hx;simp[Instr.sliceBound,asIntOf,h]
theorem aoS (h:Inv C S ρ σ own hv w0 σ0 A a w)(hC:CtxOK C σ0)(hg:holds gs ρ=true){T:TypeId}{x:Operand}{lo hi mx:Option Operand}{r:Sh×List PI}(hr:AN C S gs dst T x lo hi mx=some r){o:Oper}(ho:o.op=.slice T x lo hi mx):
 ei C S ρ σ hv Φ dst a w o r:=by
 unfold AN at hr;split at hr
 case h_3=>cases hr
 case h_2=>
  rename_i n e hT;split at hr
  case h_2=>cases hr
  simp only[av] at hr;obtain⟨p,hp,hr⟩:=hr;have aT:=cq h hC hg hp;split at hr
  case h_2=>cases hr
  rename_i t ts e1;cases hc:(Nat.beq n (ts.length+1)&&ts.all (Ty.beq t)&&t.one&&rI C.P e t&&Nat.ble n maxLen)<;>simp only[hc,cond_true,cond_false] at hr
  ·cases hr
  cases hr;simp only[ao] at hc;obtain⟨⟨⟨⟨c1,c2⟩,c3⟩,c4⟩,c5⟩:=hc;have hn:=az c1;have hm:=jI c5;obtain⟨inf,nZ,hs⟩:=KW c4;rw[e1] at aT;obtain⟨k,off,x0,y,uN,hd,hr0,iN⟩:=aT.ref_inv;obtain⟨vs,ds,rfl,rfl,l1,l2,jk,_⟩:=hr0.agg_inv
  have aO:∀(i:Nat),i<n→(t::ts)[i]?=some t:=fun i hi=>by
   cases i with
   |zero=>rfl
   |succ i=>
    have ah:i<ts.length:=by omega
    rw[F0,bA ah];rw[Ty.beq_eq _ _ (bJ.1 c2 _ (de ah))]
  have NW:vs.length=n:=by rw[l1,hn];rfl
  have NU:ds.length=n:=by rw[l2,hn];rfl
  have dB:t.size=1:=by cases t<;>simp_all [Ty.one,Ty.size]
  refine ei.dat (v:=.slice (some ⟨k,off,none⟩) n n) ?_ ?_
  ·have:Addr.add ⟨k,off,none⟩ 0=⟨k,off,none⟩:=by simp[Addr.add]
   simp[execOp,ho,Instr.sliceAt,run_underlying hT,uN,Instr.sureAddr,Instr.sliceBounds,Go.sizeOf,run_typeInfo w nZ,this]
  ·have akq:(PE.lst ((List.range n).map fun i=>.cell (.deref p.2) i)).ev ρ=.list ds:=by
        simp only[PE.ev]
        congr 1
        have bQ:∀l:List PE,PE.evs ρ l=l.map fun e=>e.ev ρ:=fun l=>by induction l with|nil=>rfl|cons e l ih=>simp[PE.evs,ih]
        rw[bQ,Ls];apply Vm;intro i;rw[cC];by_cases hi:i<n
        ·rw[qw hi,bA (by omega)];simp only[ka,Function.comp,PE.ev,hd,D.deref,D.c,D.cells];rw[aJ,bA (by omega)];rfl
        ·rw[rS (by simp;omega),rS (by omega)];rfl
   rw[akq];refine .slice t k off n n ds (fun i=>vs.getD i undef) NU (bk _) hm (fun i x hx=>?_) (fun i j u hi hu=>?_)
   ·have ah:i<n:=by rw[←NU];exact(eC.1 hx).1
    have:=jk i t (aO i ah);rw[sE hx] at this;exact this.unf
   ·have h1:=(jk i t (aO i hi)).oneCell c3;rw[h1.1] at hu;cases j with
    |zero=>
     simp at hu;have:=iN i (vs.getD i undef) (by
      simp only[Value.cells];rw[F1,bA (by omega),aJ,bA (by omega)];rfl)
     rw[dB,←hu];simpa using this
    |succ j=>simp at hu
 rename_i e hT;simp only[av] at hr;obtain⟨p,hp,hr⟩:=hr;have aT:=cq h hC hg hp;split at hr
 case h_2=>cases hr
 rename_i t e1;rw[e1] at aT;simp only[av] at hr;obtain⟨l,hl,u,hu,hr⟩:=hr;split at hr
 case h_2=>cases hr
 rename_i k1 k2 e2 e3;cases aK:rI C.P e t<;>simp only[aK,cond_true,cond_false] at hr
 ·cases hr
 cases hr;obtain⟨inf,nZ,hs⟩:=KW aK;obtain⟨n1,bo,wT⟩:=aud h hC hg hl e2;obtain⟨n2,dI,NQ⟩:=aub h hC hg hu e3;obtain⟨xs,hd,zT⟩:=Rep.slice_inv aT;refine .datc hg fun hc=>?_;simp only[PE.ev,hd,bo,dI,D.l_list,D.i_int,D.b_bool,decide_eq_true_eq] at hc;obtain⟨m1,rfl⟩:=vQ hc.1;obtain⟨m2,rfl⟩:=vQ (show 0≤n2 by omega);have Nh:m1≤m2:=by omega
 have h2l:m2≤xs.length:=by omega
 have Xr:∀c,xs.length≤c→(Instr.sliceBounds true xs.length c (lo.map a.eval) (hi.map a.eval) none).run C.P w=.ok (m1,m2,c) w:=by
  intro c iM
  have hh:∀code,(match hi.map a.eval with|some v=>Instr.sliceBound v c code|none=>(pure xs.length:Sem Nat)).run C.P w=.ok m2 w:=by
   intro code;rcases NQ with⟨rfl,e⟩|⟨y,rfl,e⟩
   ·rw[hd,D.l_list] at e;simp;omega
   ·simp only[ka];exact run_sliceBound e (by omega)
  have NV:∀code,(match lo.map a.eval with|some v=>Instr.sliceBound v m2 code|none=>(pure 0:Sem Nat)).run C.P w=.ok m1 w:=by
   intro code;rcases wT with⟨rfl,e⟩|⟨y,rfl,e⟩
   ·simp;omega
   ·simp only[ka];exact run_sliceBound e Nh
  have XO:=hh .sliceAcap;have XV:=NV .sliceB;unfold Instr.sliceBounds;cases hi<;>cases lo<;>simp at XO XV ⊢<;>simp[XO,XV]
 rcases zT with⟨⟨p0,uN⟩,rfl⟩|⟨k,off,c,uN,h1,h2,vs,h3,h4⟩
 ·have:m2=0:=by simpa using h2l
  have:m1=0:=by omega
  subst_vars
  refine⟨.slice p0 0 0,?_,?_⟩
  ·have hb:=Xr 0 (bk _);simp only[yj] at hb;cases p0 with
   |none=>simp[execOp,ho,Instr.sliceAt,Instr.slice,run_underlying hT,uN,hb,Go.sizeOf,run_typeInfo w nZ]
   |some a0=>simp[execOp,ho,Instr.sliceAt,Instr.slice,run_underlying hT,uN,hb,Go.sizeOf,run_typeInfo w nZ]
  ·simp only[PE.ev,hd,bo,dI,D.l_list,D.i_int];cases p0 with
   |none=>exact .nil t
   |some a0=>exact .emp t a0
 ·refine⟨.slice (some (if c=m1 then⟨k,off,none⟩ else⟨k,off+m1*inf.size,none⟩)) (m2-m1) (c-m1),?_,?_⟩
  ·have hb:=Xr c h1;simp only[execOp,ho,Option.map_none,Instr.sliceAt,run_underlying hT,uN];simp[run_underlying hT,Instr.slice,hb,Go.sizeOf,run_typeInfo w nZ,se];split<;>simp
  ·simp only[PE.ev,hd,bo,dI,D.l_list,D.i_int,vR];have hlen:((xs.take m2).drop m1).length=m2-m1:=by simp;omega
   have jk:∀(i:Nat) (y:D),((xs.take m2).drop m1)[i]?=some y→xs[m1+i]?=some y:=by
        intro i y hy;simp only[fS,eW] at hy;split at hy
        ·exact hy
        ·cases hy
   have iN:∀(i j:Nat) (v:Value),i<m2-m1→(vs (m1+i)).cells[j]?=some v→σ.c k (off+m1*inf.size+i*t.size+j)=some v:=by
        intro i j v hi hj;have:=h4 (m1+i) j v (by omega) hj;rw[oX] at this;rw[hs]
        rwa [←vU] at this
   split
   ·rename_i nX;refine .slice t k off (m2-m1) (c-m1) _ (fun i=>vs (m1+i)) hlen (by omega) (by omega) (fun i y hy=>h3 _ _ (jk i y hy)) (fun i j v hi hj=>by omega)
   ·exact .slice t k (off+m1*inf.size) (m2-m1) (c-m1) _ (fun i=>vs (m1+i)) hlen (by omega) (by omega) (fun i y hy=>h3 _ _ (jk i y hy)) iN
theorem adX (h:Inv C S ρ σ own hv w0 σ0 A a w)(hC:CtxOK C σ0)(hg:holds gs ρ=true):∀(xs:List Operand) (r:List Ty×List PE),kD C S gs xs=some r→
 r.1.length=xs.length∧r.2.length=xs.length∧∀(i:Nat) (t:Ty),r.1[i]?=some t→Rep C.cap σ t ((xs.map a.eval).getD i undef) ((PE.evs ρ r.2).getD i .none):=by
 intro xs
 induction xs with
 |nil=>intro r hr;simp[kD] at hr;subst hr;exact⟨rfl,rfl,by simp⟩
 |cons x xs ih=>
  intro r hr;simp only[kD,av,aA] at hr;obtain⟨p,hp,q,hq,rfl⟩:=hr;obtain⟨l1,l2,aO⟩:=ih q hq;refine⟨by simp[l1],by simp[l2],fun i t hi=>?_⟩;cases i with
  |zero=>simp at hi;subst hi;simpa [PE.evs] using cq h hC hg hp
  |succ i=>simp at hi;simpa [PE.evs] using aO i t hi
theorem aoB (h:Inv C S ρ σ own hv w0 σ0 A a w)(hC:CtxOK C σ0)(hg:holds gs ρ=true){fn:Fn}{first caps:Array Operand}{r:Sh×List PI}(hr:Ql C S gs dst fn first caps=some r){o:Oper}(ho:o.op=.makeFunc fn first caps):
 ei C S ρ σ hv Φ dst a w o r:=by
 unfold Ql at hr;split at hr
 case h_2=>cases hr
 rename_i f Df;have sK:first=#[]:=by simpa using Df
 subst sK;simp only[av] at hr;obtain⟨cs,dz,p,hp,hr⟩:=hr;cases hb:Ty.subs p.1 cs.caps<;>simp only[hb,cond_true,cond_false] at hr
 ·cases hr
 cases hr;obtain⟨l1,l2,aO⟩:=adX h hC hg _ _ hp;have hl:=Ty.subs_len _ _ hb;refine .dat (v:=.func (.func f) #[] (caps.map a.eval)) ?_ ?_
 ·simp[execOp,ho,Instr.makeFunc]
 ·simp only[PE.ev];have:caps.map a.eval=(caps.toList.map a.eval).toArray:=by apply rO;rw[vM]
  rw[this];have e1:(caps.toList.map a.eval).length=cs.caps.length:=by rw[gT];omega
  have e2:(PE.evs ρ p.2).length=cs.caps.length:=by rw[PE.evs_eq,gT];omega
  refine .fn f cs _ _ dz e1 e2 (fun i t hi=>?_);obtain⟨s,hs,bM⟩:=Ty.subs_get _ _ hb i t hi;exact(aO i s hs).sub bM
theorem aoN (h:Inv C S ρ σ own hv w0 σ0 A a w)(hC:CtxOK C σ0)(hg:holds gs ρ=true){x:Operand}{r:Sh×List PI}(hr:AL C S gs dst x=some r){o:Oper}(ho:o.op=.nilCheck x):
 ei C S ρ σ hv Φ dst a w o r:=by
 have ak:∀k off,a.eval x=.pointer (some ⟨k,off,none⟩)→(execOp a.eval o).run C.P w=.ok (.value (a.eval x)) w:=by
  intro k off e;simp[execOp,ho,e]
 unfold AL at hr;split at hr
 ·rename_i t e hu;cases hr;have aT:=cq h hC hg hu;obtain⟨k,off,v,y,aS,bo,bW,iN⟩:=Rep.ref_inv aT;exact .dat (ak k off aS) aT
 ·split at hr
  ·rename_i t _;obtain⟨hs,du⟩:=nB h hg t;split at hr
   ·rename_i j ver off es;rw[es] at hs;cases hb:Nat.beq ver (S.ver j)<;>simp only[hb,cond_true,cond_false] at hr
    ·cases hr
    cases hr;obtain⟨k,eL,fF⟩:=hs.2 (az hb);intro ρ' DH;exact⟨_,_,vu DH,ak k off fF,hs,fun _ _ e=>by cases e⟩
   ·rename_i j ver sz off es;rw[es] at hs;cases hb:Nat.beq ver (S.ver j)<;>simp only[hb,cond_true,cond_false] at hr
    ·cases hr
    cases hr;have fj:=hs;obtain⟨k,n,c,ik,i,eL,ux,aY,fF⟩:=hs.2 (az hb);intro ρ' DH;exact⟨_,_,vu DH,ak _ _ fF,fj,fun _ _ e=>by cases e⟩
   ·cases hr
  ·cases hr
theorem ad2 {cap:Nat→Option CSig}{t:Ty}{z:Ty×D}{v:Value}(h:qq t=some z)(hz:ye t v=true):Rep cap σ z.1 v z.2∧z.1.one=true∧Ty.sub z.1 t=true:=by
 unfold ye at hz;split at hz
 ·simp at hz;obtain⟨rfl,rfl⟩:=hz;simp[qq] at h;subst h;exact⟨.int _ 0 (by rename_i k;cases k<;>decide) (by rename_i k;cases k<;>decide),rfl,by simp[Ty.sub,Ty.beq]⟩
 ·simp at hz;subst hz;simp[qq] at h;subst h;exact⟨.bool false,rfl,rfl⟩
 ·rename_i s;have:s=ByteArray.empty:=by
   have:s.size=0:=by simpa using hz
   cases s with|mk d=>simp[ByteArray.size] at this;subst this;rfl
  subst this;simp[qq] at h;subst h;exact⟨.str _ (by decide),rfl,rfl⟩
 ·simp[qq] at h;subst h;exact⟨.nils _,rfl,rfl⟩
 ·simp[qq] at h;subst h;refine⟨.mapnil _ _,rfl,?_⟩;simp only[Ty.sub];exact Ty.beq_refl _
 ·simp[qq] at h;subst h;exact⟨.fnnil _ _,rfl,by simp only[Ty.sub];exact Ty.beq_refl _⟩
 ·cases hz
end
end Cx
namespace Cx
open Go Go.RowKit
theorem mapM_some {α β:Type}(f:α→Option β):∀(l:List α) (r:List β),l.mapM f=some r→r.length=l.length∧∀(i:Nat) (x:α),l[i]?=some x→∃y,r[i]?=some y∧f x=some y
 |[],r,h=>by simp at h;subst h;exact⟨rfl,by simp⟩
 |x::l,r,h=>by
  simp only[Vr,Option.bind_eq_bind,av] at h;obtain⟨y,hy,ys,xf,h⟩:=h;cases h;obtain⟨h1,h2⟩:=mapM_some f l ys xf;refine⟨by simp[h1],fun i z hi=>?_⟩;cases i with
  |zero=>simp at hi;subst hi;exact⟨y,rfl,hy⟩
  |succ i=>simp at hi;simpa using h2 i z hi
theorem U5:∀(ts:List Ty) (vs:List Value),BC ts vs=true→vs.length=ts.length∧∀(i:Nat) (t:Ty),ts[i]?=some t→∃v,vs[i]?=some v∧ye t v=true
 |[],vs,h=>by cases vs<;>simp_all [BC]
 |t::ts,vs,h=>by
  cases vs with
  |nil=>simp[BC] at h
  |cons v vs=>
   simp only[BC,ao] at h;obtain⟨h1,h2⟩:=U5 ts vs h.2;refine⟨by simp[h1],fun i u hi=>?_⟩;cases i with
   |zero=>simp at hi;subst hi;exact⟨v,rfl,h.1⟩
   |succ i=>simp at hi;simpa using h2 i u hi
theorem yf {cap:Nat→Option CSig}{σ:Im}{t:Ty}{z:Ty×D}{v:Value}(h:oT t=some z)(hz:jE t v=true):Rep cap σ z.1 v z.2∧Ty.sub z.1 t=true∧z.1.one=t.one:=by
 cases t with
 |agg ts=>
  simp only[oT,aA] at h;obtain⟨zs,sY,rfl⟩:=h;cases v with
  |agg vs=>
   simp only[jE] at hz;obtain⟨l1,h1⟩:=U5 ts vs.toList hz;obtain⟨l2,h2⟩:=mapM_some _ _ _ sY;have key:∀(i:Nat) (t:Ty),ts[i]?=some t→∃y v,zs[i]?=some y∧vs.toList[i]?=some v∧Rep cap σ y.1 v y.2∧y.1.one=true∧Ty.sub y.1 t=true:=by
      intro i t hi;obtain⟨y,hy,sX⟩:=h2 i t hi;obtain⟨v,hv,ia⟩:=h1 i t hi;obtain⟨g1,g2,g3⟩:=ad2 (cap:=cap) (σ:=σ) sX ia;exact⟨y,v,hy,hv,g1,g2,g3⟩
   have bS:∀(ts:List Ty) (zs:List (Ty×D)),zs.length=ts.length→(∀(i:Nat) (t:Ty),ts[i]?=some t→∃y,zs[i]?=some y∧Ty.sub y.1 t=true)→Ty.subs (zs.map (·.1)) ts=true:=by
      intro ts
      induction ts with
      |nil=>intro zs hl _;cases zs<;>simp_all [Ty.subs]
      |cons t ts ih=>
       intro zs hl hh;cases zs with
       |nil=>simp at hl
       |cons z zs=>
        simp only[gU,Ty.subs,ao];refine⟨?_,ih zs (by simpa using hl) fun i u hu=>by simpa using hh (i+1) u (by simpa using hu)⟩;obtain⟨y,hy,sX⟩:=hh 0 t rfl;simp at hy;subst hy;exact sX
   refine⟨?_,?_,rfl⟩
   ·have:vs=vs.toList.toArray:=by simp
    rw[this];refine .agg _ _ _ (by rw[gT];omega) (by simp) (fun i t hi=>?_) (fun i t hi=>?_)
    ·simp only[cC,aA] at hi;obtain⟨q,hq,rfl⟩:=hi;obtain⟨t',OI⟩:∃t',ts[i]?=some t':=⟨_,bA (by have:=(eC.1 hq).1;omega)⟩
     obtain⟨y,v,hy,hv,g1,g2,g3⟩:=key i t' OI;rw[hq] at hy;cases hy;rw[sE hv,sE (show(zs.map (·.2))[i]?=some q.2 by simp[hq])];exact g1
    ·simp only[cC,aA] at hi;obtain⟨q,hq,rfl⟩:=hi;obtain⟨t',OI⟩:∃t',ts[i]?=some t':=⟨_,bA (by have:=(eC.1 hq).1;omega)⟩
     obtain⟨y,v,hy,hv,g1,g2,g3⟩:=key i t' OI;rw[hq] at hy;cases hy;exact g2
   ·simp only[Ty.sub];exact bS ts zs l2 fun i t hi=>by obtain⟨y,v,hy,hv,g1,g2,g3⟩:=key i t hi;exact⟨y,hy,g3⟩
  |_=>simp[jE] at hz
 |_=>
  obtain⟨g1,g2,g3⟩:=ad2 (cap:=cap) (σ:=σ) (by simpa [oT] using h) (by simpa [jE] using hz);exact⟨g1,g3,(Ty.sub_one _ _ g3).1⟩
theorem ae4 {a b:ByteArray}(h:(a==b)=true):a=b:=by
 cases a with|mk x=>cases b with|mk y=>
 have:(x==y)=true:=h;rw[eq_of_beq this]
theorem ae5 (a:ByteArray):(a==a)=true:=by
 cases a with|mk x=>
 show(x==x)=true;simp
theorem Pa {P:Program}{K:TypeId}{kt:Ty}(hk:mh P K kt=true):
 (∃k k',kt=.int k∧P.underlying K=some (.int k'))∨(kt=.str∧P.underlying K=some .string)∨(kt=.bool∧P.underlying K=some .bool):=by
 unfold mh at hk;split at hk
 ·split at hk
  ·exact .inl ⟨_,_,rfl,by assumption⟩
  ·cases hk
 ·split at hk
  ·exact .inr (.inl ⟨rfl,by assumption⟩)
  ·cases hk
 ·split at hk
  ·exact .inr (.inr ⟨rfl,by assumption⟩)
  ·cases hk
 ·cases hk
theorem ahg {cap:Nat→Option CSig}{σ:Im}{P:Program}{K:TypeId}{kt:Ty}{desc:TypeDesc}(hk:mh P K kt=true)(hu:P.underlying K=some desc){v:Value}{d:D}(hv:Rep cap σ kt v d):
 ∀(es:List MapEntry) (ds:List (D×D)) (i:Nat),ds.length=es.length→(∀(j:Nat) (e:MapEntry) (p:D×D),es[j]?=some e→ds[j]?=some p→Rep cap σ kt e.key p.1)→
  (Instr.findNow desc v es i=some none∧∀(j:Nat) (p:D×D),ds[j]?=some p→ew d p.1=false)∨
  ∃j e p,es[j]?=some e∧ds[j]?=some p∧Instr.findNow desc v es i=some (some (i+j,e.val))∧ew d p.1=true∧Instr.sameBits 10000 e.key v=true∧∀m q,m<j→ds[m]?=some q→ew d q.1=false:=by
 have dB:∀(v':Value) (d':D),Rep cap σ kt v' d'→Instr.sameNow desc v v'=some (ew d d')∧(ew d d'=true→Instr.sameBits 10000 v' v=true):=by
  intro v' d' h';rcases Pa hk with⟨k,k',rfl,kS⟩|⟨rfl,kS⟩|⟨rfl,kS⟩
  ·rw[hu] at kS;cases kS;obtain⟨n,rfl,rfl,_⟩:=hv.int_inv;obtain⟨m,rfl,rfl,_⟩:=h'.int_inv;refine⟨by simp[Instr.sameNow,ew,D.cells,q9,s9],fun e=>?_⟩;have:n=m:=by simpa [ew,D.cells,q9,s9] using e
   subst this;simp[Instr.sameBits]
  ·rw[hu] at kS;cases kS;obtain⟨n,rfl,rfl,_⟩:=hv.str_inv;obtain⟨m,rfl,rfl,_⟩:=h'.str_inv;refine⟨by simp[Instr.sameNow,ew,D.cells,q9,s9],fun e=>?_⟩;have:n=m:=ae4 (by simpa [ew,D.cells,q9,s9] using e);subst this;simpa [Instr.sameBits] using ae5 n
  ·rw[hu] at kS;cases kS;obtain⟨n,rfl,rfl⟩:=hv.bool_inv;obtain⟨m,rfl,rfl⟩:=h'.bool_inv;refine⟨by simp[Instr.sameNow,ew,D.cells,q9,s9],fun e=>?_⟩;have:n=m:=by simpa [ew,D.cells,q9,s9] using e
   subst this;simp[Instr.sameBits]
 intro es
 induction es with
 |nil=>intro ds i hl _;left;exact⟨rfl,by cases ds<;>simp_all⟩
 |cons e es ih=>
  intro ds i hl aO;cases ds with
  |nil=>simp at hl
  |cons p ds=>
   obtain⟨hs,hb⟩:=dB e.key p.1 (aO 0 e p rfl rfl);cases m7:ew d p.1 with
   |true=>
    right;rw[m7] at hs;exact⟨0,e,p,rfl,rfl,by simp[Instr.findNow,hs],m7,hb m7,fun m q hm=>by omega⟩
   |false=>
    rw[m7] at hs;rcases ih ds (i+1) (by simpa using hl) (fun j e' p' he hp=>aO (j+1) e' p' (by simpa using he) (by simpa using hp)) with⟨h1,h2⟩|⟨j,e',p',h1,h2,h3,h4,h5,h6⟩
    ·left;refine⟨by simp[Instr.findNow,hs,h1],fun j q hq=>?_⟩;cases j with
     |zero=>simp at hq;subst hq;exact m7
     |succ j=>exact h2 j q (by simpa using hq)
    ·right;refine⟨j+1,e',p',by simpa using h1,by simpa using h2,?_,h4,h5,fun m q hm hq=>?_⟩
     ·simp[Instr.findNow,hs,h3];omega
     ·cases m with
      |zero=>simp at hq;subst hq;exact m7
      |succ m=>exact h6 m q (by omega) (by simpa using hq)
theorem Pk {d:D}:∀{ds:List (D×D)},(∀(j:Nat) (p:D×D),ds[j]?=some p→ew d p.1=false)→dR d ds=none
 |[],_=>rfl
 |p::ds,h=>by simp only[dR,h 0 p rfl];exact Pk fun j q hq=>h (j+1) q (by simpa using hq)
theorem Pl {d:D}:∀{ds:List (D×D)} {j:Nat} {p:D×D},ds[j]?=some p→ew d p.1=true→(∀(m:Nat) (q:D×D),m<j→ds[m]?=some q→ew d q.1=false)→dR d ds=some p.2
 |[],j,p,hp,_,_=>by simp at hp
 |x::ds,0,p,hp,hk,_=>by simp at hp;subst hp;simp[dR,hk]
 |x::ds,j+1,p,hp,hk,hm=>by
  simp only[dR,hm 0 x (by omega) rfl];exact Pl (j:=j) (by simpa using hp) hk fun m q ah hq=>hm (m+1) q (by omega) (by simpa using hq)
theorem QA {d v:D}:∀{ds:List (D×D)},(∀(j:Nat) (p:D×D),ds[j]?=some p→ew d p.1=false)→dc d v ds=ds++[(d,v)]
 |[],_=>rfl
 |p::ds,h=>by simp only[dc,h 0 p rfl,vN,if_false,FX];rw[QA fun j q hq=>h (j+1) q (by simpa using hq)]
theorem QB {d v:D}:∀{ds:List (D×D)} {j:Nat} {p:D×D},ds[j]?=some p→ew d p.1=true→(∀(m:Nat) (q:D×D),m<j→ds[m]?=some q→ew d q.1=false)→dc d v ds=ds.set j (d,v)
 |[],j,p,hp,_,_=>by simp at hp
 |x::ds,0,p,hp,hk,_=>by simp at hp;subst hp;simp[dc,hk]
 |x::ds,j+1,p,hp,hk,hm=>by
  simp only[dc,hm 0 x (by omega) rfl,vN,if_false,List.set_cons_succ];rw[QB (j:=j) (by simpa using hp) hk fun m q ah hq=>hm (m+1) q (by omega) (by simpa using hq)]
theorem YP {P:Program}{K:TypeId}{kt:Ty}(hk:Aq P K kt=true):
 ∃k k' e q i,kt=.agg [.int k,.int k']∧P.underlying K=some (.array 2 e)∧P.underlying e=some (.int q)∧P.plainKey e=true∧P.info? e=some i∧P.cellsOf e=1:=by
 unfold Aq at hk;split at hk
 case h_2=>cases hk
 rename_i k k';split at hk
 case h_2=>cases hk
 rename_i n e hu;simp only[ao] at hk;obtain⟨⟨⟨h1,h2⟩,h3⟩,h4⟩:=hk;have hn:=az h1;subst hn;split at h2
 case h_2=>cases h2
 rename_i q hq;split at h4
 case h_2=>cases h4
 rename_i i hi;exact⟨k,k',e,q,i,rfl,hu,hq,h3,hi,az h4⟩
theorem Rep.pair_inv {cap:Nat→Option CSig}{σ:Im}{k k':IntKind}{v:Value}{d:D}(h:Rep cap σ (.agg [.int k,.int k']) v d):∃a b,v=.agg #[.int k a,.int k' b]∧d=.agg [.v (.int k a),.v (.int k' b)]:=by
 generalize ht:Ty.agg [.int k,.int k']=t at h;cases h with
 |agg ts vs ds h1 h2 h ho=>
  cases ht;obtain⟨x,y,rfl⟩:∃x y,vs=[x,y]:=by
   match vs,h1 with
   |[x,y],_=>exact⟨x,y,rfl⟩
  obtain⟨p,q,rfl⟩:∃x y,ds=[x,y]:=by
   match ds,h2 with
   |[x,y],_=>exact⟨x,y,rfl⟩
  obtain⟨a,e1,e2,_⟩:=(h 0 _ rfl).int_inv;obtain⟨b,e3,e4,_⟩:=(h 1 _ rfl).int_inv;simp at e1 e2 e3 e4;subst e1 e2 e3 e4;exact⟨a,b,rfl,rfl⟩
 |_=>cases ht
theorem aqS {P:Program}{K e:TypeId}{q:IntKind}{i:TypeInfo}(hu:P.underlying K=some (.array 2 e))(hq:P.underlying e=some (.int q))(hp:P.plainKey e=true)(hi:P.info? e=some i)(hc:P.cellsOf e=1)(k k':IntKind)(a b c d:Int)(w:World):
 (Op.equal K (.agg #[.int k a,.int k' b]) (.agg #[.int k c,.int k' d])).run P w=.ok (a==c&&b==d) w:=by
 unfold Op.equal;show(Op.equalIn (9999+1) K _ _).run P w=_;rw[run_equalIn_array w 9999 _ _ hu hi,hc];have e0:List.range 2=[0,1]:=rfl;have p0:∀(x y:Value) (w:World),(part e #[x,y] 0).run P w=.ok x w:=fun x y w=>run_part_plain w hp rfl;have p1:∀(x y:Value) (w:World),(part e #[x,y] 1).run P w=.ok y w:=fun x y w=>run_part_plain w hp rfl;have q0:∀(k:IntKind) (a b:Int) (w:World),(Op.equalIn 9999 e (.int k a) (.int k b)).run P w=.ok (a==b) w:=fun k a b w=>run_equalIn_int w 9998 e k q a b hq;rw[e0];simp only[Op.eqItems,Sem.run_bind,Nat.zero_mul,Nat.one_mul,p0,p1,Result.andThen_ok,q0];cases a==c
 ·simp
 ·simp only[rQ,vN,if_false,Sem.run_bind,p1,Result.andThen_ok,q0];cases b==d<;>simp
theorem YO {P:Program}{K:TypeId}{kt:Ty}(hk:uR P K kt=true):mh P K kt=true∨Aq P K kt=true:=by
 unfold uR at hk;simpa using hk
theorem afx {cap:Nat→Option CSig}{σ:Im}{P:Program}{K:TypeId}{kt:Ty}(hk:Aq P K kt=true){v:Value}{d:D}(hv:Rep cap σ kt v d){w:World}{b:Bool}:(Instr.checkKey b 10000 K v).run P w=.ok () w:=by
 obtain⟨k,k',e,q,i,rfl,hu,hq,hp,hi,hc⟩:=YP hk;obtain⟨x,y,rfl,_⟩:=hv.pair_inv;have p0:∀(x y:Value) (w:World),(part e #[x,y] 0).run P w=.ok x w:=fun x y w=>run_part_plain w hp rfl;have p1:∀(x y:Value) (w:World),(part e #[x,y] 1).run P w=.ok y w:=fun x y w=>run_part_plain w hp rfl
 have c0:∀(m:Nat) (k:IntKind) (n:Int) (w:World),(Instr.checkKey b (m+1) e (.int k n)).run P w=.ok () w:=fun m k n w=>by
  simp[Instr.checkKey,run_underlying hq]
 have s0:∀w:World,(Go.sizeOf e).run P w=Result.ok 1 w:=fun w=>by rw[run_sizeOf w hi,hc]
 have main:∀m,(Instr.checkKey b (m+1+1) K (.agg #[.int k x,.int k' y])).run P w=.ok () w:=by
  intro m;rw[Instr.checkKey];simp only[Sem.run_bind,run_underlying hu,Result.andThen_ok,Std.Legacy.Range.forIn_eq_forIn_range',Std.Legacy.Range.size,Nat.sub_zero,Nat.add_one_sub_one,Nat.div_one];simp[List.range',s0,p0,p1,c0,Sem.run_bind,Result.andThen_ok]
 exact main 9998
theorem Wa {cap:Nat→Option CSig}{σ:Im}{P:Program}{K:TypeId}{kt:Ty}(hk:uR P K kt=true){v:Value}{d:D}(hv:Rep cap σ kt v d){w:World}{b:Bool}:(Instr.checkKey b 10000 K v).run P w=.ok () w:=by
 rcases YO hk with hk|hk
 case inr=>exact afx hk hv
 have:∀n,(Instr.checkKey b (n+1) K v).run P w=.ok () w:=by
  intro n;rcases Pa hk with⟨k,k',rfl,hu⟩|⟨rfl,hu⟩|⟨rfl,hu⟩<;>cases v<;>simp[Instr.checkKey,run_underlying hu]
 exact this 9999
section
variable {C:Ctx} {S:St} {ρ:Env} {σ:Im} {own:Nat→Option Nat} {hv:Nat→Value} {w0:World} {σ0:Base} {A:Nat→Prop} {a:Act} {w:World} {gs:List (Nat×Bool)} {Φ:aQ} {dst:Nat}
theorem al5 {P:Program}{K:TypeId}{kt:Ty}(hk:mh P K kt=true):∃desc,P.underlying K=some desc:=by
 rcases Pa hk with⟨k,k',rfl,hu⟩|⟨rfl,hu⟩|⟨rfl,hu⟩<;>exact⟨_,hu⟩
theorem aqT {cap:Nat→Option CSig}{P:Program}{K:TypeId}{kt et:Ty}(hk:Aq P K kt=true){v:Value}{d:D}(hv:Rep cap σ kt v d)(arr:Array MapEntry)(ds:List (D×D))(hl:ds.length=arr.size)
 (aO:∀(j:Nat) (e:MapEntry) (p:D×D),arr[j]?=some e→ds[j]?=some p→Rep cap σ kt e.key p.1∧Rep cap σ et e.val p.2) (w:World):
 ((Instr.findKey K v arr.toList).run P w=.ok none w∧dR d ds=none∧∀u,dc d u ds=ds++[(d,u)])∨
 ∃j e p,arr[j]?=some e∧ds[j]?=some p∧(Instr.findKey K v arr.toList).run P w=.ok (some (j,e.val)) w∧dR d ds=some p.2∧(∀u,dc d u ds=ds.set j (d,u))∧Instr.sameBits 10000 e.key v=true:=by
 obtain⟨k,k',e,q,i,rfl,hu,hq,hp,hi,hc⟩:=YP hk;have dB:∀(v':Value) (d':D),Rep cap σ (.agg [.int k,.int k']) v' d'→(Op.equal K v v').run P w=.ok (ew d d') w∧(ew d d'=true→Instr.sameBits 10000 v' v=true)∧Instr.sameNow (.array 2 e) v v'=none:=by
  intro v' d' h';obtain⟨a,b,rfl,rfl⟩:=hv.pair_inv;obtain⟨a',b',rfl,rfl⟩:=h'.pair_inv;refine⟨?_,fun he=>?_,rfl⟩
  ·rw[aqS hu hq hp hi hc];simp[ew,D.cells,q9,s9]
  ·have:a=a'∧b=b':=by simpa [ew,D.cells,q9,s9] using he
   obtain⟨rfl,rfl⟩:=this;simp[Instr.sameBits]
 have ask:∀(es:List MapEntry) (ds:List (D×D)) (i:Nat),ds.length=es.length→(∀(j:Nat) (e:MapEntry) (p:D×D),es[j]?=some e→ds[j]?=some p→Rep cap σ (.agg [.int k,.int k']) e.key p.1)→
  ((Instr.findAsking K v es i).run P w=.ok none w∧∀(j:Nat) (p:D×D),ds[j]?=some p→ew d p.1=false)∨
  ∃j e p,es[j]?=some e∧ds[j]?=some p∧(Instr.findAsking K v es i).run P w=.ok (some (i+j,e.val)) w∧ew d p.1=true∧Instr.sameBits 10000 e.key v=true∧∀m q,m<j→ds[m]?=some q→ew d q.1=false:=by
  intro es
  induction es with
  |nil=>intro ds i hl _;left;exact⟨by simp[Instr.findAsking],by cases ds<;>simp_all⟩
  |cons en es ih=>
   intro ds i hl aO;cases ds with
   |nil=>simp at hl
   |cons p ds=>
    obtain⟨hs,hb,_⟩:=dB en.key p.1 (aO 0 en p rfl rfl);cases m7:ew d p.1 with
    |true=>
     right;rw[m7] at hs;exact⟨0,en,p,rfl,rfl,by simp[Instr.findAsking,hs],m7,hb m7,fun m q hm=>by omega⟩
    |false=>
     rw[m7] at hs;rcases ih ds (i+1) (by simpa using hl) (fun j e' p' he hp=>aO (j+1) e' p' (by simpa using he) (by simpa using hp)) with⟨h1,h2⟩|⟨j,e',p',h1,h2,h3,h4,h5,h6⟩
     ·left;refine⟨by simp[Instr.findAsking,hs,h1],fun j q hq=>?_⟩;cases j with
      |zero=>simp at hq;subst hq;exact m7
      |succ j=>exact h2 j q (by simpa using hq)
     ·right;refine⟨j+1,e',p',by simpa using h1,by simpa using h2,?_,h4,h5,fun m q hm hq=>?_⟩
      ·simp[Instr.findAsking,hs,h3];omega
      ·cases m with
       |zero=>simp at hq;subst hq;exact m7
       |succ m=>exact h6 m q (by omega) (by simpa using hq)
 have kO:(Instr.findKey K v arr.toList).run P w=(Instr.findAsking K v arr.toList 0).run P w:=by
  cases jm:arr.toList with
  |nil=>simp[Instr.findKey,run_underlying hu,Instr.findNow,Instr.findAsking]
  |cons en es=>
   obtain⟨p,DB⟩:∃p,ds[0]?=some p:=by
        have:0<ds.length:=by rw[hl];have:=congrArg List.length jm;simp at this;omega
        exact⟨_,bA this⟩
   have NF:arr[0]?=some en:=by rw[←BE,jm];rfl
   have:=(dB en.key p.1 (aO 0 en p NF DB).1).2.2;simp[Instr.findKey,run_underlying hu,Instr.findNow,this]
 rw[kO];rcases ask arr.toList ds 0 (by simpa using hl) (fun j e p he hp=>(aO j e p (by simpa using he) hp).1) with⟨h1,h2⟩|⟨j,e,p,h1,h2,h3,h4,h5,h6⟩
 ·left;exact⟨h1,Pk h2,fun u=>QA h2⟩
 ·right;simp only[gF] at h3;exact⟨j,e,p,by simpa using h1,h2,h3,Pl h2 h4 h6,fun u=>QB h2 h4 h6,h5⟩
theorem run_findKey {cap:Nat→Option CSig}{P:Program}{K:TypeId}{kt et:Ty}(fX:uR P K kt=true){v:Value}{d:D}(hv:Rep cap σ kt v d)(arr:Array MapEntry)(ds:List (D×D))(hl:ds.length=arr.size)
 (aO:∀(j:Nat) (e:MapEntry) (p:D×D),arr[j]?=some e→ds[j]?=some p→Rep cap σ kt e.key p.1∧Rep cap σ et e.val p.2) (w:World):
 ((Instr.findKey K v arr.toList).run P w=.ok none w∧dR d ds=none∧∀u,dc d u ds=ds++[(d,u)])∨
 ∃j e p,arr[j]?=some e∧ds[j]?=some p∧(Instr.findKey K v arr.toList).run P w=.ok (some (j,e.val)) w∧dR d ds=some p.2∧(∀u,dc d u ds=ds.set j (d,u))∧Instr.sameBits 10000 e.key v=true:=by
 rcases YO fX with hk|hk
 case inr=>exact aqT hk hv arr ds hl aO w
 obtain⟨desc,hu⟩:=al5 hk;rcases ahg hk hu hv arr.toList ds 0 (by simpa using hl) (fun j e p he hp=>(aO j e p (by simpa using he) hp).1) with⟨h1,h2⟩|⟨j,e,p,h1,h2,h3,h4,h5,h6⟩
 ·left;exact⟨by simp[Instr.findKey,run_underlying hu,h1],Pk h2,fun u=>QA h2⟩
 ·right;refine⟨j,e,p,by simpa using h1,h2,?_,Pl h2 h4 h6,fun u=>QB h2 h4 h6,h5⟩;simp only[gF] at h3;simp[Instr.findKey,run_underlying hu,h3]
theorem aoL (h:Inv C S ρ σ own hv w0 σ0 A a w)(hC:CtxOK C σ0)(hg:holds gs ρ=true){T:TypeId}{m k:Operand}{ok:Bool}{r:Sh×List PI}(hr:AK C S gs dst T m k ok=some r){o:Oper}(ho:o.op=.lookup T m k ok):
 ei C S ρ σ hv Φ dst a w o r:=by
 unfold AK at hr;split at hr
 case h_2=>cases hr
 rename_i K E hT;simp only[av] at hr;obtain⟨p,hp,q,hq,hr⟩:=hr;have aT:=UZ h hC hg hp;have dJ:=cq h hC hg hq;split at hr
 case h_2=>cases hr
 rename_i kt et e1;rw[e1] at aT;split at hr
 case h_2=>cases hr
 rename_i z inf hz nZ;cases hc:(Ty.beq q.1 kt&&uR C.P K kt&&Ty.sub z.1 et&&tI inf et)<;>simp only[hc,cond_true,cond_false] at hr
 ·cases hr
 simp only[ao] at hc;obtain⟨⟨⟨IA,Dm⟩,bS⟩,hzero⟩:=hc;rw[Ty.beq_eq _ _ IA] at dJ;obtain⟨v0,sT,DV⟩:∃v0,inf.zero=some v0∧Rep C.cap σ et v0 z.2:=by
  unfold tI at hzero;split at hzero
  ·rename_i v0 e0;exact⟨v0,e0,(yf hz hzero).1.sub bS⟩
  ·cases hzero
 have ajM:∃(arr:Array MapEntry) (ds:List (D×D)),(p.2.ev ρ).m=ds∧ds.length=arr.size∧
  (∀(j:Nat) (e:MapEntry) (p:D×D),arr[j]?=some e→ds[j]?=some p→Rep C.cap σ kt e.key p.1∧Rep C.cap σ et e.val p.2)∧
  ((a.eval m=.map none∧arr=#[])∨∃g clock,a.eval m=.map (some g)∧w.heap[g]?=some (.map arr clock)):=by
  rcases aT with aT|⟨T',e,cells,xs,ht,_⟩|⟨g,arr,clock,es,kt',et',ht,Yr,hb,hd,hl,hx,aO⟩
  ·generalize xb:a.eval m=v at aT;generalize C8:p.2.ev ρ=d at aT;cases aT with
   |mapnil=>exact⟨#[],[],by simp[D.m],rfl,by simp,.inl ⟨rfl,rfl⟩⟩
   |map kt et r jD es hm hl hx hk he=>
    obtain⟨_,arr,clock,hb,jm⟩:=(h.ok.m _ _ hm).resolve_right (fun e=>D8 hl hk e.1);have hn:es.length=arr.size:=by rw[hl,←jm];simp[entriesOf]
    refine⟨arr,es,by simp[D.m],hn,fun j e p hj hp=>?_,.inr ⟨r,clock,rfl,hb⟩⟩;have:jD[j]?=some (e.key,e.val):=by rw[←jm];simp[entriesOf,hj]
    exact⟨hk j _ p this hp,he j _ p this hp⟩
  ·cases ht
  ·cases ht;exact⟨arr,es,by rw[hd];rfl,hl,aO,.inr ⟨g,clock,Yr,hb⟩⟩
 obtain⟨arr,ds,hd,hl,aO,cu⟩:=ajM;have sJ:∀b,(Instr.checkKey b 10000 K (a.eval k)).run C.P w=.ok () w:=fun b=>Wa (cap:=C.cap) (σ:=σ) Dm dJ;have NZ:∃u b x,(Instr.lookup T (a.eval m) (a.eval k) ok).run C.P w=.ok (if ok then .tuple #[u,.bool b] else u) w∧(dR (q.2.ev ρ) (p.2.ev ρ).m).getD z.2=x∧(dR (q.2.ev ρ) (p.2.ev ρ).m).isSome=b∧Rep C.cap σ et u x:=by
  rw[hd];rcases run_findKey Dm dJ arr ds hl aO w with⟨h1,h2,_⟩|⟨j,e,x,h1,h2,h3,h4,_,_⟩
  ·refine⟨v0,false,z.2,?_,by rw[h2];rfl,by rw[h2];rfl,DV⟩;rcases cu with⟨em,rfl⟩|⟨g,clock,em,hb⟩
   ·simp only[List.toList_toArray] at h1;cases ok<;>simp[Instr.lookup,run_underlying hT,em,sJ,h1,zeroValue,run_typeInfo w nZ,sT]
   ·cases ok<;>simp[Instr.lookup,run_underlying hT,em,getObj,Sem.run,hb,sJ,h1,zeroValue,run_typeInfo w nZ,sT]
  ·refine⟨e.val,true,x.2,?_,by rw[h4];rfl,by rw[h4];rfl,(aO j e x h1 h2).2⟩;rcases cu with⟨em,rfl⟩|⟨g,clock,em,hb⟩
   ·simp at h1
   ·cases ok<;>simp[Instr.lookup,run_underlying hT,em,getObj,Sem.run,hb,sJ,h3]
 obtain⟨u,b,x,ak,om,OZ,bW⟩:=NZ;cases ok with
 |true=>
  simp only[cond_true] at hr;cases hr;refine .dat (v:=.tuple #[u,.bool b]) (by simp[execOp,ho,ak]) ?_;simp only[PE.ev,PE.evs,om,OZ];refine .tup [et,.bool] [u,.bool b] [x,.v (.bool b)] rfl rfl (fun i t hi=>?_)
  match i,hi with
  |0,hi=>simp at hi;subst hi;exact bW
  |1,hi=>simp at hi;subst hi;exact .bool b
  |i+2,hi=>simp at hi
 |false=>
  simp only[cond_false] at hr;cases hr;refine .dat (v:=u) (by simp[execOp,ho,ak]) ?_;simp only[PE.ev,om];exact bW
end
end Cx
namespace Cx
open Go Go.RowKit
theorem WV (off:Nat):∀(l:List Value) (s:Nat) (cells:Array Value),off+s+l.length≤cells.size→
 ((l.zipIdx s).foldl (fun cs (x:Value×Nat)=>cs.setIfInBounds (off+x.2) x.1) cells).size=cells.size∧
 ∀p,((l.zipIdx s).foldl (fun cs (x:Value×Nat)=>cs.setIfInBounds (off+x.2) x.1) cells)[p]?=if off+s≤p∧p<off+s+l.length then l[p-(off+s)]? else cells[p]?
 |[],s,cells,_=>by
  refine⟨rfl,fun p=>?_⟩;have:¬(off+s≤p∧p<off+s+0):=by omega
  simp only[List.zipIdx_nil,List.foldl_nil,yj];rw[if_neg this]
 |v::l,s,cells,h=>by
  simp only[nI] at h;obtain⟨h1,h2⟩:=WV off l (s+1) (cells.setIfInBounds (off+s) v) (by simp;omega);simp only[List.zipIdx_cons,FZ];refine⟨by rw[h1];simp,fun p=>?_⟩;rw[h2 p];by_cases hp:p=off+s
  ·subst hp;have c1:¬(off+(s+1)≤off+s∧off+s<off+(s+1)+l.length):=by omega
   have c2:off+s≤off+s∧off+s<off+s+(v::l).length:=by simp
   rw[if_neg c1,if_pos c2,vL,if_pos rfl,if_pos (by omega)];simp
  ·by_cases hc:off+(s+1)≤p∧p<off+(s+1)+l.length
   ·have c2:off+s≤p∧p<off+s+(v::l).length:=by simp only[nI];omega
    rw[if_pos hc,if_pos c2];rw[show p-(off+s)=(p-(off+(s+1)))+1 by omega];simp
   ·have c2:¬(off+s≤p∧p<off+s+(v::l).length):=by simp only[nI];omega
    rw[if_neg hc,if_neg c2,vL];rw[if_neg (by omega)]
theorem M5 (place:Nat→Option (Nat×Nat)):∀(parts:List (Nat×Value)) (cells:Array Value),
 (∀p,p∈parts→∃o,place p.1=some (o,p.2.cells.size)∧o+p.2.cells.size≤cells.size)→
 (∀i j oi si oj sj,i≠j→place i=some (oi,si)→place j=some (oj,sj)→oi+si≤oj∨oj+sj≤oi)→(parts.map (·.1)).Nodup→
 ∃dF,Instr.fill place cells parts=some dF∧dF.size=cells.size∧
  (∀i v o,(i,v)∈parts→place i=some (o,v.cells.size)→∀m,m<v.cells.size→dF[o+m]?=v.cells[m]?)∧
  (∀i o s,i∉parts.map (·.1)→place i=some (o,s)→∀m,m<s→dF[o+m]?=cells[o+m]?)
 |[],cells,_,_,_=>⟨cells,rfl,rfl,by simp,fun _ _ _ _ _ _ _=>rfl⟩
 |(i,v)::parts,cells,h,zW,bp=>by
  obtain⟨o,hp,hle⟩:=h (i,v) (dq ..);simp only at hp hle;obtain⟨g1,g2⟩:=WV o v.cells.toList 0 cells (by simp;omega);simp only[gU,mS] at bp
  have hz:v.cells.zipIdx.foldl (fun cs (x:Value×Nat)=>cs.setIfInBounds (o+x.2) x.1) cells=(v.cells.toList.zipIdx 0).foldl (fun cs (x:Value×Nat)=>cs.setIfInBounds (o+x.2) x.1) cells:=by
    rw[←Array.foldl_toList];simp
  generalize uv:(v.cells.toList.zipIdx 0).foldl (fun cs (x:Value×Nat)=>cs.setIfInBounds (o+x.2) x.1) cells=c1 at g1 g2 hz
  obtain⟨dF,k1,k2,k3,k4⟩:=M5 place parts c1 (fun p hm=>by
    obtain⟨o',h1,h2⟩:=h p (dj _ hm);exact⟨o',h1,by rw[g1];exact h2⟩) zW bp.2
  refine⟨dF,?_,k2.trans g1,?_,?_⟩
  ·simp only[Instr.fill,hp];have:¬((v.cells.size≠v.cells.size||decide (o+v.cells.size>cells.size))=true):=by simp;omega
   rw[if_neg this];rw[←k1,←hz]
  ·intro j u o' hm Ae m ah;rcases cD.1 hm with e|fg
   ·cases e;rw[hp] at Ae;cases Ae;rw[k4 i o v.cells.size bp.1 hp m ah,g2];rw[if_pos (by simp;omega)];simp
   ·exact k3 j u o' fg Ae m ah
  ·intro j o' s' wW Ae m ah;simp only[gU,cD,not_or] at wW;rw[k4 j o' s' wW.2 Ae m ah,g2];have:=zW i j o v.cells.size o' s' (fun e=>wW.1 e.symm) hp Ae;rw[if_neg (by simp;omega)]
section
variable {C:Ctx} {S:St} {ρ:Env} {σ:Im} {own:Nat→Option Nat} {hv:Nat→Value} {w0:World} {σ0:Base} {A:Nat→Prop} {a:Act} {w:World} {gs:List (Nat×Bool)} {Φ:aQ} {dst:Nat}
theorem Rep.flat {cap:Nat→Option CSig}{t:Ty}{v:Value}{d:D}(h:Rep cap σ t v d)(ht:t.rowT=true∨t.one=true):
 t.flat.length=t.size∧d.cells.length=t.size∧∀(m:Nat) (tm:Ty),t.flat[m]?=some tm→tm.one=true∧Rep cap σ tm (v.cells.getD m undef) (d.cells.getD m .none):=by
 cases h with
 |agg ts vs ds h1 h2 h ho=>
  refine⟨rfl,by simp[D.cells,Ty.size,h2],fun m tm hm=>⟨ho m tm hm,?_⟩⟩;have:=h m tm hm;simpa [Value.cells,D.cells,dU,aJ] using this
 |tup ts vs ds h1 h2 h=>simp[Ty.rowT,Ty.one] at ht
 |_=>
  refine⟨rfl,rfl,fun m tm hm=>?_⟩
  match m,hm with
  |0,hm=>
   simp only[Ty.flat,Lq,aU] at hm;subst hm;refine⟨rfl,?_⟩;simp only[Value.cells,D.cells,tN];constructor<;>assumption
  |m+1,hm=>simp[Ty.flat] at hm
theorem ml:∀{l:List Nat},gx l=true→l.Nodup
 |[],_=>List.nodup_nil
 |a::r,h=>by
  simp only[gx,ao,gS] at h;refine mS.2 ⟨fun hm=>?_,ml h.2⟩;have:=Vj.1 h.1 a hm;simp at this
def Laid (P:Program):List Field→Nat→Prop
 |[],_=>True
 |f::fs,off=>f.offset=off∧∃inf,P.info? f.type=some inf∧Laid P fs (off+inf.size)
theorem Laid.get {P:Program}:∀{fs:List Field} {off:Nat},Laid P fs off→∀(i:Nat) (f:Field),fs[i]?=some f→∃inf,P.info? f.type=some inf∧off≤f.offset∧
 ∀(j:Nat) (g:Field),i<j→fs[j]?=some g→f.offset+inf.size≤g.offset
 |[],_,_,i,f,hi=>by simp at hi
 |f0::fs,off,h,i,f,hi=>by
  obtain⟨h1,inf,h2,h3⟩:=h;cases i with
  |zero=>
   simp at hi;subst hi;refine⟨inf,h2,by omega,fun j g hj hg=>?_⟩;cases j with
   |zero=>omega
   |succ j=>obtain⟨_,_,h4,_⟩:=h3.get j g (by simpa using hg);omega
  |succ i=>
   simp at hi;obtain⟨alT,k1,k2,k3⟩:=h3.get i f hi;refine⟨alT,k1,by omega,fun j g hj hg=>?_⟩;cases j with
   |zero=>omega
   |succ j=>exact k3 j g (by omega) (by simpa using hg)
theorem afa {zs:List Value}{parts:List (Nat×Operand)}:∀(fs:List Field) (i off:Nat) (r:List Ty×List PE),kJ C S gs zs parts fs i off=some r→Laid C.P fs off:=by
 intro fs
 induction fs with
 |nil=>intro i off r _;trivial
 |cons f fs ih=>
  intro i off r h;simp only[kJ] at h;split at h
  case h_2=>cases h
  rename_i inf ft hi ht;cases hc:(Nat.beq f.offset off&&Nat.beq inf.size ft.size)<;>simp only[hc,cond_true,cond_false] at h
  ·cases h
  simp only[ao] at hc;simp only[av] at h;obtain⟨q,hq,_⟩:=h;exact⟨az hc.1,inf,hi,ih _ _ _ hq⟩
theorem VW {zs:List Value}{parts:List (Nat×Operand)}:∀(fs:List Field) (i off:Nat) (r:List Ty×List PE),kJ C S gs zs parts fs i off=some r→off≤zs.length:=by
 intro fs
 induction fs with
 |nil=>intro i off r h;simp only[kJ] at h;cases hb:Nat.beq off zs.length<;>simp[hb] at h;exact Nat.le_of_eq (az hb)
 |cons f fs ih=>
  intro i off r h;simp only[kJ] at h;split at h
  case h_2=>cases h
  rename_i inf ft hi ht;cases hc:(Nat.beq f.offset off&&Nat.beq inf.size ft.size)<;>simp only[hc,cond_true,cond_false] at h
  ·cases h
  simp only[av] at h;obtain⟨q,hq,_⟩:=h;have:=ih _ _ _ hq;omega
theorem ae9 {zs:List Value}{parts:List (Nat×Operand)}:∀(fs:List Field) (i off:Nat) (r:List Ty×List PE),kJ C S gs zs parts fs i off=some r→
 ∃ft:List Ty×List PE,r=ft∧(∀(m:Nat) (f:Field) (inf:TypeInfo),fs[m]?=some f→C.P.info? f.type=some inf→f.offset+inf.size≤zs.length)∧(∀(m:Nat) (x:Nat×Operand) (f:Field) (inf:TypeInfo),fs[m]?=some f→C.P.info? f.type=some inf→parts.find? (fun p=>Nat.beq p.1 (i+m))=some x→∃y ft,use C S gs x.2=some y∧Ty.sub y.1 ft=true∧ft.size=inf.size)∧off+r.1.length=zs.length:=by
 intro fs
 induction fs with
 |nil=>intro i off r h;simp only[kJ] at h;cases hb:Nat.beq off zs.length<;>simp[hb] at h;subst h;exact⟨_,rfl,by simp,by simp,by simpa using az hb⟩
 |cons f fs ih=>
  intro i off r h;simp only[kJ] at h;split at h
  case h_2=>cases h
  rename_i inf ft hi ht;cases hc:(Nat.beq f.offset off&&Nat.beq inf.size ft.size)<;>simp only[hc,cond_true,cond_false] at h
  ·cases h
  simp only[ao] at hc;have jn:=az hc.1;have aK:=az hc.2;simp only[av] at h;obtain⟨q,hq,h⟩:=h;have hle:=VW _ _ _ _ hq;obtain⟨_,rfl,k1,k2,k3⟩:=ih _ _ _ hq;have e1:∀(m:Nat) (g:Field) (ig:TypeInfo),(f::fs)[m]?=some g→C.P.info? g.type=some ig→g.offset+ig.size≤zs.length:=by
   intro m g ig hm fV;cases m with
   |zero=>simp at hm;subst hm;rw[hi] at fV;cases fV;omega
   |succ m=>exact k1 m g ig (by simpa using hm) fV
  have WU:∀t:Ty,t.flat.length=t.size:=fun t=>by cases t<;>simp[Ty.flat,Ty.size]
  split at h
  ·rename_i x hx;simp only[av] at h;obtain⟨y,hy,h⟩:=h;cases hs:(Ty.sub y.1 ft&&(y.1.rowT||y.1.one))<;>simp only[hs,cond_true,cond_false] at h
   ·cases h
   cases h;simp only[ao] at hs;refine⟨_,rfl,e1,fun m x' g ig hm fV hf=>?_,?_⟩
   ·cases m with
    |zero=>
     simp at hm;subst hm;rw[hi] at fV;cases fV;simp only[iw] at hf;rw[hx] at hf;cases hf;exact⟨y,ft,hy,hs.1,aK.symm⟩
    |succ m=>exact k2 m x' g ig (by simpa using hm) fV (by rwa [show i+(m+1)=i+1+m by omega] at hf)
   ·have:=(Ty.sub_one _ _ hs.1).2;simp only[jG,WU];omega
  ·rename_i hx;cases mc:jE ft (rowOf ft.rowT ((zs.drop off).take inf.size))<;>simp only[mc,cond_true,cond_false] at h
   ·cases h
   simp only[aA] at h;obtain⟨z,hz,rfl⟩:=h;have bE:=(yf (cap:=C.cap) (σ:=⟨fun _ _=>none,fun _=>none⟩) hz mc).2.1;refine⟨_,rfl,e1,fun m x' g ig hm fV hf=>?_,?_⟩
   ·cases m with
    |zero=>simp only[iw] at hf;rw[hx] at hf;cases hf
    |succ m=>exact k2 m x' g ig (by simpa using hm) fV (by rwa [show i+(m+1)=i+1+m by omega] at hf)
   ·have:=(Ty.sub_one _ _ bE).2;simp only[jG,WU];omega
theorem afb (h:Inv C S ρ σ own hv w0 σ0 A a w)(hC:CtxOK C σ0)(hg:holds gs ρ=true){zs:List Value}{parts:List (Nat×Operand)}(cells:Array Value):
 ∀(fs:List Field) (i off:Nat) (r:List Ty×List PE),kJ C S gs zs parts fs i off=some r→
  (∀(m:Nat) (f:Field) (inf:TypeInfo),fs[m]?=some f→C.P.info? f.type=some inf→
        (∀x,parts.find? (fun p=>Nat.beq p.1 (i+m))=some x→∀q,q<inf.size→cells[f.offset+q]?=(a.eval x.2).cells[q]?)∧
        (parts.find? (fun p=>Nat.beq p.1 (i+m))=none→∀q,q<inf.size→cells[f.offset+q]?=zs[f.offset+q]?))→
  (PE.evc ρ r.2).length=r.1.length∧∀(m:Nat) (t:Ty),r.1[m]?=some t→t.one=true∧Rep C.cap σ t (cells.getD (off+m) undef) ((PE.evc ρ r.2).getD m .none):=by
 intro fs
 induction fs with
 |nil=>intro i off r hr _;simp only[kJ] at hr;cases hb:Nat.beq off zs.length<;>simp[hb] at hr;subst hr;simp[PE.evc]
 |cons f fs ih=>
  intro i off r hr aO;simp only[kJ] at hr;split at hr
  case h_2=>cases hr
  rename_i inf ft hi ht;cases hc:(Nat.beq f.offset off&&Nat.beq inf.size ft.size)<;>simp only[hc,cond_true,cond_false] at hr
  ·cases hr
  simp only[ao] at hc;have jn:=az hc.1;have aK:=az hc.2;simp only[av] at hr;obtain⟨q,hq,hr⟩:=hr
  obtain⟨l1,uH⟩:=ih (i+1) (off+inf.size) q hq (fun m g alU hm fV=>by
   have:=aO (m+1) g alU (by simpa using hm) fV
   rwa [show i+(m+1)=i+1+m by omega] at this)
  obtain⟨hp,hn⟩:=aO 0 f inf rfl hi;have join:∀(t:Ty) (v:Value) (d:D) (pe:PE),Rep C.cap σ t v d→(t.rowT=true∨t.one=true)→pe.ev ρ=d→t.size=inf.size→(∀m,m<inf.size→cells[f.offset+m]?=v.cells[m]?)→
        (PE.evc ρ (pe::q.2)).length=(t.flat++q.1).length∧∀(m:Nat) (t':Ty),(t.flat++q.1)[m]?=some t'→t'.one=true∧Rep C.cap σ t' (cells.getD (off+m) undef) ((PE.evc ρ (pe::q.2)).getD m .none):=by
   intro t v d pe bW hZ nf IY be;obtain⟨f1,f2,f3⟩:=bW.flat hZ;simp only[PE.evc,nf];refine⟨by simp[f1,f2,l1],fun m t' hm=>?_⟩;rw[lU] at hm;split at hm
   ·rename_i ah;obtain⟨g1,g2⟩:=f3 m t' hm;refine⟨g1,?_⟩;have e1:cells.getD (off+m) undef=v.cells.getD m undef:=by
     rw[dU,dU,←jn,be m (by omega)]
    have e2:(d.cells++PE.evc ρ q.2).getD m .none=d.cells.getD m .none:=by
     rw[aJ,aJ,jF (by omega)]
    rw[e1,e2];exact g2
   ·rename_i ff;obtain⟨g1,g2⟩:=uH _ t' hm;refine⟨g1,?_⟩;have e1:off+inf.size+(m-t.flat.length)=off+m:=by omega
    have e2:(d.cells++PE.evc ρ q.2).getD m .none=(PE.evc ρ q.2).getD (m-t.flat.length) .none:=by
     rw[aJ,aJ,kI (by omega)];rw[f1,←f2]
    rw[e1] at g2;rw[e2];exact g2
  simp only[iw] at hp hn;split at hr
  ·rename_i x hx;simp only[av] at hr;obtain⟨y,hy,hr⟩:=hr;cases hs:(Ty.sub y.1 ft&&(y.1.rowT||y.1.one))<;>simp only[hs,cond_true,cond_false] at hr
   ·cases hr
   cases hr;simp only[ao,gC] at hs;exact join y.1 _ _ y.2 (cq h hC hg hy) hs.2 rfl (by rw[(Ty.sub_one _ _ hs.1).2,aK]) (hp x hx)
  ·rename_i hx;cases mc:jE ft (rowOf ft.rowT ((zs.drop off).take inf.size))<;>simp only[mc,cond_true,cond_false] at hr
   ·cases hr
   simp only[aA] at hr;obtain⟨z,hz,rfl⟩:=hr;obtain⟨k1,k2,k3⟩:=yf (cap:=C.cap) (σ:=σ) hz mc;have ID:(rowOf ft.rowT ((zs.drop off).take inf.size)).cells.size=inf.size:=by rw[k1.size,(Ty.sub_one _ _ k2).2,aK]
   refine join z.1 _ z.2 (.con z.2) k1 ?_ rfl (by rw[(Ty.sub_one _ _ k2).2,aK]) (fun m hm=>?_)
   ·cases ft<;>simp[oT,qq] at hz<;>first|(subst hz;simp[Ty.one])|(obtain⟨_,_,rfl⟩:=hz;simp[Ty.rowT])
   ·rw[hn hx m hm,jn];cases uI:ft.rowT with
    |true=>simp[rowOf,Value.cells,eW,fS,hm]
    |false=>
     rw[uI] at ID k1;have h1:(z.1).rowT=false:=by
       have:=(Ty.sub_one _ _ k2)
       cases ft<;>simp[Ty.rowT] at uI<;>simp[oT,qq] at hz<;>subst hz<;>rfl
     rw[k1.cells1 h1] at ID ⊢;simp at ID;have XX:m=0:=by omega
     subst XX;have:∃u,zs[off]?=some u:=⟨_,bA (show off<zs.length by have:=VW _ _ _ _ hq;omega)⟩
     simp[rowOf,aJ,eW,fS,←ID];obtain⟨u,hu⟩:=this;simp[hu]
theorem YQ {P:Program}:∀(fs:List Field) (off:Nat),Laid P fs off→
 ∃l:List (Nat×Nat),fs.mapM (fun f=>(P.info? f.type).map fun i=>(f.offset,i.size))=some l∧l.length=fs.length∧
  ∀(i:Nat) (f:Field) (inf:TypeInfo),fs[i]?=some f→P.info? f.type=some inf→l[i]?=some (f.offset,inf.size)
 |[],_,_=>⟨[],rfl,rfl,by simp⟩
 |f::fs,off,h=>by
  obtain⟨h1,inf,h2,h3⟩:=h;obtain⟨l,k1,k2,k3⟩:=YQ fs _ h3;refine⟨(f.offset,inf.size)::l,?_,by simp[k2],fun i g ig hi fV=>?_⟩
  ·simp[Vr,h2,k1]
  ·cases i with
   |zero=>simp at hi;subst hi;rw[h2] at fV;cases fV;rfl
   |succ i=>simp at hi;simpa using k3 i g ig hi fV
theorem WK {parts:List (Nat×Operand)}(bp:(parts.map (·.1)).Nodup){i:Nat}{x:Operand}(h:(i,x)∈parts):parts.find? (fun p=>Nat.beq p.1 i)=some (i,x):=by
 induction parts with
 |nil=>cases h
 |cons p ps ih=>
  simp only[gU,mS] at bp;rcases cD.1 h with e|hm
  ·subst e;simp
  ·have:¬p.1=i:=fun e=>bp.1 (e▸List.mem_map_of_mem (f:=(·.1)) hm);rw[List.find?_cons_of_neg (by simpa using this)];exact ih bp.2 hm
theorem aos (h:Inv C S ρ σ own hv w0 σ0 A a w)(hC:CtxOK C σ0)(hg:holds gs ρ=true){T:TypeId}{ps:Array (Nat×Operand)}{r:Sh×List PI}(hr:AB C S gs dst T ps.toList=some r){o:Oper}(ho:o.op=.build T ps):
 ei C S ρ σ hv Φ dst a w o r:=by
 unfold AB at hr;split at hr
 case h_3=>cases hr
 case h_2=>
  rename_i n e inf hT nZ;split at hr
  case h_2=>cases hr
  rename_i zs ie hz hie;split at hr
  case h_2=>cases hr
  rename_i x y sQ;simp only[av] at hr;obtain⟨p,hp,q,hq,hr⟩:=hr;split at hr
  case h_2=>cases hr
  rename_i k k' hk aW;cases hc:(Nat.beq n 2&&Nat.beq zs.size 2&&Nat.beq ie.size 1)<;>simp only[hc,cond_true,cond_false] at hr
  ·cases hr
  cases hr;simp only[ao] at hc;obtain⟨⟨c1,c2⟩,c3⟩:=hc;have c1:=az c1;have c2:=az c2;have c3:=az c3;subst c1;have hx:=cq h hC hg hp;have hy:=cq h hC hg hq;rw[hk] at hx;rw[aW] at hy;obtain⟨a1,MV,ea2,_⟩:=hx.int_inv;obtain⟨b1,MW,eb2,_⟩:=hy.int_inv;have akY:ps=#[(0,x),(1,y)]:=by rw[←tK];exact sQ
  obtain⟨z0,z1,rfl⟩:∃z0 z1,zs=#[z0,z1]:=by
   match zs,c2 with
   |⟨[z0,z1]⟩,_=>exact⟨z0,z1,rfl⟩
  have Nv:C.P.built T [(0,a.eval x),(1,a.eval y)]=some #[a.eval x,a.eval y]:=by
   rw[MV,MW];simp only[Program.built,nZ,hT,hz,hie,c3];simp[Instr.fill,Value.cells]
  have ak:(execOp a.eval o).run C.P w=.ok (.value (.agg #[a.eval x,a.eval y])) w:=by
   have:=run_build (P:=C.P) w T (ps.map fun(x:Nat×Operand)=>(x.1,a.eval x.2)) #[a.eval x,a.eval y] (by rw[akY];simpa using Nv);simp[execOp,ho,this]
  refine .dat ak ?_;have e1:(PE.mk [p.2,q.2]).ev ρ=.agg [p.2.ev ρ,q.2.ev ρ]:=by simp[PE.ev,PE.evc,ea2,eb2,D.cells]
  rw[e1];refine .agg _ [a.eval x,a.eval y] _ rfl rfl (fun i t hi=>?_) (fun i t hi=>?_)
  ·match i,hi with
   |0,hi=>simp at hi;subst hi;rw[hk];simpa using hx
   |1,hi=>simp at hi;subst hi;rw[aW];simpa using hy
   |i+2,hi=>simp at hi
  ·match i,hi with
   |0,hi=>simp at hi;subst hi;rw[hk];rfl
   |1,hi=>simp at hi;subst hi;rw[aW];rfl
   |i+2,hi=>simp at hi
 rename_i fs inf hT nZ;split at hr
 case h_2=>cases hr
 rename_i zs hz;cases hc:(gx (ps.toList.map (·.1))&&ps.toList.all (fun p=>Nat.blt p.1 fs.size))<;>simp only[hc,cond_true,cond_false] at hr
 ·cases hr
 simp only[ao] at hc;obtain⟨bp,ah⟩:=hc;simp only[aA] at hr;obtain⟨q,hq,rfl⟩:=hr;have IB:=afa _ _ _ _ hq;have jS:=ml bp;obtain⟨_,rfl,aY,alE,NG⟩:=ae9 _ _ _ _ hq;obtain⟨pl,fi,azn,DD⟩:=YQ _ _ IB
 have jV:∀p,p∈(ps.toList.map fun(x:Nat×Operand)=>(x.1,a.eval x.2))→∃o,pl.toArray[p.1]?=some (o,p.2.cells.size)∧o+p.2.cells.size≤zs.size:=by
  intro p hp;obtain⟨x,hx,rfl⟩:=dM.1 hp;have xe:x.1<fs.toList.length:=by
   have:=bJ.1 ah x hx;have h2:x.1<fs.size:=by simpa [ix] using this
   simpa using h2
  obtain⟨f,hf⟩:∃f,fs.toList[x.1]?=some f:=⟨_,bA xe⟩
  obtain⟨ig,fV,_,_⟩:=IB.get _ _ hf;have De:=WK jS (i:=x.1) (x:=x.2) hx;obtain⟨y,ft,hy,bS,aK⟩:=alE x.1 (x.1,x.2) f ig hf fV (by simpa using De);have uK:=(cq h hC hg hy).size;rw[(Ty.sub_one _ _ bS).2,aK] at uK;simp only;refine⟨f.offset,?_,?_⟩
  ·rw[uK];simpa using DD x.1 f ig hf fV
  ·rw[uK];simpa using aY x.1 f ig hf fV
 have zW:∀(i j oi si oj sj:Nat),i≠j→pl.toArray[i]?=some (oi,si)→pl.toArray[j]?=some (oj,sj)→oi+si≤oj∨oj+sj≤oi:=by
  intro i j oi si oj sj ay hi hj;simp only[F1] at hi hj;obtain⟨f,hf⟩:∃f,fs.toList[i]?=some f:=⟨_,bA (by have:=(eC.1 hi).1;omega)⟩
  obtain⟨g,zZ⟩:∃g,fs.toList[j]?=some g:=⟨_,bA (by have:=(eC.1 hj).1;omega)⟩
  obtain⟨ig,fV,_,aks⟩:=IB.get _ _ hf;obtain⟨jg,hjg,_,akt⟩:=IB.get _ _ zZ;rw[DD i f ig hf fV] at hi;rw[DD j g jg zZ hjg] at hj;cases hi;cases hj;rcases Lx i j with ah|ff
  ·exact .inl (aks j g ah zZ)
  ·exact .inr (akt i f (by omega) hf)
 obtain⟨dF,f1,f2,f3,f4⟩:=M5 (pl.toArray[·]?) (ps.toList.map fun(x:Nat×Operand)=>(x.1,a.eval x.2)) zs jV zW (by simpa [FW] using jS)
 have Nv:C.P.built T (ps.toList.map fun(x:Nat×Operand)=>(x.1,a.eval x.2))=some dF:=by
  simp only[Program.built,nZ,hT,hz,fi];exact f1
 have ak:(execOp a.eval o).run C.P w=.ok (.value (.agg dF)) w:=by
  have:=run_build (P:=C.P) w T (ps.map fun(x:Nat×Operand)=>(x.1,a.eval x.2)) dF (by rw[vM];exact Nv);simp[execOp,ho,this]
 refine .dat ak ?_;have qQ:∀(m:Nat) (f:Field) (ig:TypeInfo),fs.toList[m]?=some f→C.P.info? f.type=some ig→
  (∀x,ps.toList.find? (fun p=>Nat.beq p.1 (0+m))=some x→∀q,q<ig.size→dF[f.offset+q]?=(a.eval x.2).cells[q]?)∧
  (ps.toList.find? (fun p=>Nat.beq p.1 (0+m))=none→∀q,q<ig.size→dF[f.offset+q]?=zs.toList[f.offset+q]?):=by
  intro m f ig hm fV;refine⟨fun x hx p hp=>?_,fun hx p hp=>?_⟩
  ·have om:x.1=m:=by have:=Lp hx;simpa using this
   have An:(x.1,a.eval x.2)∈(ps.toList.map fun(x:Nat×Operand)=>(x.1,a.eval x.2)):=dM.2 ⟨x,yk hx,rfl⟩;obtain⟨o',dZ,hle⟩:=jV _ An;simp only at dZ hle;have Yb:=DD m f ig hm fV;simp only[F1,om] at dZ;rw[Yb] at dZ;simp only[aU,nL] at dZ;obtain⟨e1,e2⟩:=dZ;exact f3 x.1 (a.eval x.2) f.offset An (by simp[om,Yb,←e2]) p (by omega)
  ·have wW:m∉(ps.toList.map fun(x:Nat×Operand)=>(x.1,a.eval x.2)).map (·.1):=by
        intro cQ;simp only[Ls,dM,FW] at cQ;obtain⟨x,An,e⟩:=cQ;have:=vS.1 hx x An;simp[e] at this
   rw[f4 m f.offset ig.size wW (by simpa using DD m f ig hm fV) p hp];simp
 obtain⟨l1,aO⟩:=afb h hC hg dF _ _ _ _ hq qQ
 ·simp only[PE.ev];have:dF=dF.toList.toArray:=by simp
  rw[this];have hlen:dF.toList.length=q.1.length:=by simp[f2] at NG ⊢;omega
  refine .agg _ _ _ hlen l1 (fun i t hi=>?_) (fun i t hi=>(aO i t hi).1);have:=(aO i t hi).2;simpa [dU,aJ] using this
end
end Cx
