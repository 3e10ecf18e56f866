/-
  Shared texts of this claim.
-/
import Derived.Test.YtipjidjopglknaaGreatDoorEAA
import Derived.ChangeKeysEq
import Derived.Laws.Tables
set_option linter.unusedSimpArgs false
set_option linter.unusedVariables false
namespace Cx
open Go Go.RowKit
theorem Rep.int_inv {cap:Nat→Option CSig}{σ:Im}{k:IntKind}{v:Value}{d:D}(h:Rep cap σ (.int k) v d):∃n,v=.int k n∧d=.v (.int k n)∧k.min≤n∧n≤k.max:=by
 cases h with
 |int k n h1 h2=>exact⟨n,rfl,rfl,h1,h2⟩
theorem Rep.bool_inv {cap:Nat→Option CSig}{σ:Im}{v:Value}{d:D}(h:Rep cap σ .bool v d):∃b,v=.bool b∧d=.v (.bool b):=by
 cases h with
 |bool b=>exact⟨b,rfl,rfl⟩
theorem Rep.str_inv {cap:Nat→Option CSig}{σ:Im}{v:Value}{d:D}(h:Rep cap σ .str v d):∃s,v=.string s∧d=.v (.string s)∧s.size≤maxLen:=by
 cases h with
 |str s h=>exact⟨s,rfl,rfl,h⟩
theorem Rep.slice_inv {cap:Nat→Option CSig}{σ:Im}{e:Ty}{v:Value}{d:D}(h:Rep cap σ (.slice e) v d):∃xs,d=.list xs∧
 (((∃p,v=.slice p 0 0)∧xs=[])∨∃k o c,v=.slice (some ⟨k,o,none⟩) xs.length c∧xs.length≤c∧c≤maxLen∧
   ∃vs:Nat→Value,(∀(i:Nat) (x:D),xs[i]?=some x→Rep cap σ e.unf (vs i) x)∧∀(i j:Nat) (u:Value),i<xs.length→(vs i).cells[j]?=some u→σ.c k (o+i*e.size+j)=some u):=by
 cases h with
 |nil e=>exact⟨[],rfl,.inl ⟨⟨_,rfl⟩,rfl⟩⟩
 |emp e a=>exact⟨[],rfl,.inl ⟨⟨_,rfl⟩,rfl⟩⟩
 |slice e k o n c xs vs hn hc hm h hv hz=>subst hn;exact⟨xs,rfl,.inr ⟨k,o,c,rfl,hc,hm,vs,h,hv⟩⟩
theorem Rep.slice_inv' {cap:Nat→Option CSig}{σ:Im}{e:Ty}{v:Value}{d:D}(h:Rep cap σ (.slice e) v d):∃xs,d=.list xs∧
 (((∃p,v=.slice p 0 0)∧xs=[])∨∃k o c,v=.slice (some ⟨k,o,none⟩) xs.length c∧xs.length≤c∧c≤maxLen∧(e=.int .i64→σ.m k=some gE)∧
   ∃vs:Nat→Value,(∀(i:Nat) (x:D),xs[i]?=some x→Rep cap σ e.unf (vs i) x)∧∀(i j:Nat) (u:Value),i<xs.length→(vs i).cells[j]?=some u→σ.c k (o+i*e.size+j)=some u):=by
 cases h with
 |nil e=>exact⟨[],rfl,.inl ⟨⟨_,rfl⟩,rfl⟩⟩
 |emp e a=>exact⟨[],rfl,.inl ⟨⟨_,rfl⟩,rfl⟩⟩
 |slice e k o n c xs vs hn hc hm h hv hz=>subst hn;exact⟨xs,rfl,.inr ⟨k,o,c,rfl,hc,hm,hz,vs,h,hv⟩⟩
theorem Rep.ref_inv {cap:Nat→Option CSig}{σ:Im}{t:Ty}{v:Value}{d:D}(h:Rep cap σ (.ref t) v d):∃k o x y,v=.pointer (some ⟨k,o,none⟩)∧d=.ref y∧Rep cap σ t x y∧∀(j:Nat) (u:Value),x.cells[j]?=some u→σ.c k (o+j)=some u:=by
 cases h with
 |ref t k o x y h hv=>exact⟨k,o,x,y,rfl,rfl,h,hv⟩
theorem Rep.agg_inv {cap:Nat→Option CSig}{σ:Im}{ts:List Ty}{v:Value}{d:D}(h:Rep cap σ (.agg ts) v d):∃(vs:List Value) (ds:List D),v=.agg vs.toArray∧d=.agg ds∧vs.length=ts.length∧ds.length=ts.length∧
 (∀(i:Nat) (t:Ty),ts[i]?=some t→Rep cap σ t (vs.getD i undef) (ds.getD i .none))∧∀(i:Nat) (t:Ty),ts[i]?=some t→t.one=true:=by
 cases h with
 |agg ts vs ds h1 h2 h ho=>exact⟨vs,ds,rfl,rfl,h1,h2,h,ho⟩
theorem Rep.tup_inv {cap:Nat→Option CSig}{σ:Im}{ts:List Ty}{v:Value}{d:D}(h:Rep cap σ (.tup ts) v d):∃(vs:List Value) (ds:List D),v=.tuple vs.toArray∧d=.tup ds∧vs.length=ts.length∧ds.length=ts.length∧
 (∀(i:Nat) (t:Ty),ts[i]?=some t→Rep cap σ t (vs.getD i undef) (ds.getD i .none)):=by
 cases h with
 |tup ts vs ds h1 h2 h=>exact⟨vs,ds,rfl,rfl,h1,h2,h⟩
theorem qH (k:IntKind)(n:Int):k.min≤k.wrap n∧k.wrap n≤k.max:=by
 cases k<;>simp only[IntKind.min,IntKind.max,IntKind.wrap,IntKind.signed,IntKind.bits]<;>simp<;>(try split)<;>omega
theorem aa2 (k:IntKind){a b:Int}(ha:k.min≤a∧a≤k.max):k.min≤a.tmod b∧a.tmod b≤k.max:=by
 have h1:k.min≤0:=by cases k<;>decide
 have h2:0≤k.max:=by cases k<;>decide
 have hn:(a.tmod b).natAbs≤a.natAbs:=by rw[Int.natAbs_tmod];exact Nat.mod_le _ _
 rcases Int.le_total 0 a with h|h
 ·have:=Int.tmod_nonneg b h;omega
 ·have:a.tmod b≤0:=by
   have:=Int.tmod_nonneg b (a:=-a) (by omega);rw[Int.neg_tmod] at this;omega
  omega
theorem Un (k:IntKind){a:Int}(n:Nat)(ha:k.min≤a∧a≤k.max):k.min≤a.fdiv (2^n)∧a.fdiv (2^n)≤k.max:=by
 have h1:k.min≤0:=by cases k<;>decide
 have h2:0≤k.max:=by cases k<;>decide
 have hp:(0:Int)<2^n:=Int.pow_pos (by decide);rw[acb _ (by omega)];rcases Int.le_total 0 a with h|h
 ·have h3:=Int.ediv_nonneg h (by omega:(0:Int)≤2^n);have h4:=Int.ediv_le_self (b:=2^n) h;omega
 ·have h3:a/2^n≤0:=by
   have:=Int.ediv_le_ediv hp h;simpa using this
  have h4:a≤a/2^n:=by
   rw[Int.le_ediv_iff_mul_le hp];have:a*2^n≤a*1:=Int.mul_le_mul_of_nonpos_left h (by omega);omega
  omega
section
variable {C:Ctx} {S:St} {ρ:Env} {σ:Im} {own:Nat→Option Nat} {hv:Nat→Value} {w0:World} {σ0:Base} {A:Nat→Prop} {a:Act} {w:World} {gs:List (Nat×Bool)} {Φ:aK} {dst:Nat}
theorem sq {e:PE}{ρ':Env}(h:PI.runs Φ [.setR dst e] ρ=some ρ'):ρ'=ρ.setR dst (e.ev ρ):=by
 simp[PI.runs,PI.run] at h;exact h.symm
theorem P0 (hg:holds gs ρ=true){c e:PE}{ρ':Env}(h:PI.runs Φ [pM gs c,.setR dst e] ρ=some ρ'):(c.ev ρ).b=true∧ρ'=ρ.setR dst (e.ev ρ):=by
 simp only[PI.runs,PI.run,pM] at h;cases dC:gs with
 |nil=>
  subst dC;simp only at h;cases hb:(c.ev ρ).b<;>simp[hb] at h;exact⟨rfl,h.symm⟩
 |cons g r=>
  rw[dC] at h;simp only at h;rw[dC] at hg;cases hb:(c.ev ρ).b
  ·simp[PE.ev,hg,hb,D.b_bool] at h
  ·simp[PE.ev,hg,hb,D.b_bool] at h;exact⟨rfl,h.symm⟩
def dW (C:Ctx)(S:St)(ρ:Env)(σ:Im)(hv:Nat→Value)(Φ:aK)(dst:Nat)(a:Act)(w:World)(o:Oper)(r:Sh×List PI):Prop:=
 ∀ρ',PI.runs Φ r.2 ρ=some ρ'→∃v d,ρ'=ρ.setR dst d∧(execOp a.eval o).run C.P w=.ok (.value v) w∧aD C S ρ σ hv r.1 v d∧∀gs s,r.1≠.opt gs s
theorem dW.dat {o:Oper}{t:Ty}{e:PE}{v:Value}(hx:(execOp a.eval o).run C.P w=.ok (.value v) w)(hr:Rep C.cap σ t v (e.ev ρ)):
 dW C S ρ σ hv Φ dst a w o (.dat t,[.setR dst e]):=by
 intro ρ' h;exact⟨v,e.ev ρ,sq h,hx,hr,fun _ _ e=>by cases e⟩
theorem dW.datc (hg:holds gs ρ=true){o:Oper}{t:Ty}{c e:PE}(hx:(c.ev ρ).b=true→∃v,(execOp a.eval o).run C.P w=.ok (.value v) w∧Rep C.cap σ t v (e.ev ρ)):
 dW C S ρ σ hv Φ dst a w o (.dat t,[pM gs c,.setR dst e]):=by
 intro ρ' h;obtain⟨hb,he⟩:=P0 hg h;obtain⟨v,h1,h2⟩:=hx hb;exact⟨v,e.ev ρ,he,h1,h2,fun _ _ e=>by cases e⟩
theorem YS (h:Inv C S ρ σ own hv w0 σ0 A a w)(hC:CtxOK C σ0)(hg:holds gs ρ=true){x:Operand}{r:Sh×List PI}(hr:oR C S gs dst x=some r){o:Oper}(ho:o.op=.move x∨o.op=.assign x):
 dW C S ρ σ hv Φ dst a w o r:=by
 have hx:(execOp a.eval o).run C.P w=.ok (.value (a.eval x)) w:=by rcases ho with ho|ho<;>simp[execOp,ho,Sem.run,pure]
 unfold oR at hr;split at hr
 ·rename_i y hy;cases hr;exact .dat hx (cf h hC hg hy)
 ·split at hr
  ·rename_i t _;obtain⟨hs,hn⟩:=lP h hg t;split at hr
   ·cases hr
   ·cases hr
   ·cases hr;intro ρ' h';exact⟨_,_,sq h',hx,hs,hn⟩
  ·cases hr
theorem al7 (h:Inv C S ρ σ own hv w0 σ0 A a w)(hC:CtxOK C σ0)(hg:holds gs ρ=true){c x y:Operand}{r:Sh×List PI}(hr:zH C S gs dst c x y=some r){o:Oper}(ho:o.op=.pick c x y):
 dW C S ρ σ hv Φ dst a w o r:=by
 unfold zH at hr;split at hr
 ·rename_i t;split at hr
  ·rename_i es;obtain⟨hs,_⟩:=lP h hg t;rw[es] at hs;obtain⟨b,aO,aZ⟩:=Rep.bool_inv hs;simp only[aq] at hr;obtain⟨q1,h1,q2,h2,hr⟩:=hr;cases hb:Ty.beq q1.1 q2.1<;>simp only[hb,cond_true,cond_false] at hr
   ·cases hr
   ·cases hr;have e2:=Ty.beq_eq _ _ hb;have ah:(execOp a.eval o).run C.P w=.ok (.value (if b then a.eval x else a.eval y)) w:=by
     have:a.eval (.tmp t)=.bool b:=aO;simp[execOp,ho,this,asBool,Sem.run,pure,bind,Sem.bind]
    refine .dat ah ?_;show Rep C.cap σ q1.1 _ (bif (ρ.r t).b then q1.2.ev ρ else q2.2.ev ρ);have eh:(ρ.r t).b=b:=by rw[aZ];rfl
    cases b with
    |true=>
     simp only[eh,cond_true,if_true];exact cf h hC (by simp only[holds,pB,eh];exact hg) h1
    |false=>
     simp only[eh,cond_false];rw[e2];exact cf h hC (by simp only[holds,pB,eh];exact hg) h2
  ·cases hr
 ·cases hr
theorem I5 {op:BinOp}{T T':TypeId}{x y:Operand}{v v':Value}{o:Oper}(ho:o.op=.binOp op T x y T')(hv:a.eval x=v)(hv':a.eval y=v')(h1:∀u,v≠.agg u)(h2:v≠.nilIface):
 (execOp a.eval o).run C.P w=((binOp op T v v').bind fun r=>.pure (.value r)).run C.P w:=by
 have he:eqGuard op T x y v v'=.pure ():=by
  cases v<;>first|(exact absurd rfl h2)|(exact absurd rfl (h1 _))|(cases op<;>simp[eqGuard]<;>rfl)
 simp only[execOp,ho,hv,hv',he];rfl
theorem Ug {P:Program}{cap:Nat→Option CSig}{σ:Im}{ρ:Env}{x y:PE}(w:World)(d:Nat){t:Ty}{T:TypeId}{v u:Value}{e:PE}(hk:lG P T t=true)(he:vd t x y=some e)(g1:Rep cap σ t v (x.ev ρ))(g2:Rep cap σ t u (y.ev ρ)):
 ∃b,e.ev ρ=.v (.bool b)∧(Op.equalIn (d+1) T v u).run P w=.ok b w:=by
 cases t with
 |int k=>
  obtain⟨n,v1,d1,_⟩:=g1.int_inv;obtain⟨m,v2,d2,_⟩:=g2.int_inv;simp only[vd,aQ] at he;subst he;have hu:∃k',P.underlying T=some (.int k'):=by
   simp only[lG] at hk;split at hk
   ·exact⟨_,by assumption⟩
   ·cases hk
  obtain⟨k',hu⟩:=hu;exact⟨n==m,by simp only[PE.ev,d1,d2];rfl,by rw[v1,v2];exact run_equalIn_int w d T k k' n m hu⟩
 |bool=>
  obtain⟨n,v1,d1⟩:=g1.bool_inv;obtain⟨m,v2,d2⟩:=g2.bool_inv;simp only[vd,aQ] at he;subst he;have hu:P.underlying T=some .bool:=by
   simp only[lG] at hk;split at hk
   ·assumption
   ·cases hk
  exact⟨n==m,by simp only[PE.ev,d1,d2];rfl,by rw[v1,v2];exact run_equalIn_bool' w d T n m hu⟩
 |str=>
  obtain⟨n,v1,d1,_⟩:=g1.str_inv;obtain⟨m,v2,d2,_⟩:=g2.str_inv;simp only[vd,aQ] at he;subst he;have hu:P.underlying T=some .string:=by
   simp only[lG] at hk;split at hk
   ·assumption
   ·cases hk
  exact⟨n.toList==m.toList,by simp only[PE.ev,d1,d2];rfl,by rw[v1,v2];exact run_equalIn_string w d T n m hu⟩
 |_=>simp[vd] at he
theorem afi {P:Program}{cap:Nat→Option CSig}{σ:Im}{ρ:Env}{x y:PE}{X Y:List D}(w:World)(hx:x.ev ρ=.agg X)(hy:y.ev ρ=.agg Y){vs us:List Value}(b d:Nat):
 ∀(fs:List Field) (i:Nat) (ts:List Ty) (e:PE),va P x y b fs i ts=some e→(∀j t,ts[j]?=some t→Rep cap σ t (vs.getD (i+j) undef) (X.getD (b+i+j) .none)∧Rep cap σ t (us.getD (i+j) undef) (Y.getD (b+i+j) .none))→
  i+ts.length≤vs.length→i+ts.length≤us.length→
  ∃b,e.ev ρ=.v (.bool b)∧(Op.eqFields (d+1) vs.toArray us.toArray fs).run P w=.ok b w:=by
 intro fs
 induction fs with
 |nil=>
  intro i ts e h _ _ _;cases ts with
  |nil=>simp only[va,aQ] at h;subst h;exact⟨true,rfl,rfl⟩
  |cons t ts=>simp[va] at h
 |cons f fs ih=>
  intro i ts e h hr l1 l2;cases ts with
  |nil=>simp[va] at h
  |cons t ts=>
   simp only[va] at h;cases hc:((f.name != "_")&&Nat.beq f.offset i&&lG P f.type t&&P.plainKey f.type)<;>simp only[hc,cond_true,cond_false] at h
   ·cases h
   simp only[aj,bne_iff_ne,ne_eq] at hc;obtain⟨⟨⟨hn,ho⟩,hk⟩,hp⟩:=hc;have ho:=av ho;simp only[aq,ax] at h;obtain⟨e1,jr,r,lz,rfl⟩:=h
   obtain⟨b2,bT,CO⟩:=ih (i+1) ts r lz (fun j t hj=>by
        have:=hr (j+1) t (by simpa using hj)
        rwa [show i+(j+1)=i+1+j by omega,show b+i+(j+1)=b+(i+1)+j by omega] at this) (by simp at l1;omega) (by simp at l2;omega)
   obtain⟨g1,g2⟩:=hr 0 t rfl;rw[ib,ib] at g1 g2;simp only[pE] at l1 l2;have tE:vs.toArray[f.offset]?=some (vs.getD i undef):=by rw[ho];simp[aG,show i<vs.length by omega]
   have MU:us.toArray[f.offset]?=some (us.getD i undef):=by rw[ho];simp[aG,show i<us.length by omega]
   have p1:=run_part_plain (P:=P) (w:=w) hp tE;have p2:=run_part_plain (P:=P) (w:=w) hp MU;have ex:(PE.cell x (b+i)).ev ρ=X.getD (b+i) .none:=by simp only[PE.ev,hx];rfl
   have ey:(PE.cell y (b+i)).ev ρ=Y.getD (b+i) .none:=by simp only[PE.ev,hy];rfl
   obtain⟨b1,dJ,nj⟩:=Ug (P:=P) w d (ρ:=ρ) hk jr (by rw[ex];exact g1) (by rw[ey];exact g2);refine⟨b1&&b2,by simp only[PE.ev,dJ,bT];rfl,?_⟩;simp only[Op.eqFields,if_pos hn,Sem.run_bind,p1,p2,nj,Result.andThen_ok];cases b1
   ·rfl
   ·simpa using CO
theorem afh {P:Program}{cap:Nat→Option CSig}{σ:Im}{ρ:Env}{x y:PE}{X Y:List D}(w:World)(hx:x.ev ρ=.agg X)(hy:y.ev ρ=.agg Y){vs us:List Value}(d:Nat):
 ∀(fs:List Field) (i:Nat) (ts:List Ty) (e:PE),vb P x y fs i ts=some e→(∀j t,ts[j]?=some t→Rep cap σ t (vs.getD (i+j) undef) (X.getD (i+j) .none)∧Rep cap σ t (us.getD (i+j) undef) (Y.getD (i+j) .none))→
  i+ts.length≤vs.length→i+ts.length≤us.length→
  ∃b,e.ev ρ=.v (.bool b)∧(Op.eqFields (d+2) vs.toArray us.toArray fs).run P w=.ok b w:=by
 intro fs
 induction fs with
 |nil=>
  intro i ts e h _ _ _;cases ts with
  |nil=>simp only[vb,aQ] at h;subst h;exact⟨true,rfl,rfl⟩
  |cons t ts=>simp[vb] at h
 |cons f fs ih=>
  intro i ts e h hr l1 l2;unfold vb at h;split at h
  ·rename_i n br;cases hb:Nat.ble n ts.length<;>simp only[hb,cond_true,cond_false] at h
   ·cases h
   have hn:=jo hb;simp only[aq,ax] at h;obtain⟨e1,jr,r,lz,rfl⟩:=h
   obtain⟨b2,bT,CO⟩:=ih (i+n) (ts.drop n) r lz (fun j t hj=>by
        have:=hr (n+j) t (by rw[fJ] at hj;exact hj)
        rwa [show i+(n+j)=i+n+j by omega] at this) (by rw[JN];omega) (by rw[JN];omega)
   unfold Wp at br;split at br
   case h_2=>cases br
   rename_i fs' hu;cases hc:((f.name != "_")&&Nat.beq f.offset i&& !P.stoodInHeld f.type)<;>simp only[hc,cond_true,cond_false] at br
   ·cases br
   cases br;simp only[aj,bne_iff_ne,ne_eq,hZ] at hc;obtain⟨⟨ay,ho⟩,cC⟩:=hc;have ho:=av ho;have jt:P.underlying f.type=some (.struct (P.fieldsOf f.type)):=by unfold Program.fieldsOf;rw[hu]
   obtain⟨inf,hi⟩:=info_of_underlying hu
   have ng:∀zs:List Value,(part f.type zs.toArray f.offset).run P w=.ok (.agg ((zs.drop i).take (P.cellsOf f.type)).toArray) w:=fun zs=>by
        have:(zs.toArray.extract f.offset (f.offset+P.cellsOf f.type))=((zs.drop i).take (P.cellsOf f.type)).toArray:=by
         rw[ho];apply qJ;rw[Array.toList_extract];simp[List.extract]
        rw[←this];simp[part,isAgg,run_underlying hu,run_sizeOf w hi]
   obtain⟨b1,dJ,nj⟩:=afi (P:=P) (cap:=cap) (σ:=σ) (ρ:=ρ) w hx hy (vs:=(vs.drop i).take (P.cellsOf f.type)) (us:=(us.drop i).take (P.cellsOf f.type)) i d _ 0 (ts.take (P.cellsOf f.type)) e1 jr (fun j t hj=>by
        rw[fl] at hj;split at hj
        ·rename_i L1;have:=hr j t hj;simpa [aG,fl,L1,fJ] using this
        ·cases hj) (by simp only[dN,JN];omega) (by simp only[dN,JN];omega)
   have aiZ:(Op.equalIn (d+2) f.type (.agg ((vs.drop i).take (P.cellsOf f.type)).toArray) (.agg ((us.drop i).take (P.cellsOf f.type)).toArray)).run P w=.ok b1 w:=by
        rw[run_equalIn_struct w (d+1) f.type _ _ jt cC];exact nj
   refine⟨b1&&b2,by simp only[PE.ev,dJ,bT];rfl,?_⟩;simp only[Op.eqFields,if_pos ay,Sem.run_bind,ng,aiZ,Result.andThen_ok];cases b1
   ·rfl
   ·simpa using CO
  ·split at h
   ·rename_i t ts;cases hc:((f.name != "_")&&Nat.beq f.offset i&&lG P f.type t&&P.plainKey f.type)<;>simp only[hc,cond_true,cond_false] at h
    ·cases h
    simp only[aj,bne_iff_ne,ne_eq] at hc;obtain⟨⟨⟨hn,ho⟩,hk⟩,hp⟩:=hc;have ho:=av ho;simp only[aq,ax] at h;obtain⟨e1,jr,r,lz,rfl⟩:=h
    obtain⟨b2,bT,CO⟩:=ih (i+1) ts r lz (fun j t hj=>by
     have:=hr (j+1) t (by simpa using hj)
     rwa [show i+(j+1)=i+1+j by omega] at this) (by simp at l1;omega) (by simp at l2;omega)
    obtain⟨g1,g2⟩:=hr 0 t rfl;rw[ib] at g1 g2;simp only[pE] at l1 l2;have tE:vs.toArray[f.offset]?=some (vs.getD i undef):=by rw[ho];simp[aG,show i<vs.length by omega]
    have MU:us.toArray[f.offset]?=some (us.getD i undef):=by rw[ho];simp[aG,show i<us.length by omega]
    have p1:=run_part_plain (P:=P) (w:=w) hp tE;have p2:=run_part_plain (P:=P) (w:=w) hp MU;have ex:(PE.cell x i).ev ρ=X.getD i .none:=by simp only[PE.ev,hx];rfl
    have ey:(PE.cell y i).ev ρ=Y.getD i .none:=by simp only[PE.ev,hy];rfl
    obtain⟨b1,dJ,nj⟩:=Ug (P:=P) w (d+1) (ρ:=ρ) hk jr (by rw[ex];exact g1) (by rw[ey];exact g2);refine⟨b1&&b2,by simp only[PE.ev,dJ,bT];rfl,?_⟩;simp only[Op.eqFields,if_pos hn,Sem.run_bind,p1,p2,nj,Result.andThen_ok];cases b1
    ·rfl
    ·simpa using CO
   ·cases h
theorem alG (h:Inv C S ρ σ own hv w0 σ0 A a w)(hC:CtxOK C σ0)(hg:holds gs ρ=true){op:BinOp}{T T':TypeId}{x y:Operand}{r:Sh×List PI}(hr:zw C S gs dst op T x y=some r){o:Oper}(ho:o.op=.binOp op T x y T'):
 dW C S ρ σ hv Φ dst a w o r:=by
 simp only[zw,aq] at hr;obtain⟨p,hp,q,hq,hr⟩:=hr;have aR:=cf h hC hg hp;have dt:=cf h hC hg hq;split at hr
 ·rename_i k k' e1 e2;rw[e1] at aR;rw[e2] at dt;obtain⟨n,aO,aZ,b1,b2⟩:=aR.int_inv;obtain⟨m,gT,dK,b3,b4⟩:=dt.int_inv;have ah:=I5 (C:=C) (w:=w) ho aO gT (by intro u e;cases e) (by intro e;cases e);cases fw:(op==.shl||op==.shr)<;>simp only[fw,cond_true,cond_false] at hr
  ·cases tn:(k==k')<;>simp only[tn,cond_true,cond_false] at hr
   ·cases hr
   ·have L3:k=k':=by simpa using tn
    subst L3;cases MB:(op==.quo||op==.rem)<;>simp only[MB,cond_true,cond_false] at hr
    ·cases har:E6 op<;>simp only[har,cond_true,cond_false] at hr
     ·cases mc:yn op<;>simp only[mc,cond_true,cond_false] at hr
      ·cases hr
      ·cases hr;refine .dat (v:=.bool (iW op n m)) ?_ ?_
       ·rw[ah];cases op<;>simp_all [yn]<;>simp[binOp,Op.intCmp,iW,Sem.run,pure,Sem.bind]
       ·simp only[PE.ev,aZ,dK,D.i_int];exact .bool _
     ·cases hr;refine .dat (v:=.int k (eH op k n m)) ?_ ?_
      ·rw[ah];cases op<;>simp_all [E6]<;>simp[binOp,Op.intArith,Op.intBits,eH,Sem.run,pure,Sem.bind]
      ·simp only[PE.ev,aZ,dK,D.i_int];refine .int _ _ ?_ ?_<;>(cases op<;>simp_all [E6]<;>first|exact(qH _ _).1|exact(qH _ _).2)
    ·cases hr;refine .datc hg fun hc=>⟨.int k (eH op k n m),?_,?_⟩
     ·have ay:m≠0:=by simpa [PE.ev,dK,D.i_int,D.b_bool,iW,D.int] using hc
      rw[ah];rcases(by simpa using MB:op=.quo∨op=.rem) with rfl|rfl<;>simp[binOp,Op.intDiv,eH,Sem.run,pure,Sem.bind,ay]
     ·simp only[PE.ev,aZ,dK,D.i_int];cases op<;>simp_all
      ·exact .int _ _ (qH _ _).1 (qH _ _).2
      ·exact .int _ _ (aa2 k ⟨b1,b2⟩).1 (aa2 k ⟨b1,b2⟩).2
  ·cases hr;refine .datc hg fun hc=>⟨.int k (eH op k n m),?_,?_⟩
   ·have ay:¬m<0:=by
     have:0≤m:=by simpa [PE.ev,dK,D.i_int,D.b_bool,iW,D.int] using hc
     omega
    rw[ah];rcases(by simpa using fw:op=.shl∨op=.shr) with rfl|rfl<;>simp[binOp,Op.shift,eH,Sem.run,pure,Sem.bind,ay]
   ·simp only[PE.ev,aZ,dK,D.i_int];cases op<;>simp_all
    ·exact .int _ _ (qH _ _).1 (qH _ _).2
    ·exact .int _ _ (Un k _ ⟨b1,b2⟩).1 (Un k _ ⟨b1,b2⟩).2
 ·rename_i e1 e2;rw[e1] at aR;rw[e2] at dt;obtain⟨n,aO,aZ⟩:=aR.bool_inv;obtain⟨m,gT,dK⟩:=dt.bool_inv;have ah:=I5 (C:=C) (w:=w) ho aO gT (by intro u e;cases e) (by intro e;cases e);cases bK:((op==.eql||op==.neq)&&Na C.P T)<;>simp only[bK,cond_true,cond_false] at hr
  ·cases hr
  ·cases hr;simp only[aj] at bK;obtain⟨bK,hT⟩:=bK;have yK:C.P.underlying T=some .bool:=by
        unfold Na at hT;split at hT
        ·assumption
        ·cases hT
   have heq:(Op.equal T (.bool n) (.bool m)).run C.P w=.ok (n==m) w:=by
        have:∀d,(Op.equalIn (d+1) T (.bool n) (.bool m)).run C.P w=.ok (n==m) w:=fun d=>by simp[Op.equalIn,run_underlying yK]
        exact this 9999
   refine .dat (v:=.bool (ym op n m)) ?_ ?_
   ·rw[ah];rcases(by simpa using bK:op=.eql∨op=.neq) with rfl|rfl<;>simp[binOp,ym,heq,Sem.run_bind']
   ·simp only[PE.ev,aZ,dK,D.b_bool];exact .bool _
 ·rename_i e1 e2;rw[e1] at aR;rw[e2] at dt;obtain⟨n,aO,aZ,_⟩:=aR.str_inv;obtain⟨m,gT,dK,_⟩:=dt.str_inv;have ah:=I5 (C:=C) (w:=w) ho aO gT (by intro u e;cases e) (by intro e;cases e);cases bK:yn op<;>simp only[bK,cond_true,cond_false] at hr
  ·cases hr
  ·cases hr;refine .dat (v:=.bool (yo op n m)) ?_ ?_
   ·rw[ah];cases op<;>simp_all [yn]<;>simp[binOp,Op.stringOp,yo,Sem.run,pure,Sem.bind]
   ·simp only[PE.ev,aZ,dK,D.s_str];exact .bool _
 ·rename_i e e' e1 e2;rw[e1] at aR;rw[e2] at dt;split at hr
  case h_2=>cases hr
  rename_i E hT;cases bK:(op==.eql||op==.neq)<;>simp only[bK,cond_true,cond_false] at hr
  ·cases hr
  cases hr;obtain⟨n,xs,aO,aZ,ait⟩:∃(n:Bool) (xs:List D),(n=true∧a.eval x=.slice none 0 0∨n=false∧∃k o m c,a.eval x=.slice (some ⟨k,o,none⟩) m c)∧p.2.ev ρ=.list xs∧n=decide (xs=[]):=by
   generalize a.eval x=vv at aR;generalize p.2.ev ρ=dd at aR;cases aR with
   |nsl0=>exact⟨true,[],.inl ⟨rfl,rfl⟩,rfl,rfl⟩
   |nsl _ k o m c xs h hx=>exact⟨false,xs,.inr ⟨rfl,k,o,m,c,rfl⟩,rfl,by simp[hx]⟩
  have gT:a.eval y=.slice none 0 0:=by
   generalize a.eval y=vv at dt;generalize q.2.ev ρ=dd at dt;cases dt;rfl
  have heq:(Op.equal T (a.eval x) (a.eval y)).run C.P w=.ok n w:=by
   have:∀d,(Op.equalIn (d+1) T (a.eval x) (a.eval y)).run C.P w=.ok n w:=fun d=>by
        rw[gT];rcases aO with⟨rfl,h1⟩|⟨rfl,k,o,m,c,h1⟩<;>rw[h1]<;>simp[Op.equalIn,run_underlying hT]
   exact this 9999
  have ah:=I5 (C:=C) (w:=w) ho rfl rfl (by
   intro u e;rcases aO with⟨_,h1⟩|⟨_,k,o,m,c,h1⟩<;>rw[h1] at e<;>cases e) (by
   intro e;rcases aO with⟨_,h1⟩|⟨_,k,o,m,c,h1⟩<;>rw[h1] at e<;>cases e)
  refine .dat (v:=.bool (iW op xs.length 0)) ?_ ?_
  ·have ay:∀(y:D) (ys:List D),¬((ys.length:Int)+1=0):=fun y ys=>by omega
   rw[ah,gT];rw[gT] at heq;rcases aO with⟨_,h1⟩|⟨_,k,o,m,c,h1⟩<;>rw[h1] at heq ⊢<;>rcases(by simpa using bK:op=.eql∨op=.neq) with rfl|rfl<;>cases xs<;>simp[binOp,heq,Sem.run_bind',iW,ait]<;>(try omega)
  ·simp only[PE.ev,aZ,D.l_list,D.int,D.i_int];exact .bool _
 ·rename_i ts us e1 e2;rw[e1] at aR;rw[e2] at dt;cases bK:((op==.eql||op==.neq)&&Ty.beqs ts us&&Lc C.P T)<;>simp only[bK,cond_true,cond_false] at hr
  ·cases hr
  simp only[aj] at bK;obtain⟨⟨bK,MR⟩,cC⟩:=bK;have:=Ty.beqs_eq _ _ MR;subst this;simp only[Lc,aj,hZ] at cC;obtain⟨⟨V7,aje⟩,ajf⟩:=cC;have jt:C.P.underlying T=some (.struct (C.P.fieldsOf T)):=by
   unfold Program.fieldsOf;split at V7
   ·rename_i fs hu;rw[hu]
   ·cases V7
  simp only[ax] at hr;obtain⟨e,he,rfl⟩:=hr;obtain⟨vs,ds,aO,aZ,l1,l2,aN,_⟩:=aR.agg_inv;obtain⟨qG,ds',gT,dK,l3,l4,iw,_⟩:=dt.agg_inv
  obtain⟨b,hb,ah⟩:=afh (P:=C.P) (cap:=C.cap) (σ:=σ) (ρ:=ρ) w aZ dK (vs:=vs) (us:=qG) 9997 _ 0 ts e he (fun j t hj=>by
   rw[gw];exact⟨aN j t hj,iw j t hj⟩) (by omega) (by omega)
  have heq:(Op.equalIn 10000 T (.agg vs.toArray) (.agg qG.toArray)).run C.P w=.ok b w:=by
   rw[run_equalIn_struct w 9999 T _ _ jt aje];exact ah
  have jO:=run_eqGuard_agg (P:=C.P) (w:=w) op T x y vs.toArray qG.toArray ajf
  have Vj:(execOp a.eval o).run C.P w=((binOp op T (.agg vs.toArray) (.agg qG.toArray)).run C.P w).andThen fun r w'=>.ok (.value r) w':=by
   simp only[execOp,ho,aO,gT,Sem.run_bind,jO,Result.andThen_ok];rfl
  rcases(by simpa using bK:op=.eql∨op=.neq) with rfl|rfl
  ·refine .dat (v:=.bool b) ?_ ?_
   ·rw[Vj,run_eql_struct,heq];rfl
   ·show Rep _ _ .bool _ (PE.ev ρ e);rw[hb];exact .bool _
  ·refine .dat (v:=.bool (!b)) ?_ ?_
   ·rw[Vj,run_neq_struct,heq];rfl
   ·show Rep _ _ .bool _ (PE.ev ρ (.nt e));simp only[PE.ev,hb];exact .bool _
 ·cases hr
theorem amc (h:Inv C S ρ σ own hv w0 σ0 A a w)(hC:CtxOK C σ0)(hg:holds gs ρ=true){op:UnOp}{T:TypeId}{x:Operand}{r:Sh×List PI}(hr:zJ C S gs dst op x=some r){o:Oper}(ho:o.op=.unOp op T x):
 dW C S ρ σ hv Φ dst a w o r:=by
 simp only[zJ,aq] at hr;obtain⟨p,hp,hr⟩:=hr;have aR:=cf h hC hg hp;split at hr
 ·rename_i k e1;rw[e1] at aR;obtain⟨n,aO,aZ,b1,b2⟩:=aR.int_inv;cases hr;refine .dat (v:=.int k (eH .sub k 0 n)) ?_ ?_
  ·simp[execOp,ho,aO,Op.unary,Op.intArith,eH,Sem.run,pure,bind,Sem.bind]
  ·simp only[PE.ev,aZ,D.i_int];exact .int _ _ (qH _ _).1 (qH _ _).2
 ·rename_i e1;rw[e1] at aR;obtain⟨n,aO,aZ⟩:=aR.bool_inv;cases hr;refine .dat (v:=.bool (!n)) ?_ ?_
  ·simp[execOp,ho,aO,Op.unary,Sem.run,pure,bind,Sem.bind]
  ·simp only[PE.ev,aZ,D.b_bool];exact .bool _
 ·cases hr
theorem alK (h:Inv C S ρ σ own hv w0 σ0 A a w)(hC:CtxOK C σ0)(hg:holds gs ρ=true){s d:TypeId}{x:Operand}{r:Sh×List PI}(hr:zy C S gs dst s d x=some r){o:Oper}(ho:o.op=.convert s d x):
 dW C S ρ σ hv Φ dst a w o r:=by
 simp only[zy,aq] at hr;obtain⟨p,hp,hr⟩:=hr;have aR:=cf h hC hg hp;split at hr
 ·rename_i k0 k k1 u1 u2 e1;rw[e1] at aR;obtain⟨n,aO,aZ,b1,b2⟩:=aR.int_inv;cases hr;refine .dat (v:=.int k (k.wrap n)) ?_ ?_
  ·simp[execOp,ho,aO,convert,run_underlying u1,run_underlying u2,Conv.intToInt]
  ·simp only[PE.ev,aZ,D.i_int];exact .int _ _ (qH _ _).1 (qH _ _).2
 ·rename_i u1 u2 e1;rw[e1] at aR;obtain⟨n,aO,aZ,b1⟩:=aR.str_inv;cases hr;refine .dat (v:=.string n) ?_ ?_
  ·simp[execOp,ho,aO,convert,run_underlying u1,run_underlying u2]
  ·rw[aZ];exact .str _ b1
 ·cases hr
end
end Cx
namespace Cx
open Go Go.RowKit
theorem tK {n:Nat}(h:n≤maxLen):IntKind.i64.min≤(n:Int)∧(n:Int)≤IntKind.i64.max:=by
 simp only[maxLen] at h;simp only[IntKind.min,IntKind.max,IntKind.signed,IntKind.bits];simp;omega
section
variable {C:Ctx} {S:St} {ρ:Env} {σ:Im} {own:Nat→Option Nat} {hv:Nat→Value} {w0:World} {σ0:Base} {A:Nat→Prop} {a:Act} {w:World} {gs:List (Nat×Bool)} {Φ:aK} {dst:Nat}
def J0 (C:Ctx)(σ:Im)(w:World)(B:Nat)(t:Ty)(v:Value)(d:D):Prop:=
 Rep C.cap σ t v d∨
 (∃T e cells xs,t=.slice e.rol∧d=.list xs∧w.ownsRow B T e.size v xs.length cells∧dV C.cap σ e cells xs)∨
 (∃k arr clock es kt et,t=.map kt et∧v=.map (some k)∧w.heap[k]?=some (.map arr clock)∧d=.map es∧es.length=arr.size∧es.length≤maxLen∧
    ∀(i:Nat) (e:MapEntry) (p:D×D),arr[i]?=some e→es[i]?=some p→Rep C.cap σ kt e.key p.1∧Rep C.cap σ et e.val p.2)
theorem Sk (h:Inv C S ρ σ own hv w0 σ0 A a w)(hC:CtxOK C σ0)(hg:holds gs ρ=true){x:Operand}{r:Ty×PE}(hu:view C S gs x=some r):J0 C σ w w0.heap.size r.1 (a.eval x) (r.2.ev ρ):=by
 unfold view at hu;split at hu
 ·rename_i r' tz;cases hu;exact .inl (cf h hC hg tz)
 ·split at hu
  ·rename_i t _;obtain⟨hs,_⟩:=lP h hg t;split at hu
   ·rename_i j ver e;rw[e] at hs;cases hb:Nat.beq ver (S.ver j)<;>simp only[hb,cond_true,cond_false] at hu
    ·cases hu
    ·have dm:=av hb;have ho:=h.objs j;have bX:a.eval (.tmp t)=hv j:=hs.2 dm;split at hu
     ·rename_i T e eo;rw[eo] at ho;cases hu;obtain⟨cells,xs,h1,h2,h3,h4⟩:=ho;rw[bX];exact .inr (.inl ⟨T,e,cells,xs,rfl,h1,h2,h3⟩)
     ·rename_i kt et eo;rw[eo] at ho;cases hu;obtain⟨k,arr,clock,es,h1,h2,h3,h4,h5,⟨hx,_⟩,h6⟩:=ho;rw[bX];exact .inr (.inr ⟨k,arr,clock,es,kt,et,rfl,h1,h3,h4,h5,hx,h6⟩)
     ·cases hu
   ·cases hu
  ·cases hu
theorem wy {w:World}{B e size n:Nat}{v:Value}{cells:List Value}(h:w.ownsRow B e size v n cells):∃b c,v=.slice b n c∧n≤maxLen∧n≤c:=by
 rcases h.2 with⟨rfl,rfl⟩|⟨g,cap,cur,rfl,h1,h2,h3,h4,h5⟩
 ·exact⟨none,0,rfl,by decide,aW _⟩
 ·exact⟨_,cap,rfl,ij h3 h4,h3⟩
theorem PY {b:Builtin}{args:Array Operand}{ts:Array TypeId}{o:Oper}(ho:o.op=.call {callee:=.builtin b,args:=args,argTypes:=ts}):
 ∃cs,(execOp a.eval o).run C.P w=(builtin b ts o.type cs (args.map a.eval)).run C.P w:=
 ⟨_,by simp only[execOp,ho,resolve,invoke];rfl⟩
theorem alX (h:Inv C S ρ σ own hv w0 σ0 A a w)(hC:CtxOK C σ0)(hg:holds gs ρ=true){T:TypeId}{x:Operand}{r:Sh×List PI}(hr:zE C S gs dst T x=some r){o:Oper}
 (ho:o.op=.call {callee:=.builtin .len,args:=#[x],argTypes:=#[T]}):dW C S ρ σ hv Φ dst a w o r:=by
 simp only[zE,aq] at hr;obtain⟨p,hp,hr⟩:=hr;have aR:=Sk h hC hg hp;obtain⟨cs,ah⟩:=PY (C:=C) (w:=w) (a:=a) ho;split at hr
 ·rename_i e T' e1 e2;rw[e1] at aR;cases hr;have hx:∃b n c xs,a.eval x=.slice b n c∧p.2.ev ρ=.list xs∧xs.length=n∧n≤maxLen:=by
   rcases aR with aR|⟨T,e,cells,xs,ht,hd,bR,iZ⟩|⟨k,arr,clock,es,kt,et,ht,_⟩
   ·obtain⟨xs,hd,⟨⟨p0,aO⟩,rfl⟩|⟨k,o,c,aO,h1,h2,_⟩⟩:=aR.slice_inv
    ·exact⟨p0,0,0,[],aO,hd,rfl,by decide⟩
    ·exact⟨_,_,c,xs,aO,hd,rfl,by omega⟩
   ·obtain⟨b,c,aO,h1,_⟩:=wy bR;exact⟨b,_,c,xs,aO,hd,rfl,h1⟩
   ·cases ht
  obtain⟨b,n,c,xs,aO,hd,hl,hm⟩:=hx;refine .dat (v:=.int .i64 n) ?_ ?_
  ·rw[ah];simp[builtin,Builtin.len_,aO,run_underlying e2,goInt]
  ·simp only[PE.ev,hd,D.l_list,hl];exact .int _ _ (tK hm).1 (tK hm).2
 ·rename_i e T' e1 e2;rw[e1] at aR;cases hr;rcases aR with aR|⟨T,e,cells,xs,ht,_⟩|⟨k,arr,clock,es,kt,et,ht,_⟩
  ·generalize vK:a.eval x=v at aR;generalize Ce:p.2.ev ρ=d at aR;cases aR;refine .dat (v:=.int .i64 0) ?_ ?_
   ·rw[ah];simp[builtin,Builtin.len_,vK,run_underlying e2,goInt]
   ·simp only[PE.ev,Ce,D.l_list];exact .int _ _ (by decide) (by decide)
  ·cases ht
  ·cases ht
 ·rename_i e1 e2;rw[e1] at aR;cases hr;rcases aR with aR|⟨T,e,cells,xs,ht,_⟩|⟨k,arr,clock,es,kt,et,ht,_⟩
  ·obtain⟨n,aO,aZ,hm⟩:=aR.str_inv;refine .dat (v:=.int .i64 n.size) ?_ ?_
   ·rw[ah];simp[builtin,Builtin.len_,aO,run_underlying e2,goInt]
   ·simp only[PE.ev,aZ,D.s_str];exact .int _ _ (tK hm).1 (tK hm).2
  ·cases ht
  ·cases ht
 ·rename_i k0 e0 a0 b0 e1 e2;rw[e1] at aR;cases hr;rcases aR with aR|⟨T,e,cells,xs,ht,_⟩|⟨k,arr,clock,es,kt,et,ht,aO,hb,aZ,hl,hx,_⟩
  ·generalize vK:a.eval x=v at aR;generalize Ce:p.2.ev ρ=d at aR;cases aR with
   |mapnil=>
    refine .dat (v:=.int .i64 0) ?_ ?_
    ·rw[ah];simp[builtin,Builtin.len_,vK,run_underlying e2,goInt]
    ·simp only[PE.ev,Ce,D.m];exact .int _ _ (by decide) (by decide)
   |map kt et r fW es hm hl hx hk _=>
    obtain⟨arr,clock,hb,ja⟩:=(h.ok.m _ _ hm).mp (Dc hl hk) (Xx hl hk);have hn:arr.size=es.length:=by rw[hl,←ja];simp[entriesOf]
    refine .dat (v:=.int .i64 arr.size) ?_ ?_
    ·rw[ah];simp[builtin,Builtin.len_,vK,run_underlying e2,goInt,getObj,Sem.run,hb]
    ·simp only[PE.ev,Ce,D.m,hn];exact .int _ _ (tK hx).1 (tK hx).2
  ·cases ht
  ·refine .dat (v:=.int .i64 arr.size) ?_ ?_
   ·rw[ah];simp[builtin,Builtin.len_,aO,run_underlying e2,goInt,getObj,Sem.run,hb]
   ·simp only[PE.ev,aZ,D.m,hl];exact .int _ _ (tK (hl▸hx)).1 (tK (hl▸hx)).2
 ·cases hr
theorem YQ (h:Inv C S ρ σ own hv w0 σ0 A a w)(hC:CtxOK C σ0)(hg:holds gs ρ=true){mx:Bool}{x y:Operand}{ts:Array TypeId}{r:Sh×List PI}(hr:wk C S gs dst mx x y=some r){o:Oper}
 (ho:o.op=.call {callee:=.builtin (bif mx then .max else .min),args:=#[x,y],argTypes:=ts}):dW C S ρ σ hv Φ dst a w o r:=by
 simp only[wk,aq] at hr;obtain⟨p,hp,q,hq,hr⟩:=hr;have aR:=cf h hC hg hp;have dt:=cf h hC hg hq;obtain⟨cs,ah⟩:=PY (C:=C) (w:=w) (a:=a) ho;split at hr
 ·rename_i k k' e1 e2;rw[e1] at aR;rw[e2] at dt;obtain⟨n,aO,aZ,b1,b2⟩:=aR.int_inv;obtain⟨m,gT,dK,b3,b4⟩:=dt.int_inv;cases tn:(k==k')<;>simp only[tn,cond_true,cond_false] at hr
  ·cases hr
  ·have L3:k=k':=by simpa using tn
   subst L3;cases hr;cases mx with
   |true=>
    refine .dat (v:=.int k (if m>n then m else n)) ?_ ?_
    ·rw[ah];simp[builtin,Builtin.max_,Builtin.max2,aO,gT]
    ·simp only[cond_true,PE.ev,aZ,dK,D.i_int];by_cases af:m>n<;>simp[af]<;>constructor<;>assumption
   |false=>
    refine .dat (v:=.int k (if m<n then m else n)) ?_ ?_
    ·rw[ah];simp[builtin,Builtin.min_,Builtin.min2,aO,gT]
    ·simp only[cond_false,PE.ev,aZ,dK,D.i_int];by_cases af:m<n<;>simp[af]<;>constructor<;>assumption
 ·cases hr
theorem alM (h:Inv C S ρ σ own hv w0 σ0 A a w)(hC:CtxOK C σ0)(hg:holds gs ρ=true){x:Operand}{i:Nat}{r:Sh×List PI}(hr:zz C S gs dst x i=some r){o:Oper}(ho:o.op=.extract x i):
 dW C S ρ σ hv Φ dst a w o r:=by
 simp only[zz,aq] at hr;obtain⟨p,hp,hr⟩:=hr;have aR:=cf h hC hg hp;split at hr
 ·rename_i ts e1;rw[e1] at aR;simp only[ax] at hr;obtain⟨t,ht,rfl⟩:=hr;obtain⟨vs,ds,aO,aZ,l1,l2,aN⟩:=aR.tup_inv;have hi:i<vs.length:=by rw[l1];exact(eT.1 ht).1
  refine .dat (v:=vs.getD i undef) ?_ ?_
  ·obtain⟨u,hu⟩:∃u,vs[i]?=some u:=⟨_,bq hi⟩
   have jO:vs.getD i undef=u:=by rw[aG,hu];rfl
   rw[jO];simp[execOp,ho,aO,Instr.extract,hu]
  ·simp only[PE.ev,aZ];exact aN i t ht
 ·cases hr
end
end Cx
namespace Cx
open Go Go.RowKit
theorem tI {P:Program}{T:TypeId}{ag:Bool}(h:oK P T=some ag)(w:World):(isAgg T).run P w=.ok ag w:=by
 unfold oK at h;split at h
 ·rename_i fs hu;cases h;simp[isAgg,run_underlying hu]
 ·rename_i n e hu;cases h;simp[isAgg,run_underlying hu]
 ·rename_i d h1 h2 hu;cases h;cases d<;>simp_all [isAgg,run_underlying hu]
 ·cases h
theorem qW (k o n:Nat):(⟨k,o,none⟩:Addr).add n=⟨k,o+n,none⟩:=by
 unfold Addr.add;split<;>simp_all
theorem I6 {P:Program}{T:TypeId}{inf:TypeInfo}{ag:Bool}{w:World}{k o:Nat}{cs:List Value}(hi:P.info? T=some inf)(ha:oK P T=some ag)(hl:cs.length=inf.size)
 (h1:ag=false→cs.length=1) (hc:∀j u,cs[j]?=some u→w.cell? ⟨k,o+j,none⟩=some u):(loadVar T ⟨k,o,none⟩).run P w=.ok (rowOf ag cs) w:=by
 cases ag with
 |true=>
  have:=run_loadCells_list (P:=P) w ⟨k,o,none⟩ cs (fun j v hv=>by rw[qW];exact hc j v hv);rw[hl] at this;simp[loadVar,tI ha,Go.sizeOf,run_typeInfo w hi,this,rowOf]
 |false=>
  obtain⟨u,hu⟩:∃u,cs=[u]:=by
   have:=h1 rfl
   match cs,this with
   |[u],_=>exact⟨u,rfl⟩
  subst hu;have h0:=hc 0 u rfl;simp only[ib] at h0;simp[loadVar,tI ha,rowOf,run_load,h0]
section
variable {C:Ctx} {S:St} {ρ:Env} {σ:Im} {own:Nat→Option Nat} {hv:Nat→Value} {w0:World} {σ0:Base} {A:Nat→Prop} {a:Act} {w:World} {gs:List (Nat×Bool)} {Φ:aK} {dst:Nat}
theorem uf {o:Oper}{T:TypeId}{x:Operand}{v:Value}{k off:Nat}(ho:o.op=.load T x)(hx:a.eval x=.pointer (some ⟨k,off,none⟩))(hl:(loadVar T ⟨k,off,none⟩).run C.P w=.ok v w):
 (execOp a.eval o).run C.P w=.ok (.value v) w:=by
 simp[execOp,ho,Instr.loadAt,hx,Instr.sureAddr,hl]
theorem rp {α:Type}{l:List α}{i:Nat}{x d:α}(h:l[i]?=some x):l.getD i d=x:=by
 rw[aG,h];rfl
theorem Ib {cap:Nat→Option CSig}{ts:List Ty}{vs:List Value}{ds:List D}{ag:Bool}{n off:Nat}{ty:Ty}(hp:tR ag n ts off=some ty)
 (h1:vs.length=ts.length) (h2:ds.length=ts.length) (hr:∀(i:Nat) (t:Ty),ts[i]?=some t→Rep cap σ t (vs.getD i undef) (ds.getD i .none)) (ho:∀(i:Nat) (t:Ty),ts[i]?=some t→t.one=true):
 Rep cap σ ty (rowOf ag ((vs.drop off).take n)) (bif ag then .agg ((ds.drop off).take n) else ds.getD off .none)∧((vs.drop off).take n).length=n∧(ag=false→n=1):=by
 unfold tR at hp;cases hle:Nat.ble (off+n) ts.length<;>simp only[hle,cond_true,cond_false] at hp
 ·cases hp
 ·have Cs:=jo hle;have hlen:((vs.drop off).take n).length=n:=by simp;omega
  cases ag with
  |true=>
   simp only[cond_true] at hp;cases hp;refine⟨?_,hlen,fun e=>by cases e⟩;simp only[rowOf,if_true,cond_true];refine .agg _ _ _ (by simp;omega) (by simp;omega) (fun i t hi=>?_) (fun i t hi=>?_)
   ·simp only[fl,fJ] at hi;split at hi
    ·rename_i br;have:=hr (off+i) t hi;simpa [aG,fl,fJ,br] using this
    ·cases hi
   ·simp only[fl,fJ] at hi;split at hi
    ·exact ho _ t hi
    ·cases hi
  |false=>
   simp only[cond_false] at hp;cases hn:Nat.beq n 1<;>simp only[hn,cond_true,cond_false] at hp
   ·cases hp
   ·have kM:=av hn;subst kM;refine⟨?_,hlen,fun _=>rfl⟩;have:=hr off ty hp;have af:off<vs.length:=by omega
    simpa [rowOf,aG,fl,fJ] using this
theorem Ia {ag:Bool}{n:Nat}{e:PE}{off:Nat}{ds:List D}(h:e.ev ρ=.agg ds):(zM ag n e off).ev ρ=bif ag then .agg ((ds.drop off).take n) else ds.getD off .none:=by
 cases ag<;>simp[zM,PE.ev,h,D.cells,D.c]
theorem Inv.cell (h:Inv C S ρ σ own hv w0 σ0 A a w){k o:Nat}{u:Value}(hc:σ.c k o=some u):w.cell? ⟨k,o,none⟩=some u:=h.ok.c _ _ _ hc
theorem Rep.rowOf {cap:Nat→Option CSig}{t:Ty}{v:Value}{d:D}(h:Rep cap σ t v d):v=Cx.rowOf t.rowT v.cells.toList:=by
 cases h<;>simp[Cx.rowOf,Ty.rowT,Value.cells]
theorem Rep.cells1 {cap:Nat→Option CSig}{t:Ty}{v:Value}{d:D}(h:Rep cap σ t v d)(ht:t.rowT=false):v.cells=#[v]:=by
 cases h<;>simp_all [Ty.rowT,Value.cells]
theorem alZ (h:Inv C S ρ σ own hv w0 σ0 A a w){T:TypeId}{x:Operand}{inf:TypeInfo}{ag:Bool}(hi:C.P.info? T=some inf)(ha:oK C.P T=some ag){o:Oper}(ho:o.op=.load T x)
 {ty:Ty} {e:PE} (hr:Rep C.cap σ (.ref ty) (a.eval x) (e.ev ρ)) (hs:Nat.beq inf.size ty.size=true) (GN:(ag==ty.rowT)=true):
 dW C S ρ σ hv Φ dst a w o (.dat ty,[.setR dst (.deref e)]):=by
 obtain⟨k,off,v,y,aO,aZ,bH,iz⟩:=hr.ref_inv;have eu:=av hs;have B8:ag=ty.rowT:=by simpa using GN
 have hz:=bH.size;have rF:=bH.rowOf;refine .dat (v:=v) (uf ho aO ?_) ?_
 ·rw[rF,←B8];refine I6 hi ha (by simp[hz,eu]) (fun e=>?_) (fun j u hu=>?_)
  ·subst e;simp[bH.cells1 B8.symm]
  ·exact h.cell (iz j u (by simpa using hu))
 ·simp only[PE.ev,aZ,D.deref];exact bH
theorem KJ {w:World}{k:Nat}{cs:Array Value}{T:TypeId}{fr:Nat×Nat}(hb:w.heap[k]?=some (.cells cs T fr)){i:Nat}(hi:i<cs.size):w.cell? ⟨k,i,none⟩=some (cs.getD i undef):=by
 simp[World.cell?,hb,dH,fj hi]
theorem yD (cs:Array Value)(i:Nat):cs.toList.getD i undef=cs.getD i undef:=by
 simp[aG,dH]
theorem S9 {cs:Array Value}{ds:List D}:∀(shs:List Sh) (i:Nat) (l:List AgC),sN S shs=some l→(∀m s,shs[m]?=some s→aD C S ρ σ hv s (cs.getD (i+m) undef) (ds.getD (i+m) .none))→
 l.length=shs.length∧∀(m:Nat) (c:AgC),l[m]?=some c→lX C S σ hv c (cs.getD (i+m) undef) (ds.getD (i+m) .none)
 |[],i,l,hl,_=>by simp only[sN,aQ] at hl;subst hl;exact⟨rfl,fun m c hm=>by simp at hm⟩
 |s::r,i,l,hl,aN=>by
  simp only[sN,aq] at hl;obtain⟨x,hx,hl⟩:=hl
  obtain⟨g1,g3⟩:=S9 r (i+1) x hx fun m s hm=>by
   have:=aN (m+1) s (by simpa using hm)
   rwa [show i+(m+1)=i+1+m by omega] at this
  have h0:=aN 0 s rfl;rw[ib] at h0;split at hl
  ·rename_i t;cases cR:t.one<;>simp only[cR,cond_true,cond_false] at hl
   ·cases hl
   cases hl;refine⟨by simp[g1],fun m c hm=>?_⟩;cases m with
   |zero=>simp at hm;subst hm;exact⟨cR,h0⟩
   |succ m=>simp at hm;have:=g3 m c hm;rwa [show i+1+m=i+(m+1) by omega] at this
  ·rename_i j ver;cases hb:Nat.beq ver (S.ver j)<;>simp only[hb,cond_true,cond_false] at hl
   ·cases hl
   cases hl;refine⟨by simp[g1],fun m c hm=>?_⟩;cases m with
   |zero=>simp at hm;subst hm;exact h0
   |succ m=>simp at hm;have:=g3 m c hm;rwa [show i+1+m=i+(m+1) by omega] at this
  ·cases hl
theorem acB {j off n len:Nat}{ds:List D}(h:ρ.o j=.agg ds)(hl:ds.length=len):(J4 j off n len).ev ρ=.agg ((ds.drop off).take n):=by
 unfold J4;cases hb:(Nat.beq off 0&&Nat.beq n len)
 ·simp only[cond_false,PE.ev,h];rfl
 ·simp only[aj] at hb;obtain rfl:=av hb.1;obtain rfl:=av hb.2;simp only[cond_true,PE.ev,h,List.drop_zero,←hl,List.take_length]
theorem Di (h:Inv C S ρ σ own hv w0 σ0 A a w)(hC:CtxOK C σ0)(hg:holds gs ρ=true){T:TypeId}{x:Operand}{r:Sh×List PI}(hr:rQ C S gs dst T x=some r){o:Oper}(ho:o.op=.load T x):
 dW C S ρ σ hv Φ dst a w o r:=by
 unfold rQ at hr;split at hr
 case h_2=>cases hr
 rename_i inf ag hi ha;have dE:aD C S ρ σ hv (eE S gs x) (a.eval x) ((pq x).ev ρ):=by
  cases x with
  |tmp t=>exact(lP h hg t).1
  |_=>trivial
 split at hr
 ·
  rename_i j ver off es;rw[es] at dE;cases hb:Nat.beq ver (S.ver j)<;>simp only[hb,cond_true,cond_false] at hr
  ·cases hr
  have dm:=av hb;obtain⟨k,eA,fo⟩:=dE.2 dm;have aU:=h.objs j;split at hr
  ·rename_i bag shs eo;rw[eo] at aU;obtain⟨k',cs,T',ds,h1,h2,h3,h4,h5,h6,h7⟩:=aU;rw[eA] at h1;cases h1;cases ag with
   |true=>
    simp only[cond_true] at hr;cases hle:Nat.ble (off+inf.size) shs.length<;>simp only[hle,cond_true,cond_false] at hr
    ·cases hr
    have Cs:=jo hle;have hlen:((shs.drop off).take inf.size).length=inf.size:=by simp;omega
    have dg:∀m u,((cs.toList.drop off).take inf.size)[m]?=some u→w.cell? ⟨k,off+m,none⟩=some u:=fun m u hu=>by
     simp only[fl,fJ] at hu;split at hu
     ·rename_i hm;have:=KJ h3 (i:=off+m) (by omega);rw[this,←yD];exact congrArg some (rp hu)
     ·cases hu
    have V4:=uf ho fo (I6 hi ha (by simp;omega) (fun e=>by cases e) dg);split at hr
    ·rename_i l hl;cases hr
     revert hl
     cases J2 C j
     ·intro hl;cases hl
     intro hl
     obtain⟨ll,lo⟩:=S9 (cs:=cs) (ds:=ds) _ off l hl (fun m s hm=>by
      simp only[fl,fJ] at hm;split at hm
      ·exact(h7 (off+m) s hm).2
      ·cases hm)
     rw[hlen] at ll;refine fun ρ' ah=>⟨_,_,sq ah,V4,⟨(cs.toList.drop off).take inf.size,(ds.drop off).take inf.size,by simp[rowOf],acB h5 h6,by simp;omega,by simp;omega,fun m c hm=>?_⟩,fun _ _ e=>by cases e⟩
     have oC:m<inf.size:=by have:=(eT.1 hm).1;omega
     have:=lo m c hm;simpa [aG,fl,fJ,oC] using this
    simp only[ax] at hr;obtain⟨p,hp,rfl⟩:=hr
    obtain⟨l1,es,⟨he,_⟩,l2,bH⟩:=KP (b:=.o j) h (cs:=cs.toList) h5 _ off p (fun m s hm=>by
     simp only[fl,fJ] at hm;split at hm
     ·have:=(h7 (off+m) s hm).2;rw[yD];exact this
     ·cases hm) hp
    refine .dat (v:=rowOf true ((cs.toList.drop off).take inf.size)) V4 ?_
    ·simp only[PE.ev,rowOf,if_true,he];refine .agg _ _ _ (by simp;omega) (by omega) (fun m t hm=>?_) (fun m t hm=>(bH m t hm).1);have oC:m<inf.size:=by have:=(eT.1 hm).1;omega
     have:=(bH m t hm).2;simpa [aG,fl,fJ,oC] using this
   |false=>
    simp only[cond_false] at hr;split at hr
    ·rename_i ty hs;cases cR:ty.one<;>simp only[cR,cond_true,cond_false] at hr
     ·cases hr
     cases hr;have kJ:=(h7 off _ hs).2;have af:off<shs.length:=(eT.1 hs).1;have vB:(loadVar T ⟨k,off,none⟩).run C.P w=.ok (cs.getD off undef) w:=by
      simp[loadVar,tI ha,run_load,KJ h3 (i:=off) (by omega)]
     refine .dat (v:=cs.getD off undef) (uf ho fo vB) ?_;simp only[PE.ev,h5,D.c,D.cells];exact kJ
    ·rename_i j' lU hs;cases hr;have kJ:=(h7 off _ hs).2;have af:off<shs.length:=(eT.1 hs).1;have vB:(loadVar T ⟨k,off,none⟩).run C.P w=.ok (cs.getD off undef) w:=by
      simp[loadVar,tI ha,run_load,KJ h3 (i:=off) (by omega)]
     intro ρ' ah;exact⟨_,_,sq ah,uf ho fo vB,kJ,fun _ _ e=>by cases e⟩
    ·cases hr
  ·rename_i ts eo;rw[eo] at aU;obtain⟨k',v,h1,h2,h3⟩:=aU;rw[eA] at h1;cases h1;simp only[ax] at hr;obtain⟨ty,aX,rfl⟩:=hr;obtain⟨vs,ds,rfl,hd,l1,l2,aN,cR⟩:=h2.agg_inv;obtain⟨bH,hlen,kM⟩:=Ib aX l1 l2 aN cR;refine .dat (uf ho fo (I6 hi ha hlen (fun e=>by rw[hlen];exact kM e) (fun m u hu=>h.cell ?_))) (by rw[Ia (e:=.o j) hd];exact bH);simp only[fl,fJ] at hu;split at hu
   ·exact h3 (off+m) u (by simpa [Value.cells] using hu)
   ·cases hu
  ·rename_i ty ay eo;rw[eo] at aU;obtain⟨k',v,h1,h2,h3⟩:=aU;rw[eA] at h1;cases h1;cases hc:(!ag&&ty.one&&Nat.beq off 0)<;>simp only[hc,cond_true,cond_false] at hr
   ·cases hr
   cases hr;simp only[aj,hZ] at hc;have jb:=av hc.2;subst jb;have vB:(loadVar T ⟨k,0,none⟩).run C.P w=.ok v w:=by
        have:=h.cell (h3 0 v (by simp[(h2.oneCell hc.1.2).1]));rw[hc.1.1] at ha;simp[loadVar,tI ha,run_load,this]
   exact .dat (uf ho fo vB) h2
  ·cases hr
 ·
  rename_i j ver size off es;rw[es] at dE;cases hb:Nat.beq ver (S.ver j)<;>simp only[hb,cond_true,cond_false] at hr
  ·cases hr
  have dm:=av hb;obtain⟨k,n,c,ik,i,eA,td,br,fo⟩:=dE.2 dm;have aU:=h.objs j;split at hr
  ·rename_i T' ts eo;rw[eo] at aU;obtain⟨cells,xs,h1,h2,⟨vs,h3,h4⟩,h5⟩:=aU;cases aC:Nat.beq size ts.length<;>simp only[aC,cond_true,cond_false] at hr
   ·cases hr
   have qf:=av aC;simp only[ax] at hr;obtain⟨ty,aX,rfl⟩:=hr;rw[eA] at h2;have aV:=h2.cells (g:=k) rfl;obtain⟨b,c',e1,Ct,Cu⟩:=wy h2;cases e1;obtain⟨y,hy⟩:∃y,xs[i]?=some y:=⟨_,bq br⟩
   have Hn:=h3 i y hy;obtain⟨us,ds,tE,hd,l1,l2,aN,cR⟩:=Hn.agg_inv;obtain⟨bH,hlen,kM⟩:=Ib aX l1 l2 aN cR;have aix:(PE.nth (.o j) (pq x)).ev ρ=.agg ds:=by
        simp only[PE.ev,h1,D.l_list,td,D.i_int,uD];rw[rp hy,hd]
   refine .dat (uf ho fo (I6 hi ha hlen (fun e=>by rw[hlen];exact kM e) (fun m u hu=>?_))) (by rw[Ia aix];exact bH);simp only[fl,fJ] at hu;split at hu
   ·have:=h4 i (off+m) u (by omega) (by rw[tE];simpa [Value.cells] using hu);have:=aV _ _ this;rw[qW] at this;simpa [Ty.size,qf,sK] using this
   ·cases hu
  ·rename_i T' e ay eo;rw[eo] at aU;obtain⟨cells,xs,h1,h2,⟨vs,h3,h4⟩,h5⟩:=aU;cases hc:(!ag&&e.one&&Nat.beq off 0&&Nat.beq size 1)<;>simp only[hc,cond_true,cond_false] at hr
   ·cases hr
   cases hr;simp only[aj,hZ] at hc;have jb:=av hc.1.2;have aC:=av hc.2;subst jb;subst aC;rw[eA] at h2;have aV:=h2.cells (g:=k) rfl;obtain⟨b,c',e1,Ct,Cu⟩:=wy h2;cases e1;obtain⟨y,hy⟩:∃y,xs[i]?=some y:=⟨_,bq br⟩
   have Hn:=h3 i y hy;have vB:(loadVar T ⟨k,i*1+0,none⟩).run C.P w=.ok (vs i) w:=by
        have h6:=h4 i 0 (vs i) br (by simp[(Hn.oneCell hc.1.1.2).1]);have:=aV _ _ h6;rw[qW] at this;have Ch:e.size=1:=by cases e<;>simp_all [Ty.size,Ty.one]
        rw[hc.1.1.1] at ha;rw[Ch] at this;simp only[gw,ib,Nat.mul_one] at this;simp[loadVar,tI ha,run_load,this]
   refine .dat (uf ho fo vB) ?_;simp only[PE.ev,h1,D.l_list,td,D.i_int,uD];rw[rp hy];exact Hn
  ·cases hr
 ·simp only[aq] at hr;obtain⟨p,hp,hr⟩:=hr;have aR:=cf h hC hg hp;split at hr
  ·rename_i ty e1;rw[e1] at aR;cases hc:(Nat.beq inf.size ty.size&&(ag==ty.rowT))<;>simp only[hc,cond_true,cond_false] at hr
   ·cases hr
   cases hr;simp only[aj] at hc;exact alZ h hi ha ho aR hc.1 hc.2
  ·cases hr
end
end Cx
namespace Cx
open Go Go.RowKit
section
variable {C:Ctx} {S:St} {ρ:Env} {σ:Im} {own:Nat→Option Nat} {hv:Nat→Value} {w0:World} {σ0:Base} {A:Nat→Prop} {a:Act} {w:World} {gs:List (Nat×Bool)} {Φ:aK} {dst:Nat}
theorem qB (h:Inv C S ρ σ own hv w0 σ0 A a w)(hg:holds gs ρ=true)(x:Operand):aD C S ρ σ hv (eE S gs x) (a.eval x) ((pq x).ev ρ)∧∀bI s,eE S gs x≠.opt bI s:=by
 cases x with
 |tmp t=>exact lP h hg t
 |_=>exact⟨trivial,fun _ _ e=>by cases e⟩
theorem Uo {P:Program}{T:TypeId}{i:Nat}{f:Field}(h:BP P T i=some f):∃fs,P.underlying T=some (.struct fs)∧fs[i]?=some f:=by
 unfold BP at h;split at h
 ·rename_i fs hu;exact⟨fs,hu,h⟩
 ·cases h
theorem PZ {o:Oper}{T:TypeId}{x:Operand}{i:Nat}{f:Field}{inf:TypeInfo}{k off:Nat}(ho:o.op=.fieldAddr T x i)(hf:BP C.P T i=some f)(hi:C.P.info? f.type=some inf)(hn:Nat.beq inf.size 0=false)
 (hx:a.eval x=.pointer (some ⟨k,off,none⟩)):(execOp a.eval o).run C.P w=.ok (.value (.pointer (some ⟨k,off+f.offset,none⟩))) w:=by
 obtain⟨fs,hu,vt⟩:=Uo hf;have gR:inf.size≠0:=by intro e;simp[e] at hn
 simp[execOp,ho,Instr.fieldAt,run_underlying hu,vt,hx,Instr.sureAddr,fieldPlace,Go.sizeOf,run_typeInfo w hi,gR,qW]
theorem alO (h:Inv C S ρ σ own hv w0 σ0 A a w)(hC:CtxOK C σ0)(hg:holds gs ρ=true){T:TypeId}{x:Operand}{i:Nat}{r:Sh×List PI}(hr:zB C S gs dst T x i=some r){o:Oper}(ho:o.op=.fieldAddr T x i):
 dW C S ρ σ hv Φ dst a w o r:=by
 simp only[zB,aq] at hr;obtain⟨f,hf,hr⟩:=hr;obtain⟨dE,eZ⟩:=qB h hg x;split at hr
 case h_2=>cases hr
 rename_i inf ag hi ha;cases hn:Nat.beq inf.size 0<;>simp only[hn,cond_true,cond_false] at hr
 case true=>cases hr
 split at hr
 ·rename_i j ver size off es;cases hb:Nat.beq ver (S.ver j)<;>simp only[hb,cond_true,cond_false] at hr
  ·cases hr
  cases hr;rw[es] at dE;intro ρ' ah;obtain⟨k,n,c,ik,idx,eA,td,br,fo⟩:=dE.2 (av hb);exact⟨_,_,sq ah,PZ ho hf hi hn fo,⟨dE.1,fun _=>⟨k,n,c,ik,idx,eA,td,br,by rw[sK]⟩⟩,fun _ _ e=>by cases e⟩
 ·split at hr
  ·rename_i ts e hu;have aR:=cf h hC hg hu;simp only[ax] at hr;obtain⟨ty,aX,rfl⟩:=hr;obtain⟨k,off,v,y,aO,aZ,bH,iz⟩:=Rep.ref_inv aR;obtain⟨vs,ds,rfl,rfl,l1,l2,aN,cR⟩:=bH.agg_inv;obtain⟨ng,hlen,kM⟩:=Ib aX l1 l2 aN cR;refine .dat (PZ ho hf hi hn aO) ?_;have hde:(PE.deref e).ev ρ=.agg ds:=by simp only[PE.ev,aZ,D.deref]
   simp only[PE.ev];rw[Ia hde];refine .ref ty k (off+f.offset) _ _ ng (fun j u hu=>?_);have kj:((vs.drop f.offset).take inf.size)[j]?=some u:=by
        cases ag with
        |true=>simpa [rowOf,Value.cells] using hu
        |false=>
         have:=kM rfl;rw[this] at hlen ⊢;obtain⟨q,hq⟩:∃q,(vs.drop f.offset).take 1=[q]:=by
          match(vs.drop f.offset).take 1,hlen with
          |[q],_=>exact⟨q,rfl⟩
         rw[this] at ng hu;rw[hq] at ng hu ⊢;simp only[rowOf,nN] at ng hu;have tB:ty.rowT=false:=by
          unfold tR at aX;cases hle:Nat.ble (f.offset+inf.size) ts.length<;>simp only[hle,cond_true,cond_false] at aX
          ·cases aX
          ·cases hb:Nat.beq inf.size 1<;>simp only[hb,cond_true,cond_false] at aX
           ·cases aX
           ·have:=cR _ _ aX;cases ty<;>simp_all [Ty.one,Ty.rowT]
         rw[ng.cells1 tB] at hu;simpa using hu
   simp only[fl,fJ] at kj;split at kj
   ·have:=iz (f.offset+j) u (by simpa [Value.cells] using kj)
    rwa [←sK] at this
   ·cases kj
  ·split at hr
   ·rename_i j ver off es;cases hb:Nat.beq ver (S.ver j)<;>simp only[hb,cond_true,cond_false] at hr
    ·cases hr
    cases hr;rw[es] at dE;intro ρ' ah;obtain⟨k,eA,fo⟩:=dE.2 (av hb);exact⟨_,_,sq ah,PZ ho hf hi hn fo,⟨dE.1,fun _=>⟨k,eA,rfl⟩⟩,fun _ _ e=>by cases e⟩
   ·cases hr
theorem alQ (h:Inv C S ρ σ own hv w0 σ0 A a w)(hC:CtxOK C σ0)(hg:holds gs ρ=true){T:TypeId}{x:Operand}{i:Nat}{r:Sh×List PI}(hr:zA C S gs dst T x i=some r){o:Oper}(ho:o.op=.field T x i):
 dW C S ρ σ hv Φ dst a w o r:=by
 simp only[zA,aq] at hr;obtain⟨f,hf,hr⟩:=hr;split at hr
 case h_2=>cases hr
 rename_i inf ag hi ha;split at hr
 case h_2=>cases hr
 rename_i ts e hu;have aR:=cf h hC hg hu;simp only[ax] at hr;obtain⟨ty,aX,rfl⟩:=hr;obtain⟨vs,ds,aO,aZ,l1,l2,aN,cR⟩:=Rep.agg_inv aR;obtain⟨ng,hlen,kM⟩:=Ib aX l1 l2 aN cR;obtain⟨fs,kj,vt⟩:=Uo hf;have hle:f.offset+inf.size≤ts.length:=by
  unfold tR at aX;cases hle:Nat.ble (f.offset+inf.size) ts.length<;>simp only[hle,cond_true,cond_false] at aX
  ·cases aX
  ·exact jo hle
 refine .dat (v:=rowOf ag ((vs.drop f.offset).take inf.size)) ?_ (by rw[Ia aZ];exact ng);cases ag with
 |true=>
  simp only[execOp,ho,Instr.field,aO,asAgg,part];simp[run_underlying kj,vt,tI ha,Go.sizeOf,run_typeInfo w hi,rowOf]
 |false=>
  have hn:=kM rfl;have af:f.offset<vs.length:=by omega
  simp only[execOp,ho,Instr.field,aO,asAgg,part];simp[run_underlying kj,vt,tI ha,rowOf,hn,bq af,aG,fl,fJ]
theorem aaD {o:Oper}{T e:TypeId}{x i:Operand}{inf:TypeInfo}{k off n c idx:Nat}{ik:IntKind}(ho:o.op=.indexAddr T x i)(hT:C.P.underlying T=some (.slice e))(hi:C.P.info? e=some inf)
 (hx:a.eval x=.slice (some ⟨k,off,none⟩) n c) (ahV:a.eval i=.int ik idx) (af:idx<n):(execOp a.eval o).run C.P w=.ok (.value (.pointer (some ⟨k,off+idx*inf.size,none⟩))) w:=by
 simp[execOp,ho,Instr.indexAt,run_underlying hT,hx,ahV,asIntOf,af,Go.sizeOf,run_typeInfo w hi,qW]
theorem Jc {P:Program}{T:TypeId}{t:Ty}(h:qC P T t=true):∃inf,P.info? T=some inf∧inf.size=t.size:=by
 unfold qC at h;split at h
 ·rename_i i hi;exact⟨i,hi,av h⟩
 ·cases h
theorem alT (h:Inv C S ρ σ own hv w0 σ0 A a w)(hC:CtxOK C σ0)(hg:holds gs ρ=true){T:TypeId}{x i:Operand}{r:Sh×List PI}(hr:zD C S gs dst T x i=some r){o:Oper}(ho:o.op=.indexAddr T x i):
 dW C S ρ σ hv Φ dst a w o r:=by
 unfold zD at hr;split at hr
 case h_2=>cases hr
 rename_i e hT;simp only[aq] at hr;obtain⟨p,hp,hr⟩:=hr;have aR:=cf h hC hg hp;split at hr
 case h_2=>cases hr
 rename_i ik e1;rw[e1] at aR;obtain⟨idx,aO,aZ,b1,b2⟩:=aR.int_inv;split at hr
 ·rename_i t pe hu;have db:=cf h hC hg hu;cases aC:qC C.P e t<;>simp only[aC,cond_true,cond_false] at hr
  ·cases hr
  cases hr;obtain⟨inf,hi,hs⟩:=Jc aC;obtain⟨xs,hd,pY⟩:=Rep.slice_inv db;refine .datc hg fun hc=>?_;simp only[PE.ev,hd,aZ,D.l_list,D.i_int,D.b_bool,decide_eq_true_eq] at hc;rcases pY with⟨_,rfl⟩|⟨k,off,c,qg,h1,h2,vs,h3,h4⟩
  ·simp at hc;omega
  ·obtain⟨m,rfl⟩:=uC hc.1;have af:m<xs.length:=by omega
   refine⟨_,aaD ho hT hi qg aO af,?_⟩;obtain⟨y,hy⟩:∃y,xs[m]?=some y:=⟨_,bq af⟩
   simp only[PE.ev,hd,aZ,D.l_list,D.i_int,uD,rp hy];exact .ref t.unf k _ (vs m) y (h3 m y hy) (fun j u hu=>by rw[hs];exact h4 m j u af hu)
 ·cases hr
 ·obtain⟨dE,eZ⟩:=qB h hg x;split at hr
  ·rename_i j ver es;rw[es] at dE;cases hb:Nat.beq ver (S.ver j)<;>simp only[hb,cond_true,cond_false] at hr
   ·cases hr
   have dm:=av hb;have aU:=h.objs j;have bX:=dE.2 dm;split at hr
   ·rename_i T' t eo;rw[eo] at aU;cases aC:qC C.P e t<;>simp only[aC,cond_true,cond_false] at hr
    ·cases hr
    cases hr;obtain⟨inf,hi,hs⟩:=Jc aC;obtain⟨cells,xs,h1,h2,⟨vs,h3,h4⟩,h5⟩:=aU;intro ρ' ah;obtain⟨hc,hρ⟩:=P0 hg ah;simp only[PE.ev,h1,aZ,D.l_list,D.i_int,D.b_bool,decide_eq_true_eq] at hc;obtain⟨m,rfl⟩:=uC hc.1;have af:m<xs.length:=by omega
    rcases h2.2 with⟨_,e0⟩|⟨g,cap,cur,eA,_⟩
    ·omega
    ·refine⟨_,_,hρ,aaD ho hT hi (bX.trans eA) aO af,⟨by omega,fun _=>⟨g,xs.length,cap,ik,m,eA,aZ,af,?_⟩⟩,fun _ _ e=>by cases e⟩;rw[hs];simp
   ·cases hr
  ·cases hr
theorem alV (h:Inv C S ρ σ own hv w0 σ0 A a w)(hC:CtxOK C σ0)(hg:holds gs ρ=true){T:TypeId}{x i:Operand}{r:Sh×List PI}(hr:zC C S gs dst T x i=some r){o:Oper}(ho:o.op=.index T x i):
 dW C S ρ σ hv Φ dst a w o r:=by
 unfold zC at hr;split at hr
 case h_2=>cases hr
 rename_i hT;simp only[aq] at hr;obtain⟨p,hp,q,hq,hr⟩:=hr;have aR:=cf h hC hg hp;have dt:=cf h hC hg hq;split at hr
 case h_2=>cases hr
 rename_i ik e1 e2;rw[e1] at aR;rw[e2] at dt;obtain⟨idx,aO,aZ,b1,b2⟩:=aR.int_inv;obtain⟨s,gT,dK,_⟩:=dt.str_inv;cases hr;refine .datc hg fun hc=>?_;simp only[PE.ev,dK,aZ,D.s_str,D.i_int,D.b_bool,decide_eq_true_eq] at hc;obtain⟨m,rfl⟩:=uC hc.1;have af:m<s.size:=by omega
 refine⟨.int .u8 (s.data.getD m 0).toNat,?_,?_⟩
 ·have:s[m]?=some (s.data.getD m 0):=by
   rw[getElem?_pos s m af];simp[ByteArray.getElem_eq_getElem_data,dH,fj (show m<s.data.size from af)]
  simp[execOp,ho,Instr.index,run_underlying hT,aO,gT,asIntOf,this]
 ·simp only[PE.ev,dK,aZ,D.s_str,D.i_int,uD];refine .int _ _ ?_ ?_
  ·simp only[IntKind.min,IntKind.signed];simp
  ·simp only[IntKind.max,IntKind.signed,IntKind.bits];have:=UInt8.toNat_lt (s.data.getD m 0);simp at this ⊢;omega
end
end Cx
namespace Cx
open Go Go.RowKit
section
variable {C:Ctx} {S:St} {ρ:Env} {σ:Im} {own:Nat→Option Nat} {hv:Nat→Value} {w0:World} {σ0:Base} {A:Nat→Prop} {a:Act} {w:World} {gs:List (Nat×Bool)} {Φ:aK} {dst:Nat}
theorem aqt (h:Inv C S ρ σ own hv w0 σ0 A a w)(hC:CtxOK C σ0)(hg:holds gs ρ=true){lo:Option Operand}{l:Ty×PE}{k:IntKind}(hl:EK C S gs lo=some l)(hk:l.1=.int k):
 ∃n,l.2.ev ρ=.v (.int k n)∧((lo=none∧n=0)∨∃x,lo=some x∧a.eval x=.int k n):=by
 cases lo with
 |none=>simp[EK] at hl;subst hl;simp at hk;subst hk;exact⟨0,rfl,.inl ⟨rfl,rfl⟩⟩
 |some x=>
  have:=cf h hC hg hl;rw[hk] at this;obtain⟨n,h1,h2,_⟩:=this.int_inv;exact⟨n,h2,.inr ⟨x,rfl,h1⟩⟩
theorem aqr (h:Inv C S ρ σ own hv w0 σ0 A a w)(hC:CtxOK C σ0)(hg:holds gs ρ=true){e:PE}{hi:Option Operand}{l:Ty×PE}{k:IntKind}(hl:EJ C S gs e hi=some l)(hk:l.1=.int k):
 ∃n,l.2.ev ρ=.v (.int k n)∧((hi=none∧n=(e.ev ρ).l.length)∨∃x,hi=some x∧a.eval x=.int k n):=by
 cases hi with
 |none=>simp[EJ] at hl;subst hl;simp at hk;subst hk;exact⟨_,rfl,.inl ⟨rfl,rfl⟩⟩
 |some x=>
  have:=cf h hC hg hl;rw[hk] at this;obtain⟨n,h1,h2,_⟩:=this.int_inv;exact⟨n,h2,.inr ⟨x,rfl,h1⟩⟩
theorem run_sliceBound {P:Program}{x:Value}{y i:Nat}{k:IntKind}{code:BoundsCode}{w:World}(hx:x=.int k i)(h:i≤y):(Instr.sliceBound x y code).run P w=.ok i w:=by
 subst hx;simp[Instr.sliceBound,asIntOf,h]
theorem ama (h:Inv C S ρ σ own hv w0 σ0 A a w)(hC:CtxOK C σ0)(hg:holds gs ρ=true){T:TypeId}{x:Operand}{lo hi mx:Option Operand}{r:Sh×List PI}(hr:zI C S gs dst T x lo hi mx=some r){o:Oper}(ho:o.op=.slice T x lo hi mx):
 dW C S ρ σ hv Φ dst a w o r:=by
 unfold zI at hr;split at hr
 case h_3=>cases hr
 case h_2=>
  rename_i n e hT;split at hr
  case h_2=>cases hr
  simp only[aq] at hr;obtain⟨p,hp,hr⟩:=hr;have aR:=cf h hC hg hp;split at hr
  case h_2=>cases hr
  rename_i t ts e1;cases hc:(Nat.beq n (ts.length+1)&&ts.all (Ty.beq t)&&t.one&&qC C.P e t&&Nat.ble n maxLen&&(Wv x|| !Ty.beq t (.int .i64)))<;>simp only[hc,cond_true,cond_false] at hr
  ·cases hr
  cases hr;simp only[aj] at hc;obtain⟨⟨⟨⟨⟨c1,c2⟩,c3⟩,c4⟩,c5⟩,c6⟩:=hc;have hn:=av c1;have hm:=jo c5;obtain⟨inf,m6,hs⟩:=Jc c4;rw[e1] at aR;obtain⟨k,off,x0,y,qg,hd,hr0,iz⟩:=aR.ref_inv;have tF:t=.int .i64→σ.m k=some gE:=by
   rintro rfl;rw[fG] at c6;rcases c6 with c6|c6
   ·cases x with
    |global g=>
     simp only[use,ax] at hp;obtain⟨y',hy',_⟩:=hp;have hk:k=g:=by
      have e:a.eval (.global g)=.pointer (some ⟨g,0,none⟩):=rfl;rw[e] at qg;cases qg;rfl
     subst hk;exact h.le.m _ _ (hC.mg _ _ hy')
    |_=>cases c6
   ·exact absurd c6 (by decide)
  obtain⟨vs,ds,rfl,rfl,l1,l2,iZ,_⟩:=hr0.agg_inv
  have aN:∀(i:Nat),i<n→(t::ts)[i]?=some t:=fun i hi=>by
   cases i with
   |zero=>rfl
   |succ i=>
    have af:i<ts.length:=by omega
    rw[EV,bq af];rw[Ty.beq_eq _ _ (bz.1 c2 _ (cT af))]
  have L5:vs.length=n:=by rw[l1,hn];rfl
  have VD:ds.length=n:=by rw[l2,hn];rfl
  have cR:t.size=1:=by cases t<;>simp_all [Ty.one,Ty.size]
  refine dW.dat (v:=.slice (some ⟨k,off,none⟩) n n) ?_ ?_
  ·have:Addr.add ⟨k,off,none⟩ 0=⟨k,off,none⟩:=by simp[Addr.add]
   simp[execOp,ho,Instr.sliceAt,run_underlying hT,qg,Instr.sureAddr,Instr.sliceBounds,Go.sizeOf,run_typeInfo w m6,this]
  ·have aib:(PE.lst ((List.range n).map fun i=>.cell (.deref p.2) i)).ev ρ=.list ds:=by
        simp only[PE.ev]
        congr 1
        have bF:∀l:List PE,PE.evs ρ l=l.map fun e=>e.ev ρ:=fun l=>by induction l with|nil=>rfl|cons e l ih=>simp[PE.evs,ih]
        rw[bF,EX];apply SL;intro i;rw[cg];by_cases hi:i<n
        ·rw[pD hi,bq (by omega)];simp only[jI,Function.comp,PE.ev,hd,D.deref,D.c,D.cells];rw[aG,bq (by omega)];rfl
        ·rw[qM (by simp;omega),qM (by omega)];rfl
   rw[aib];refine .slice t k off n n ds (fun i=>vs.getD i undef) VD (aW _) hm (fun i x hx=>?_) (fun i j u hi hu=>?_) tF
   ·have af:i<n:=by rw[←VD];exact(eT.1 hx).1
    have:=iZ i t (aN i af);rw[rp hx] at this;exact this.unf
   ·have h1:=(iZ i t (aN i hi)).oneCell c3;rw[h1.1] at hu;cases j with
    |zero=>
     simp at hu;have:=iz i (vs.getD i undef) (by
      simp only[Value.cells];rw[EW,bq (by omega),aG,bq (by omega)];rfl)
     rw[cR,←hu];simpa using this
    |succ j=>simp at hu
 rename_i e hT;simp only[aq] at hr;obtain⟨p,hp,hr⟩:=hr;have aR:=cf h hC hg hp;split at hr
 case h_2=>cases hr
 rename_i t e1;rw[e1] at aR;simp only[aq] at hr;obtain⟨l,hl,u,hu,hr⟩:=hr;split at hr
 case h_2=>cases hr
 rename_i k1 k2 e2 e3;cases aC:qC C.P e t<;>simp only[aC,cond_true,cond_false] at hr
 ·cases hr
 cases hr;obtain⟨inf,m6,hs⟩:=Jc aC;obtain⟨n1,aZ,vA⟩:=aqt h hC hg hl e2;obtain⟨n2,dK,LZ⟩:=aqr h hC hg hu e3;obtain⟨xs,hd,pY⟩:=Rep.slice_inv' aR;refine .datc hg fun hc=>?_;simp only[PE.ev,hd,aZ,dK,D.l_list,D.i_int,D.b_bool,decide_eq_true_eq] at hc;obtain⟨m1,rfl⟩:=uC hc.1;obtain⟨m2,rfl⟩:=uC (show 0≤n2 by omega);have Lr:m1≤m2:=by omega
 have h2l:m2≤xs.length:=by omega
 have Va:∀c,xs.length≤c→(Instr.sliceBounds true xs.length c (lo.map a.eval) (hi.map a.eval) none).run C.P w=.ok (m1,m2,c) w:=by
  intro c iy
  have hh:∀code,(match hi.map a.eval with|some v=>Instr.sliceBound v c code|none=>(pure xs.length:Sem Nat)).run C.P w=.ok m2 w:=by
   intro code;rcases LZ with⟨rfl,e⟩|⟨y,rfl,e⟩
   ·rw[hd,D.l_list] at e;simp;omega
   ·simp only[jI];exact run_sliceBound e (by omega)
  have L4:∀code,(match lo.map a.eval with|some v=>Instr.sliceBound v m2 code|none=>(pure 0:Sem Nat)).run C.P w=.ok m1 w:=by
   intro code;rcases vA with⟨rfl,e⟩|⟨y,rfl,e⟩
   ·simp;omega
   ·simp only[jI];exact run_sliceBound e Lr
  have Vt:=hh .sliceAcap;have VF:=L4 .sliceB;unfold Instr.sliceBounds;cases hi<;>cases lo<;>simp at Vt VF ⊢<;>simp[Vt,VF]
 rcases pY with⟨⟨p0,qg⟩,rfl⟩|⟨k,off,c,qg,h1,h2,tF,vs,h3,h4⟩
 ·have:m2=0:=by simpa using h2l
  have:m1=0:=by omega
  subst_vars
  refine⟨.slice p0 0 0,?_,?_⟩
  ·have hb:=Va 0 (aW _);simp only[AK] at hb;cases p0 with
   |none=>simp[execOp,ho,Instr.sliceAt,Instr.slice,run_underlying hT,qg,hb,Go.sizeOf,run_typeInfo w m6]
   |some a0=>simp[execOp,ho,Instr.sliceAt,Instr.slice,run_underlying hT,qg,hb,Go.sizeOf,run_typeInfo w m6]
  ·simp only[PE.ev,hd,aZ,dK,D.l_list,D.i_int];cases p0 with
   |none=>exact .nil t
   |some a0=>exact .emp t a0
 ·refine⟨.slice (some (if c=m1 then⟨k,off,none⟩ else⟨k,off+m1*inf.size,none⟩)) (m2-m1) (c-m1),?_,?_⟩
  ·have hb:=Va c h1;simp only[execOp,ho,Option.map_none,Instr.sliceAt,run_underlying hT,qg];simp[run_underlying hT,Instr.slice,hb,Go.sizeOf,run_typeInfo w m6,qW];split<;>simp
  ·simp only[PE.ev,hd,aZ,dK,D.l_list,D.i_int,uD];have hlen:((xs.take m2).drop m1).length=m2-m1:=by simp;omega
   have iZ:∀(i:Nat) (y:D),((xs.take m2).drop m1)[i]?=some y→xs[m1+i]?=some y:=by
        intro i y hy;simp only[fJ,fl] at hy;split at hy
        ·exact hy
        ·cases hy
   have iz:∀(i j:Nat) (v:Value),i<m2-m1→(vs (m1+i)).cells[j]?=some v→σ.c k (off+m1*inf.size+i*t.size+j)=some v:=by
        intro i j v hi hj;have:=h4 (m1+i) j v (by omega) hj;rw[nQ] at this;rw[hs]
        rwa [←sK] at this
   split
   ·rename_i mc;refine .slice t k off (m2-m1) (c-m1) _ (fun i=>vs (m1+i)) hlen (by omega) (by omega) (fun i y hy=>h3 _ _ (iZ i y hy)) (fun i j v hi hj=>by omega) tF
   ·exact .slice t k (off+m1*inf.size) (m2-m1) (c-m1) _ (fun i=>vs (m1+i)) hlen (by omega) (by omega) (fun i y hy=>h3 _ _ (iZ i y hy)) iz tF
theorem abO (h:Inv C S ρ σ own hv w0 σ0 A a w)(hC:CtxOK C σ0)(hg:holds gs ρ=true):∀(xs:List Operand) (r:List Ty×List PE),j2 C S gs xs=some r→
 r.1.length=xs.length∧r.2.length=xs.length∧∀(i:Nat) (t:Ty),r.1[i]?=some t→Rep C.cap σ t ((xs.map a.eval).getD i undef) ((PE.evs ρ r.2).getD i .none):=by
 intro xs
 induction xs with
 |nil=>intro r hr;simp[j2] at hr;subst hr;exact⟨rfl,rfl,by simp⟩
 |cons x xs ih=>
  intro r hr;simp only[j2,aq,ax] at hr;obtain⟨p,hp,q,hq,rfl⟩:=hr;obtain⟨l1,l2,aN⟩:=ih q hq;refine⟨by simp[l1],by simp[l2],fun i t hi=>?_⟩;cases i with
  |zero=>simp at hi;subst hi;simpa [PE.evs] using cf h hC hg hp
  |succ i=>simp at hi;simpa [PE.evs] using aN i t hi
theorem alR (h:Inv C S ρ σ own hv w0 σ0 A a w)(hC:CtxOK C σ0)(hg:holds gs ρ=true){fn:Fn}{first caps:Array Operand}{r:Sh×List PI}(hr:Oa C S gs dst fn first caps=some r){o:Oper}(ho:o.op=.makeFunc fn first caps):
 dW C S ρ σ hv Φ dst a w o r:=by
 unfold Oa at hr;split at hr
 case h_2=>cases hr
 rename_i f LU;have Ci:first=#[]:=by simpa using LU
 subst Ci;simp only[aq] at hr;obtain⟨cs,dg,p,hp,hr⟩:=hr;cases hb:Ty.subs p.1 cs.caps<;>simp only[hb,cond_true,cond_false] at hr
 ·cases hr
 cases hr;obtain⟨l1,l2,aN⟩:=abO h hC hg _ _ hp;have hl:=Ty.subs_len _ _ hb;refine .dat (v:=.func (.func f) #[] (caps.map a.eval)) ?_ ?_
 ·simp[execOp,ho,Instr.makeFunc]
 ·simp only[PE.ev];have:caps.map a.eval=(caps.toList.map a.eval).toArray:=by apply qJ;rw[uA]
  rw[this];have e1:(caps.toList.map a.eval).length=cs.caps.length:=by rw[ed];omega
  have e2:(PE.evs ρ p.2).length=cs.caps.length:=by rw[PE.evs_eq,ed];omega
  refine .fn f cs _ _ dg e1 e2 (fun i t hi=>?_);obtain⟨s,hs,cC⟩:=Ty.subs_get _ _ hb i t hi;exact(aN i s hs).sub cC
theorem al5 (h:Inv C S ρ σ own hv w0 σ0 A a w)(hC:CtxOK C σ0)(hg:holds gs ρ=true){x:Operand}{r:Sh×List PI}(hr:zG C S gs dst x=some r){o:Oper}(ho:o.op=.nilCheck x):
 dW C S ρ σ hv Φ dst a w o r:=by
 have ah:∀k off,a.eval x=.pointer (some ⟨k,off,none⟩)→(execOp a.eval o).run C.P w=.ok (.value (a.eval x)) w:=by
  intro k off e;simp[execOp,ho,e]
 unfold zG at hr;split at hr
 ·rename_i t e hu;cases hr;have aR:=cf h hC hg hu;obtain⟨k,off,v,y,aO,aZ,bH,iz⟩:=Rep.ref_inv aR;exact .dat (ah k off aO) aR
 ·split at hr
  ·rename_i t _;obtain⟨hs,eZ⟩:=lP h hg t;split at hr
   ·rename_i j ver off es;rw[es] at hs;cases hb:Nat.beq ver (S.ver j)<;>simp only[hb,cond_true,cond_false] at hr
    ·cases hr
    cases hr;obtain⟨k,eA,fo⟩:=hs.2 (av hb);intro ρ' tz;exact⟨_,_,sq tz,ah k off fo,hs,fun _ _ e=>by cases e⟩
   ·rename_i j ver sz off es;rw[es] at hs;cases hb:Nat.beq ver (S.ver j)<;>simp only[hb,cond_true,cond_false] at hr
    ·cases hr
    cases hr;have fb:=hs;obtain⟨k,n,c,ik,i,eA,td,br,fo⟩:=hs.2 (av hb);intro ρ' tz;exact⟨_,_,sq tz,ah _ _ fo,fb,fun _ _ e=>by cases e⟩
   ·cases hr
  ·cases hr
theorem abX {cap:Nat→Option CSig}{t:Ty}{z:Ty×D}{v:Value}(h:pz t=some z)(hz:w7 t v=true):Rep cap σ z.1 v z.2∧z.1.one=true∧Ty.sub z.1 t=true:=by
 unfold w7 at hz;split at hz
 ·simp at hz;obtain⟨rfl,rfl⟩:=hz;simp[pz] at h;subst h;exact⟨.int _ 0 (by rename_i k;cases k<;>decide) (by rename_i k;cases k<;>decide),rfl,by simp[Ty.sub,Ty.beq]⟩
 ·simp at hz;subst hz;simp[pz] at h;subst h;exact⟨.bool false,rfl,rfl⟩
 ·rename_i s;have:s=ByteArray.empty:=by
   have:s.size=0:=by simpa using hz
   cases s with|mk d=>simp[ByteArray.size] at this;subst this;rfl
  subst this;simp[pz] at h;subst h;exact⟨.str _ (by decide),rfl,rfl⟩
 ·simp[pz] at h;subst h;exact⟨.nils _,rfl,rfl⟩
 ·simp[pz] at h;subst h;refine⟨.mapnil _ _,rfl,?_⟩;simp only[Ty.sub];exact Ty.beq_refl _
 ·simp[pz] at h;subst h;exact⟨.fnnil _ _,rfl,by simp only[Ty.sub];exact Ty.beq_refl _⟩
 ·cases hz
end
end Cx
namespace Cx
open Go Go.RowKit
theorem mapM_some {α β:Type}(f:α→Option β):∀(l:List α) (r:List β),l.mapM f=some r→r.length=l.length∧∀(i:Nat) (x:α),l[i]?=some x→∃y,r[i]?=some y∧f x=some y
 |[],r,h=>by simp at h;subst h;exact⟨rfl,by simp⟩
 |x::l,r,h=>by
  simp only[SR,Option.bind_eq_bind,aq] at h;obtain⟨y,hy,ys,vO,h⟩:=h;cases h;obtain⟨h1,h2⟩:=mapM_some f l ys vO;refine⟨by simp[h1],fun i z hi=>?_⟩;cases i with
  |zero=>simp at hi;subst hi;exact⟨y,rfl,hy⟩
  |succ i=>simp at hi;simpa using h2 i z hi
theorem Sr:∀(ts:List Ty) (vs:List Value),AB ts vs=true→vs.length=ts.length∧∀(i:Nat) (t:Ty),ts[i]?=some t→∃v,vs[i]?=some v∧w7 t v=true
 |[],vs,h=>by cases vs<;>simp_all [AB]
 |t::ts,vs,h=>by
  cases vs with
  |nil=>simp[AB] at h
  |cons v vs=>
   simp only[AB,aj] at h;obtain⟨h1,h2⟩:=Sr ts vs h.2;refine⟨by simp[h1],fun i u hi=>?_⟩;cases i with
   |zero=>simp at hi;subst hi;exact⟨v,rfl,h.1⟩
   |succ i=>simp at hi;simpa using h2 i u hi
theorem w8 {cap:Nat→Option CSig}{σ:Im}{t:Ty}{z:Ty×D}{v:Value}(h:nK t=some z)(hz:jm t v=true):Rep cap σ z.1 v z.2∧Ty.sub z.1 t=true∧z.1.one=t.one:=by
 cases t with
 |agg ts=>
  simp only[nK,ax] at h;obtain⟨zs,rM,rfl⟩:=h;cases v with
  |agg vs=>
   simp only[jm] at hz;obtain⟨l1,h1⟩:=Sr ts vs.toList hz;obtain⟨l2,h2⟩:=mapM_some _ _ _ rM;have key:∀(i:Nat) (t:Ty),ts[i]?=some t→∃y v,zs[i]?=some y∧vs.toList[i]?=some v∧Rep cap σ y.1 v y.2∧y.1.one=true∧Ty.sub y.1 t=true:=by
      intro i t hi;obtain⟨y,hy,rK⟩:=h2 i t hi;obtain⟨v,hv,gT⟩:=h1 i t hi;obtain⟨g1,g2,g3⟩:=abX (cap:=cap) (σ:=σ) rK gT;exact⟨y,v,hy,hv,g1,g2,g3⟩
   have bM:∀(ts:List Ty) (zs:List (Ty×D)),zs.length=ts.length→(∀(i:Nat) (t:Ty),ts[i]?=some t→∃y,zs[i]?=some y∧Ty.sub y.1 t=true)→Ty.subs (zs.map (·.1)) ts=true:=by
      intro ts
      induction ts with
      |nil=>intro zs hl _;cases zs<;>simp_all [Ty.subs]
      |cons t ts ih=>
       intro zs hl hh;cases zs with
       |nil=>simp at hl
       |cons z zs=>
        simp only[gr,Ty.subs,aj];refine⟨?_,ih zs (by simpa using hl) fun i u hu=>by simpa using hh (i+1) u (by simpa using hu)⟩;obtain⟨y,hy,rK⟩:=hh 0 t rfl;simp at hy;subst hy;exact rK
   refine⟨?_,?_,rfl⟩
   ·have:vs=vs.toList.toArray:=by simp
    rw[this];refine .agg _ _ _ (by rw[ed];omega) (by simp) (fun i t hi=>?_) (fun i t hi=>?_)
    ·simp only[cg,ax] at hi;obtain⟨q,hq,rfl⟩:=hi;obtain⟨t',ML⟩:∃t',ts[i]?=some t':=⟨_,bq (by have:=(eT.1 hq).1;omega)⟩
     obtain⟨y,v,hy,hv,g1,g2,g3⟩:=key i t' ML;rw[hq] at hy;cases hy;rw[rp hv,rp (show(zs.map (·.2))[i]?=some q.2 by simp[hq])];exact g1
    ·simp only[cg,ax] at hi;obtain⟨q,hq,rfl⟩:=hi;obtain⟨t',ML⟩:∃t',ts[i]?=some t':=⟨_,bq (by have:=(eT.1 hq).1;omega)⟩
     obtain⟨y,v,hy,hv,g1,g2,g3⟩:=key i t' ML;rw[hq] at hy;cases hy;exact g2
   ·simp only[Ty.sub];exact bM ts zs l2 fun i t hi=>by obtain⟨y,v,hy,hv,g1,g2,g3⟩:=key i t hi;exact⟨y,hy,g3⟩
  |_=>simp[jm] at hz
 |_=>
  obtain⟨g1,g2,g3⟩:=abX (cap:=cap) (σ:=σ) (by simpa [nK] using h) (by simpa [jm] using hz);exact⟨g1,g3,(Ty.sub_one _ _ g3).1⟩
theorem adl {a b:ByteArray}(h:(a==b)=true):a=b:=by
 cases a with|mk x=>cases b with|mk y=>
 have:(x==y)=true:=h;rw[eq_of_beq this]
theorem adm (a:ByteArray):(a==a)=true:=by
 cases a with|mk x=>
 show(x==x)=true;simp
theorem Ng {P:Program}{K:TypeId}{kt:Ty}(hk:lG P K kt=true):
 (∃k k',kt=.int k∧P.underlying K=some (.int k'))∨(kt=.str∧P.underlying K=some .string)∨(kt=.bool∧P.underlying K=some .bool):=by
 unfold lG at hk;split at hk
 ·split at hk
  ·exact .inl ⟨_,_,rfl,by assumption⟩
  ·cases hk
 ·split at hk
  ·exact .inr (.inl ⟨rfl,by assumption⟩)
  ·cases hk
 ·split at hk
  ·exact .inr (.inr ⟨rfl,by assumption⟩)
  ·cases hk
 ·cases hk
theorem afq {cap:Nat→Option CSig}{σ:Im}{P:Program}{K:TypeId}{kt:Ty}{desc:TypeDesc}(hk:lG P K kt=true)(hu:P.underlying K=some desc){v:Value}{d:D}(hv:Rep cap σ kt v d):
 ∀(es:List MapEntry) (ds:List (D×D)) (i:Nat),ds.length=es.length→(∀(j:Nat) (e:MapEntry) (p:D×D),es[j]?=some e→ds[j]?=some p→Rep cap σ kt e.key p.1)→
  (Instr.findNow desc v es i=some none∧∀(j:Nat) (p:D×D),ds[j]?=some p→dZ d p.1=false)∨
  ∃j e p,es[j]?=some e∧ds[j]?=some p∧Instr.findNow desc v es i=some (some (i+j,e.val))∧dZ d p.1=true∧Instr.sameBits 10000 e.key v=true∧∀m q,m<j→ds[m]?=some q→dZ d q.1=false:=by
 have cR:∀(v':Value) (d':D),Rep cap σ kt v' d'→Instr.sameNow desc v v'=some (dZ d d')∧(dZ d d'=true→Instr.sameBits 10000 v' v=true):=by
  intro v' d' h';rcases Ng hk with⟨k,k',rfl,kj⟩|⟨rfl,kj⟩|⟨rfl,kj⟩
  ·rw[hu] at kj;cases kj;obtain⟨n,rfl,rfl,_⟩:=hv.int_inv;obtain⟨m,rfl,rfl,_⟩:=h'.int_inv;refine⟨by simp[Instr.sameNow,dZ,D.cells,qj,rO],fun e=>?_⟩;have:n=m:=by simpa [dZ,D.cells,qj,rO] using e
   subst this;simp[Instr.sameBits]
  ·rw[hu] at kj;cases kj;obtain⟨n,rfl,rfl,_⟩:=hv.str_inv;obtain⟨m,rfl,rfl,_⟩:=h'.str_inv;refine⟨by simp[Instr.sameNow,dZ,D.cells,qj,rO],fun e=>?_⟩;have:n=m:=adl (by simpa [dZ,D.cells,qj,rO] using e);subst this;simpa [Instr.sameBits] using adm n
  ·rw[hu] at kj;cases kj;obtain⟨n,rfl,rfl⟩:=hv.bool_inv;obtain⟨m,rfl,rfl⟩:=h'.bool_inv;refine⟨by simp[Instr.sameNow,dZ,D.cells,qj,rO],fun e=>?_⟩;have:n=m:=by simpa [dZ,D.cells,qj,rO] using e
   subst this;simp[Instr.sameBits]
 intro es
 induction es with
 |nil=>intro ds i hl _;left;exact⟨rfl,by cases ds<;>simp_all⟩
 |cons e es ih=>
  intro ds i hl aN;cases ds with
  |nil=>simp at hl
  |cons p ds=>
   obtain⟨hs,hb⟩:=cR e.key p.1 (aN 0 e p rfl rfl);cases mh:dZ d p.1 with
   |true=>
    right;rw[mh] at hs;exact⟨0,e,p,rfl,rfl,by simp[Instr.findNow,hs],mh,hb mh,fun m q hm=>by omega⟩
   |false=>
    rw[mh] at hs;rcases ih ds (i+1) (by simpa using hl) (fun j e' p' he hp=>aN (j+1) e' p' (by simpa using he) (by simpa using hp)) with⟨h1,h2⟩|⟨j,e',p',h1,h2,h3,h4,h5,h6⟩
    ·left;refine⟨by simp[Instr.findNow,hs,h1],fun j q hq=>?_⟩;cases j with
     |zero=>simp at hq;subst hq;exact mh
     |succ j=>exact h2 j q (by simpa using hq)
    ·right;refine⟨j+1,e',p',by simpa using h1,by simpa using h2,?_,h4,h5,fun m q hm hq=>?_⟩
     ·simp[Instr.findNow,hs,h3];omega
     ·cases m with
      |zero=>simp at hq;subst hq;exact mh
      |succ m=>exact h6 m q (by omega) (by simpa using hq)
theorem Nq {d:D}:∀{ds:List (D×D)},(∀(j:Nat) (p:D×D),ds[j]?=some p→dZ d p.1=false)→lH d ds=none
 |[],_=>rfl
 |p::ds,h=>by simp only[lH,h 0 p rfl];exact Nq fun j q hq=>h (j+1) q (by simpa using hq)
theorem Nr {d:D}:∀{ds:List (D×D)} {j:Nat} {p:D×D},ds[j]?=some p→dZ d p.1=true→(∀(m:Nat) (q:D×D),m<j→ds[m]?=some q→dZ d q.1=false)→lH d ds=some p.2
 |[],j,p,hp,_,_=>by simp at hp
 |x::ds,0,p,hp,hk,_=>by simp at hp;subst hp;simp[lH,hk]
 |x::ds,j+1,p,hp,hk,hm=>by
  simp only[lH,hm 0 x (by omega) rfl];exact Nr (j:=j) (by simpa using hp) hk fun m q af hq=>hm (m+1) q (by omega) (by simpa using hq)
theorem Ou {d v:D}:∀{ds:List (D×D)},(∀(j:Nat) (p:D×D),ds[j]?=some p→dZ d p.1=false)→ky d v ds=ds++[(d,v)]
 |[],_=>rfl
 |p::ds,h=>by simp only[ky,h 0 p rfl,uB,if_false,EU];rw[Ou fun j q hq=>h (j+1) q (by simpa using hq)]
theorem Ov {d v:D}:∀{ds:List (D×D)} {j:Nat} {p:D×D},ds[j]?=some p→dZ d p.1=true→(∀(m:Nat) (q:D×D),m<j→ds[m]?=some q→dZ d q.1=false)→ky d v ds=ds.set j (d,v)
 |[],j,p,hp,_,_=>by simp at hp
 |x::ds,0,p,hp,hk,_=>by simp at hp;subst hp;simp[ky,hk]
 |x::ds,j+1,p,hp,hk,hm=>by
  simp only[ky,hm 0 x (by omega) rfl,uB,if_false,List.set_cons_succ];rw[Ov (j:=j) (by simpa using hp) hk fun m q af hq=>hm (m+1) q (by omega) (by simpa using hq)]
theorem WI {P:Program}{K:TypeId}{kt:Ty}(hk:zi P K kt=true):
 ∃k k' e q i,kt=.agg [.int k,.int k']∧P.underlying K=some (.array 2 e)∧P.underlying e=some (.int q)∧P.plainKey e=true∧P.info? e=some i∧P.cellsOf e=1:=by
 unfold zi at hk;split at hk
 case h_2=>cases hk
 rename_i k k';split at hk
 case h_2=>cases hk
 rename_i n e hu;simp only[aj] at hk;obtain⟨⟨⟨h1,h2⟩,h3⟩,h4⟩:=hk;have hn:=av h1;subst hn;split at h2
 case h_2=>cases h2
 rename_i q hq;split at h4
 case h_2=>cases h4
 rename_i i hi;exact⟨k,k',e,q,i,rfl,hu,hq,h3,hi,av h4⟩
theorem Rep.pair_inv {cap:Nat→Option CSig}{σ:Im}{k k':IntKind}{v:Value}{d:D}(h:Rep cap σ (.agg [.int k,.int k']) v d):∃a b,v=.agg #[.int k a,.int k' b]∧d=.agg [.v (.int k a),.v (.int k' b)]:=by
 generalize ht:Ty.agg [.int k,.int k']=t at h;cases h with
 |agg ts vs ds h1 h2 h ho=>
  cases ht;obtain⟨x,y,rfl⟩:∃x y,vs=[x,y]:=by
   match vs,h1 with
   |[x,y],_=>exact⟨x,y,rfl⟩
  obtain⟨p,q,rfl⟩:∃x y,ds=[x,y]:=by
   match ds,h2 with
   |[x,y],_=>exact⟨x,y,rfl⟩
  obtain⟨a,e1,e2,_⟩:=(h 0 _ rfl).int_inv;obtain⟨b,e3,e4,_⟩:=(h 1 _ rfl).int_inv;simp at e1 e2 e3 e4;subst e1 e2 e3 e4;exact⟨a,b,rfl,rfl⟩
 |_=>cases ht
theorem anJ {P:Program}{K e:TypeId}{q:IntKind}{i:TypeInfo}(hu:P.underlying K=some (.array 2 e))(hq:P.underlying e=some (.int q))(hp:P.plainKey e=true)(hi:P.info? e=some i)(hc:P.cellsOf e=1)(k k':IntKind)(a b c d:Int)(w:World):
 (Op.equal K (.agg #[.int k a,.int k' b]) (.agg #[.int k c,.int k' d])).run P w=.ok (a==c&&b==d) w:=by
 unfold Op.equal;show(Op.equalIn (9999+1) K _ _).run P w=_;rw[run_equalIn_array w 9999 _ _ hu hi,hc];have e0:List.range 2=[0,1]:=rfl;have p0:∀(x y:Value) (w:World),(part e #[x,y] 0).run P w=.ok x w:=fun x y w=>run_part_plain w hp rfl;have p1:∀(x y:Value) (w:World),(part e #[x,y] 1).run P w=.ok y w:=fun x y w=>run_part_plain w hp rfl;have q0:∀(k:IntKind) (a b:Int) (w:World),(Op.equalIn 9999 e (.int k a) (.int k b)).run P w=.ok (a==b) w:=fun k a b w=>run_equalIn_int w 9998 e k q a b hq;rw[e0];simp only[Op.eqItems,Sem.run_bind,Nat.zero_mul,Nat.one_mul,p0,p1,Result.andThen_ok,q0];cases a==c
 ·simp
 ·simp only[qL,uB,if_false,Sem.run_bind,p1,Result.andThen_ok,q0];cases b==d<;>simp
theorem WH {P:Program}{K:TypeId}{kt:Ty}(hk:tJ P K kt=true):lG P K kt=true∨zi P K kt=true:=by
 unfold tJ at hk;simpa using hk
theorem adM {cap:Nat→Option CSig}{σ:Im}{P:Program}{K:TypeId}{kt:Ty}(hk:zi P K kt=true){v:Value}{d:D}(hv:Rep cap σ kt v d){w:World}{b:Bool}:(Instr.checkKey b 10000 K v).run P w=.ok () w:=by
 obtain⟨k,k',e,q,i,rfl,hu,hq,hp,hi,hc⟩:=WI hk;obtain⟨x,y,rfl,_⟩:=hv.pair_inv;have p0:∀(x y:Value) (w:World),(part e #[x,y] 0).run P w=.ok x w:=fun x y w=>run_part_plain w hp rfl;have p1:∀(x y:Value) (w:World),(part e #[x,y] 1).run P w=.ok y w:=fun x y w=>run_part_plain w hp rfl
 have c0:∀(m:Nat) (k:IntKind) (n:Int) (w:World),(Instr.checkKey b (m+1) e (.int k n)).run P w=.ok () w:=fun m k n w=>by
  simp[Instr.checkKey,run_underlying hq]
 have s0:∀w:World,(Go.sizeOf e).run P w=Result.ok 1 w:=fun w=>by rw[run_sizeOf w hi,hc]
 have main:∀m,(Instr.checkKey b (m+1+1) K (.agg #[.int k x,.int k' y])).run P w=.ok () w:=by
  intro m;rw[Instr.checkKey];simp only[Sem.run_bind,run_underlying hu,Result.andThen_ok,Std.Legacy.Range.forIn_eq_forIn_range',Std.Legacy.Range.size,Nat.sub_zero,Nat.add_one_sub_one,Nat.div_one];simp[List.range',s0,p0,p1,c0,Sem.run_bind,Result.andThen_ok]
 exact main 9998
theorem TM {cap:Nat→Option CSig}{σ:Im}{P:Program}{K:TypeId}{kt:Ty}(hk:tJ P K kt=true){v:Value}{d:D}(hv:Rep cap σ kt v d){w:World}{b:Bool}:(Instr.checkKey b 10000 K v).run P w=.ok () w:=by
 rcases WH hk with hk|hk
 case inr=>exact adM hk hv
 have:∀n,(Instr.checkKey b (n+1) K v).run P w=.ok () w:=by
  intro n;rcases Ng hk with⟨k,k',rfl,hu⟩|⟨rfl,hu⟩|⟨rfl,hu⟩<;>cases v<;>simp[Instr.checkKey,run_underlying hu]
 exact this 9999
section
variable {C:Ctx} {S:St} {ρ:Env} {σ:Im} {own:Nat→Option Nat} {hv:Nat→Value} {w0:World} {σ0:Base} {A:Nat→Prop} {a:Act} {w:World} {gs:List (Nat×Bool)} {Φ:aK} {dst:Nat}
theorem ajX {P:Program}{K:TypeId}{kt:Ty}(hk:lG P K kt=true):∃desc,P.underlying K=some desc:=by
 rcases Ng hk with⟨k,k',rfl,hu⟩|⟨rfl,hu⟩|⟨rfl,hu⟩<;>exact⟨_,hu⟩
theorem anK {cap:Nat→Option CSig}{P:Program}{K:TypeId}{kt et:Ty}(hk:zi P K kt=true){v:Value}{d:D}(hv:Rep cap σ kt v d)(arr:Array MapEntry)(ds:List (D×D))(hl:ds.length=arr.size)
 (aN:∀(j:Nat) (e:MapEntry) (p:D×D),arr[j]?=some e→ds[j]?=some p→Rep cap σ kt e.key p.1∧Rep cap σ et e.val p.2) (w:World):
 ((Instr.findKey K v arr.toList).run P w=.ok none w∧lH d ds=none∧∀u,ky d u ds=ds++[(d,u)])∨
 ∃j e p,arr[j]?=some e∧ds[j]?=some p∧(Instr.findKey K v arr.toList).run P w=.ok (some (j,e.val)) w∧lH d ds=some p.2∧(∀u,ky d u ds=ds.set j (d,u))∧Instr.sameBits 10000 e.key v=true:=by
 obtain⟨k,k',e,q,i,rfl,hu,hq,hp,hi,hc⟩:=WI hk;have cR:∀(v':Value) (d':D),Rep cap σ (.agg [.int k,.int k']) v' d'→(Op.equal K v v').run P w=.ok (dZ d d') w∧(dZ d d'=true→Instr.sameBits 10000 v' v=true)∧Instr.sameNow (.array 2 e) v v'=none:=by
  intro v' d' h';obtain⟨a,b,rfl,rfl⟩:=hv.pair_inv;obtain⟨a',b',rfl,rfl⟩:=h'.pair_inv;refine⟨?_,fun he=>?_,rfl⟩
  ·rw[anJ hu hq hp hi hc];simp[dZ,D.cells,qj,rO]
  ·have:a=a'∧b=b':=by simpa [dZ,D.cells,qj,rO] using he
   obtain⟨rfl,rfl⟩:=this;simp[Instr.sameBits]
 have ask:∀(es:List MapEntry) (ds:List (D×D)) (i:Nat),ds.length=es.length→(∀(j:Nat) (e:MapEntry) (p:D×D),es[j]?=some e→ds[j]?=some p→Rep cap σ (.agg [.int k,.int k']) e.key p.1)→
  ((Instr.findAsking K v es i).run P w=.ok none w∧∀(j:Nat) (p:D×D),ds[j]?=some p→dZ d p.1=false)∨
  ∃j e p,es[j]?=some e∧ds[j]?=some p∧(Instr.findAsking K v es i).run P w=.ok (some (i+j,e.val)) w∧dZ d p.1=true∧Instr.sameBits 10000 e.key v=true∧∀m q,m<j→ds[m]?=some q→dZ d q.1=false:=by
  intro es
  induction es with
  |nil=>intro ds i hl _;left;exact⟨by simp[Instr.findAsking],by cases ds<;>simp_all⟩
  |cons en es ih=>
   intro ds i hl aN;cases ds with
   |nil=>simp at hl
   |cons p ds=>
    obtain⟨hs,hb,_⟩:=cR en.key p.1 (aN 0 en p rfl rfl);cases mh:dZ d p.1 with
    |true=>
     right;rw[mh] at hs;exact⟨0,en,p,rfl,rfl,by simp[Instr.findAsking,hs],mh,hb mh,fun m q hm=>by omega⟩
    |false=>
     rw[mh] at hs;rcases ih ds (i+1) (by simpa using hl) (fun j e' p' he hp=>aN (j+1) e' p' (by simpa using he) (by simpa using hp)) with⟨h1,h2⟩|⟨j,e',p',h1,h2,h3,h4,h5,h6⟩
     ·left;refine⟨by simp[Instr.findAsking,hs,h1],fun j q hq=>?_⟩;cases j with
      |zero=>simp at hq;subst hq;exact mh
      |succ j=>exact h2 j q (by simpa using hq)
     ·right;refine⟨j+1,e',p',by simpa using h1,by simpa using h2,?_,h4,h5,fun m q hm hq=>?_⟩
      ·simp[Instr.findAsking,hs,h3];omega
      ·cases m with
       |zero=>simp at hq;subst hq;exact mh
       |succ m=>exact h6 m q (by omega) (by simpa using hq)
 have kg:(Instr.findKey K v arr.toList).run P w=(Instr.findAsking K v arr.toList 0).run P w:=by
  cases ja:arr.toList with
  |nil=>simp[Instr.findKey,run_underlying hu,Instr.findNow,Instr.findAsking]
  |cons en es=>
   obtain⟨p,CF⟩:∃p,ds[0]?=some p:=by
        have:0<ds.length:=by rw[hl];have:=congrArg List.length ja;simp at this;omega
        exact⟨_,bq this⟩
   have LQ:arr[0]?=some en:=by rw[←AD,ja];rfl
   have:=(cR en.key p.1 (aN 0 en p LQ CF).1).2.2;simp[Instr.findKey,run_underlying hu,Instr.findNow,this]
 rw[kg];rcases ask arr.toList ds 0 (by simpa using hl) (fun j e p he hp=>(aN j e p (by simpa using he) hp).1) with⟨h1,h2⟩|⟨j,e,p,h1,h2,h3,h4,h5,h6⟩
 ·left;exact⟨h1,Nq h2,fun u=>Ou h2⟩
 ·right;simp only[gw] at h3;exact⟨j,e,p,by simpa using h1,h2,h3,Nr h2 h4 h6,fun u=>Ov h2 h4 h6,h5⟩
theorem run_findKey {cap:Nat→Option CSig}{P:Program}{K:TypeId}{kt et:Ty}(gQ:tJ P K kt=true){v:Value}{d:D}(hv:Rep cap σ kt v d)(arr:Array MapEntry)(ds:List (D×D))(hl:ds.length=arr.size)
 (aN:∀(j:Nat) (e:MapEntry) (p:D×D),arr[j]?=some e→ds[j]?=some p→Rep cap σ kt e.key p.1∧Rep cap σ et e.val p.2) (w:World):
 ((Instr.findKey K v arr.toList).run P w=.ok none w∧lH d ds=none∧∀u,ky d u ds=ds++[(d,u)])∨
 ∃j e p,arr[j]?=some e∧ds[j]?=some p∧(Instr.findKey K v arr.toList).run P w=.ok (some (j,e.val)) w∧lH d ds=some p.2∧(∀u,ky d u ds=ds.set j (d,u))∧Instr.sameBits 10000 e.key v=true:=by
 rcases WH gQ with hk|hk
 case inr=>exact anK hk hv arr ds hl aN w
 obtain⟨desc,hu⟩:=ajX hk;rcases afq hk hu hv arr.toList ds 0 (by simpa using hl) (fun j e p he hp=>(aN j e p (by simpa using he) hp).1) with⟨h1,h2⟩|⟨j,e,p,h1,h2,h3,h4,h5,h6⟩
 ·left;exact⟨by simp[Instr.findKey,run_underlying hu,h1],Nq h2,fun u=>Ou h2⟩
 ·right;refine⟨j,e,p,by simpa using h1,h2,?_,Nr h2 h4 h6,fun u=>Ov h2 h4 h6,h5⟩;simp only[gw] at h3;simp[Instr.findKey,run_underlying hu,h3]
theorem al3 (h:Inv C S ρ σ own hv w0 σ0 A a w)(hC:CtxOK C σ0)(hg:holds gs ρ=true){T:TypeId}{m k:Operand}{ok:Bool}{r:Sh×List PI}(hr:zF C S gs dst T m k ok=some r){o:Oper}(ho:o.op=.lookup T m k ok):
 dW C S ρ σ hv Φ dst a w o r:=by
 unfold zF at hr;split at hr
 case h_2=>cases hr
 rename_i K E hT;simp only[aq] at hr;obtain⟨p,hp,q,hq,hr⟩:=hr;have aR:=Sk h hC hg hp;have dt:=cf h hC hg hq;split at hr
 case h_2=>cases hr
 rename_i kt et e1;rw[e1] at aR;split at hr
 case h_2=>cases hr
 rename_i z inf hz m6;cases hc:(Ty.beq q.1 kt&&tJ C.P K kt&&Ty.sub z.1 et&&sA inf et)<;>simp only[hc,cond_true,cond_false] at hr
 ·cases hr
 simp only[aj] at hc;obtain⟨⟨⟨G8,Cp⟩,bM⟩,hzero⟩:=hc;rw[Ty.beq_eq _ _ G8] at dt;obtain⟨v0,rH,CW⟩:∃v0,inf.zero=some v0∧Rep C.cap σ et v0 z.2:=by
  unfold sA at hzero;split at hzero
  ·rename_i v0 e0;exact⟨v0,e0,(w8 hz hzero).1.sub bM⟩
  ·cases hzero
 have ahG:∃(arr:Array MapEntry) (ds:List (D×D)),(p.2.ev ρ).m=ds∧ds.length=arr.size∧
  (∀(j:Nat) (e:MapEntry) (p:D×D),arr[j]?=some e→ds[j]?=some p→Rep C.cap σ kt e.key p.1∧Rep C.cap σ et e.val p.2)∧
  ((a.eval m=.map none∧arr=#[])∨∃g clock,a.eval m=.map (some g)∧w.heap[g]?=some (.map arr clock)):=by
  rcases aR with aR|⟨T',e,cells,xs,ht,_⟩|⟨g,arr,clock,es,kt',et',ht,Wd,hb,hd,hl,hx,aN⟩
  ·generalize vK:a.eval m=v at aR;generalize Ce:p.2.ev ρ=d at aR;cases aR with
   |mapnil=>exact⟨#[],[],by simp[D.m],rfl,by simp,.inl ⟨rfl,rfl⟩⟩
   |map kt et r fW es hm hl hx hk he=>
    obtain⟨arr,clock,hb,ja⟩:=(h.ok.m _ _ hm).mp (Dc hl hk) (Xx hl hk);have hn:es.length=arr.size:=by rw[hl,←ja];simp[entriesOf]
    refine⟨arr,es,by simp[D.m],hn,fun j e p hj hp=>?_,.inr ⟨r,clock,rfl,hb⟩⟩;have:fW[j]?=some (e.key,e.val):=by rw[←ja];simp[entriesOf,hj]
    exact⟨hk j _ p this hp,he j _ p this hp⟩
  ·cases ht
  ·cases ht;exact⟨arr,es,by rw[hd];rfl,hl,aN,.inr ⟨g,clock,Wd,hb⟩⟩
 obtain⟨arr,ds,hd,hl,aN,bX⟩:=ahG;have ly:∀b,(Instr.checkKey b 10000 K (a.eval k)).run C.P w=.ok () w:=fun b=>TM (cap:=C.cap) (σ:=σ) Cp dt;have L8:∃u b x,(Instr.lookup T (a.eval m) (a.eval k) ok).run C.P w=.ok (if ok then .tuple #[u,.bool b] else u) w∧(lH (q.2.ev ρ) (p.2.ev ρ).m).getD z.2=x∧(lH (q.2.ev ρ) (p.2.ev ρ).m).isSome=b∧Rep C.cap σ et u x:=by
  rw[hd];rcases run_findKey Cp dt arr ds hl aN w with⟨h1,h2,_⟩|⟨j,e,x,h1,h2,h3,h4,_,_⟩
  ·refine⟨v0,false,z.2,?_,by rw[h2];rfl,by rw[h2];rfl,CW⟩;rcases bX with⟨em,rfl⟩|⟨g,clock,em,hb⟩
   ·simp only[List.toList_toArray] at h1;cases ok<;>simp[Instr.lookup,run_underlying hT,em,ly,h1,zeroValue,run_typeInfo w m6,rH]
   ·cases ok<;>simp[Instr.lookup,run_underlying hT,em,getObj,Sem.run,hb,ly,h1,zeroValue,run_typeInfo w m6,rH]
  ·refine⟨e.val,true,x.2,?_,by rw[h4];rfl,by rw[h4];rfl,(aN j e x h1 h2).2⟩;rcases bX with⟨em,rfl⟩|⟨g,clock,em,hb⟩
   ·simp at h1
   ·cases ok<;>simp[Instr.lookup,run_underlying hT,em,getObj,Sem.run,hb,ly,h3]
 obtain⟨u,b,x,ah,nk,M3,bH⟩:=L8;cases ok with
 |true=>
  simp only[cond_true] at hr;cases hr;refine .dat (v:=.tuple #[u,.bool b]) (by simp[execOp,ho,ah]) ?_;simp only[PE.ev,PE.evs,nk,M3];refine .tup [et,.bool] [u,.bool b] [x,.v (.bool b)] rfl rfl (fun i t hi=>?_)
  match i,hi with
  |0,hi=>simp at hi;subst hi;exact bH
  |1,hi=>simp at hi;subst hi;exact .bool b
  |i+2,hi=>simp at hi
 |false=>
  simp only[cond_false] at hr;cases hr;refine .dat (v:=u) (by simp[execOp,ho,ah]) ?_;simp only[PE.ev,nk];exact bH
end
end Cx
namespace Cx
open Go Go.RowKit
theorem UC (off:Nat):∀(l:List Value) (s:Nat) (cells:Array Value),off+s+l.length≤cells.size→
 ((l.zipIdx s).foldl (fun cs (x:Value×Nat)=>cs.setIfInBounds (off+x.2) x.1) cells).size=cells.size∧
 ∀p,((l.zipIdx s).foldl (fun cs (x:Value×Nat)=>cs.setIfInBounds (off+x.2) x.1) cells)[p]?=if off+s≤p∧p<off+s+l.length then l[p-(off+s)]? else cells[p]?
 |[],s,cells,_=>by
  refine⟨rfl,fun p=>?_⟩;have:¬(off+s≤p∧p<off+s+0):=by omega
  simp only[List.zipIdx_nil,List.foldl_nil,AK];rw[if_neg this]
 |v::l,s,cells,h=>by
  simp only[pE] at h;obtain⟨h1,h2⟩:=UC off l (s+1) (cells.setIfInBounds (off+s) v) (by simp;omega);simp only[List.zipIdx_cons,JL];refine⟨by rw[h1];simp,fun p=>?_⟩;rw[h2 p];by_cases hp:p=off+s
  ·subst hp;have c1:¬(off+(s+1)≤off+s∧off+s<off+(s+1)+l.length):=by omega
   have c2:off+s≤off+s∧off+s<off+s+(v::l).length:=by simp
   rw[if_neg c1,if_pos c2,uz,if_pos rfl,if_pos (by omega)];simp
  ·by_cases hc:off+(s+1)≤p∧p<off+(s+1)+l.length
   ·have c2:off+s≤p∧p<off+s+(v::l).length:=by simp only[pE];omega
    rw[if_pos hc,if_pos c2];rw[show p-(off+s)=(p-(off+(s+1)))+1 by omega];simp
   ·have c2:¬(off+s≤p∧p<off+s+(v::l).length):=by simp only[pE];omega
    rw[if_neg hc,if_neg c2,uz];rw[if_neg (by omega)]
theorem Lf (place:Nat→Option (Nat×Nat)):∀(parts:List (Nat×Value)) (cells:Array Value),
 (∀p,p∈parts→∃o,place p.1=some (o,p.2.cells.size)∧o+p.2.cells.size≤cells.size)→
 (∀i j oi si oj sj,i≠j→place i=some (oi,si)→place j=some (oj,sj)→oi+si≤oj∨oj+sj≤oi)→(parts.map (·.1)).Nodup→
 ∃cZ,Instr.fill place cells parts=some cZ∧cZ.size=cells.size∧
  (∀i v o,(i,v)∈parts→place i=some (o,v.cells.size)→∀m,m<v.cells.size→cZ[o+m]?=v.cells[m]?)∧
  (∀i o s,i∉parts.map (·.1)→place i=some (o,s)→∀m,m<s→cZ[o+m]?=cells[o+m]?)
 |[],cells,_,_,_=>⟨cells,rfl,rfl,by simp,fun _ _ _ _ _ _ _=>rfl⟩
 |(i,v)::parts,cells,h,yU,ba=>by
  obtain⟨o,hp,hle⟩:=h (i,v) (dp ..);simp only at hp hle;obtain⟨g1,g2⟩:=UC o v.cells.toList 0 cells (by simp;omega);simp only[gr,l0] at ba
  have hz:v.cells.zipIdx.foldl (fun cs (x:Value×Nat)=>cs.setIfInBounds (o+x.2) x.1) cells=(v.cells.toList.zipIdx 0).foldl (fun cs (x:Value×Nat)=>cs.setIfInBounds (o+x.2) x.1) cells:=by
    rw[←Array.foldl_toList];simp
  generalize Vc:(v.cells.toList.zipIdx 0).foldl (fun cs (x:Value×Nat)=>cs.setIfInBounds (o+x.2) x.1) cells=c1 at g1 g2 hz
  obtain⟨cZ,k1,k2,k3,k4⟩:=Lf place parts c1 (fun p hm=>by
    obtain⟨o',h1,h2⟩:=h p (dk _ hm);exact⟨o',h1,by rw[g1];exact h2⟩) yU ba.2
  refine⟨cZ,?_,k2.trans g1,?_,?_⟩
  ·simp only[Instr.fill,hp];have:¬((v.cells.size≠v.cells.size||decide (o+v.cells.size>cells.size))=true):=by simp;omega
   rw[if_neg this];rw[←k1,←hz]
  ·intro j u o' hm y7 m af;rcases cM.1 hm with e|ei
   ·cases e;rw[hp] at y7;cases y7;rw[k4 i o v.cells.size ba.1 hp m af,g2];rw[if_pos (by simp;omega)];simp
   ·exact k3 j u o' ei y7 m af
  ·intro j o' s' p8 y7 m af;simp only[gr,cM,not_or] at p8;rw[k4 j o' s' p8.2 y7 m af,g2];have:=yU i j o v.cells.size o' s' (fun e=>p8.1 e.symm) hp y7;rw[if_neg (by simp;omega)]
section
variable {C:Ctx} {S:St} {ρ:Env} {σ:Im} {own:Nat→Option Nat} {hv:Nat→Value} {w0:World} {σ0:Base} {A:Nat→Prop} {a:Act} {w:World} {gs:List (Nat×Bool)} {Φ:aK} {dst:Nat}
theorem Rep.flat {cap:Nat→Option CSig}{t:Ty}{v:Value}{d:D}(h:Rep cap σ t v d)(ht:t.rowT=true∨t.one=true):
 t.flat.length=t.size∧d.cells.length=t.size∧∀(m:Nat) (tm:Ty),t.flat[m]?=some tm→tm.one=true∧Rep cap σ tm (v.cells.getD m undef) (d.cells.getD m .none):=by
 cases h with
 |agg ts vs ds h1 h2 h ho=>
  refine⟨rfl,by simp[D.cells,Ty.size,h2],fun m tm hm=>⟨ho m tm hm,?_⟩⟩;have:=h m tm hm;simpa [Value.cells,D.cells,dH,aG] using this
 |tup ts vs ds h1 h2 h=>simp[Ty.rowT,Ty.one] at ht
 |_=>
  refine⟨rfl,rfl,fun m tm hm=>?_⟩
  match m,hm with
  |0,hm=>
   simp only[Ty.flat,JM,aQ] at hm;subst hm;refine⟨rfl,?_⟩;simp only[Value.cells,D.cells,nN];constructor<;>assumption
  |m+1,hm=>simp[Ty.flat] at hm
theorem kQ:∀{l:List Nat},gj l=true→l.Nodup
 |[],_=>List.nodup_nil
 |a::r,h=>by
  simp only[gj,aj,hZ] at h;refine l0.2 ⟨fun hm=>?_,kQ h.2⟩;have:=List.any_eq_false.1 h.1 a hm;simp at this
def Laid (P:Program):List Field→Nat→Prop
 |[],_=>True
 |f::fs,off=>f.offset=off∧∃inf,P.info? f.type=some inf∧Laid P fs (off+inf.size)
theorem Laid.get {P:Program}:∀{fs:List Field} {off:Nat},Laid P fs off→∀(i:Nat) (f:Field),fs[i]?=some f→∃inf,P.info? f.type=some inf∧off≤f.offset∧
 ∀(j:Nat) (g:Field),i<j→fs[j]?=some g→f.offset+inf.size≤g.offset
 |[],_,_,i,f,hi=>by simp at hi
 |f0::fs,off,h,i,f,hi=>by
  obtain⟨h1,inf,h2,h3⟩:=h;cases i with
  |zero=>
   simp at hi;subst hi;refine⟨inf,h2,by omega,fun j g hj hg=>?_⟩;cases j with
   |zero=>omega
   |succ j=>obtain⟨_,_,h4,_⟩:=h3.get j g (by simpa using hg);omega
  |succ i=>
   simp at hi;obtain⟨ajK,k1,k2,k3⟩:=h3.get i f hi;refine⟨ajK,k1,by omega,fun j g hj hg=>?_⟩;cases j with
   |zero=>omega
   |succ j=>exact k3 j g (by omega) (by simpa using hg)
theorem Zb {ft:Ty}{x:Operand}{y:List AgC×PE}(h:rR C S gs ft x=some y):y.1.length=ft.size:=by
 have Lj:∀t:Ty,t.flat.length=t.size:=fun t=>by cases t<;>simp[Ty.flat,Ty.size]
 unfold rR at h;split at h
 ·rename_i a _;cases hs:(Ty.sub a.1 ft&&(a.1.rowT||a.1.one))<;>simp only[hs,cond_true,cond_false] at h
  ·cases h
  cases h;simp only[aj] at hs;rw[ed,Lj,(Ty.sub_one _ _ hs.1).2]
 ·split at h
  ·rename_i j ver _;cases hb:(Nat.beq ver (S.ver j)&&Nb (S.o j)&&Nat.beq ft.size 1)<;>simp only[hb,cond_true,cond_false] at h
   ·cases h
   cases h;simp only[aj] at hb;exact(av hb.2).symm
  ·cases h
theorem Zc (h:Inv C S ρ σ own hv w0 σ0 A a w)(hC:CtxOK C σ0)(hg:holds gs ρ=true){ft:Ty}{x:Operand}{y:List AgC×PE}(hy:rR C S gs ft x=some y):
 (a.eval x).cells.size=ft.size∧(y.2.ev ρ).cells.length=ft.size∧∀(m:Nat) (c:AgC),y.1[m]?=some c→lX C S σ hv c ((a.eval x).cells.getD m undef) ((y.2.ev ρ).cells.getD m .none):=by
 unfold rR at hy;split at hy
 ·rename_i q hq;cases hs:(Ty.sub q.1 ft&&(q.1.rowT||q.1.one))<;>simp only[hs,cond_true,cond_false] at hy
  ·cases hy
  cases hy;simp only[aj,fG] at hs;have hr:=cf h hC hg hq;obtain⟨f1,f2,f3⟩:=hr.flat hs.2;have e:=(Ty.sub_one _ _ hs.1).2;refine⟨by rw[hr.size,e],by rw[f2,e],fun m c hm=>?_⟩;simp only[cg,ax] at hm;obtain⟨t,ht,rfl⟩:=hm;exact f3 m t ht
 ·split at hy
  ·rename_i j ver fw;cases hb:(Nat.beq ver (S.ver j)&&Nb (S.o j)&&Nat.beq ft.size 1)<;>simp only[hb,cond_true,cond_false] at hy
   ·cases hy
   cases hy;simp only[aj] at hb;obtain⟨⟨dJ,bT⟩,yP⟩:=hb;have dm:=av dJ;have aC:=av yP;have dE:aD C S ρ σ hv (eE S gs x) (a.eval x) ((pq x).ev ρ):=by
        cases x with
        |tmp t=>exact(lP h hg t).1
        |_=>cases fw
   rw[fw] at dE;have aO:=dE.2 dm;have aU:=h.objs j;have hc:(a.eval x).cells=#[a.eval x]:=by
        rw[aO];cases ho:S.o j with
        |row T e=>
         rw[ho] at aU;obtain⟨cells,xs,_,h2,_⟩:=aU;rcases h2.2 with⟨e1,_⟩|⟨g,cap,cur,e1,_⟩<;>rw[e1]<;>rfl
        |_=>rw[ho] at bT;cases bT
   refine⟨by rw[hc,aC];rfl,by rw[aC];rfl,fun m c hm=>?_⟩;cases m with
   |zero=>
    simp at hm;subst hm;rw[hc];exact dE
   |succ m=>simp at hm
  ·cases hy
theorem adq {zs:List Value}{parts:List (Nat×Operand)}:∀(fs:List Field) (i off:Nat) (r:List AgC×List PE),ka C S gs zs parts fs i off=some r→Laid C.P fs off:=by
 intro fs
 induction fs with
 |nil=>intro i off r _;trivial
 |cons f fs ih=>
  intro i off r h;simp only[ka] at h;split at h
  case h_2=>cases h
  rename_i inf ft hi ht;cases hc:(Nat.beq f.offset off&&Nat.beq inf.size ft.size)<;>simp only[hc,cond_true,cond_false] at h
  ·cases h
  simp only[aj] at hc;simp only[aq] at h;obtain⟨q,hq,_⟩:=h;exact⟨av hc.1,inf,hi,ih _ _ _ hq⟩
theorem TC {zs:List Value}{parts:List (Nat×Operand)}:∀(fs:List Field) (i off:Nat) (r:List AgC×List PE),ka C S gs zs parts fs i off=some r→off≤zs.length:=by
 intro fs
 induction fs with
 |nil=>intro i off r h;simp only[ka] at h;cases hb:Nat.beq off zs.length<;>simp[hb] at h;exact Nat.le_of_eq (av hb)
 |cons f fs ih=>
  intro i off r h;simp only[ka] at h;split at h
  case h_2=>cases h
  rename_i inf ft hi ht;cases hc:(Nat.beq f.offset off&&Nat.beq inf.size ft.size)<;>simp only[hc,cond_true,cond_false] at h
  ·cases h
  simp only[aq] at h;obtain⟨q,hq,_⟩:=h;have:=ih _ _ _ hq;omega
theorem adp {zs:List Value}{parts:List (Nat×Operand)}:∀(fs:List Field) (i off:Nat) (r:List AgC×List PE),ka C S gs zs parts fs i off=some r→
 ∃ft:List AgC×List PE,r=ft∧(∀(m:Nat) (f:Field) (inf:TypeInfo),fs[m]?=some f→C.P.info? f.type=some inf→f.offset+inf.size≤zs.length)∧(∀(m:Nat) (x:Nat×Operand) (f:Field) (inf:TypeInfo),fs[m]?=some f→C.P.info? f.type=some inf→parts.find? (fun p=>Nat.beq p.1 (i+m))=some x→∃y ft,rR C S gs ft x.2=some y∧ft.size=inf.size)∧off+r.1.length=zs.length:=by
 intro fs
 induction fs with
 |nil=>intro i off r h;simp only[ka] at h;cases hb:Nat.beq off zs.length<;>simp[hb] at h;subst h;exact⟨_,rfl,by simp,by simp,by simpa using av hb⟩
 |cons f fs ih=>
  intro i off r h;simp only[ka] at h;split at h
  case h_2=>cases h
  rename_i inf ft hi ht;cases hc:(Nat.beq f.offset off&&Nat.beq inf.size ft.size)<;>simp only[hc,cond_true,cond_false] at h
  ·cases h
  simp only[aj] at hc;have jb:=av hc.1;have aC:=av hc.2;simp only[aq] at h;obtain⟨q,hq,h⟩:=h;have hle:=TC _ _ _ _ hq;obtain⟨_,rfl,k1,k2,k3⟩:=ih _ _ _ hq;have e1:∀(m:Nat) (g:Field) (ig:TypeInfo),(f::fs)[m]?=some g→C.P.info? g.type=some ig→g.offset+ig.size≤zs.length:=by
   intro m g ig hm fM;cases m with
   |zero=>simp at hm;subst hm;rw[hi] at fM;cases fM;omega
   |succ m=>exact k1 m g ig (by simpa using hm) fM
  have Lj:∀t:Ty,t.flat.length=t.size:=fun t=>by cases t<;>simp[Ty.flat,Ty.size]
  split at h
  ·rename_i x hx;simp only[ax] at h;obtain⟨y,hy,rfl⟩:=h;refine⟨_,rfl,e1,fun m x' g ig hm fM hf=>?_,?_⟩
   ·cases m with
    |zero=>
     simp at hm;subst hm;rw[hi] at fM;cases fM;simp only[ib] at hf;rw[hx] at hf;cases hf;exact⟨y,ft,hy,aC.symm⟩
    |succ m=>exact k2 m x' g ig (by simpa using hm) fM (by rwa [show i+(m+1)=i+1+m by omega] at hf)
   ·have:=Zb hy;simp only[kF];omega
  ·rename_i hx;cases lD:jm ft (rowOf ft.rowT ((zs.drop off).take inf.size))<;>simp only[lD,cond_true,cond_false] at h
   ·cases h
   simp only[ax] at h;obtain⟨z,hz,rfl⟩:=h;have cH:=(w8 (cap:=C.cap) (σ:=⟨fun _ _=>none,fun _=>none⟩) hz lD).2.1;refine⟨_,rfl,e1,fun m x' g ig hm fM hf=>?_,?_⟩
   ·cases m with
    |zero=>simp only[ib] at hf;rw[hx] at hf;cases hf
    |succ m=>exact k2 m x' g ig (by simpa using hm) fM (by rwa [show i+(m+1)=i+1+m by omega] at hf)
   ·have:=(Ty.sub_one _ _ cH).2;simp only[kF,ed,Lj];omega
theorem adr (h:Inv C S ρ σ own hv w0 σ0 A a w)(hC:CtxOK C σ0)(hg:holds gs ρ=true){zs:List Value}{parts:List (Nat×Operand)}(cells:Array Value):
 ∀(fs:List Field) (i off:Nat) (r:List AgC×List PE),ka C S gs zs parts fs i off=some r→
  (∀(m:Nat) (f:Field) (inf:TypeInfo),fs[m]?=some f→C.P.info? f.type=some inf→
        (∀x,parts.find? (fun p=>Nat.beq p.1 (i+m))=some x→∀q,q<inf.size→cells[f.offset+q]?=(a.eval x.2).cells[q]?)∧
        (parts.find? (fun p=>Nat.beq p.1 (i+m))=none→∀q,q<inf.size→cells[f.offset+q]?=zs[f.offset+q]?))→
  (PE.evc ρ r.2).length=r.1.length∧∀(m:Nat) (c:AgC),r.1[m]?=some c→lX C S σ hv c (cells.getD (off+m) undef) ((PE.evc ρ r.2).getD m .none):=by
 intro fs
 induction fs with
 |nil=>intro i off r hr _;simp only[ka] at hr;cases hb:Nat.beq off zs.length<;>simp[hb] at hr;subst hr;simp[PE.evc]
 |cons f fs ih=>
  intro i off r hr aN;simp only[ka] at hr;split at hr
  case h_2=>cases hr
  rename_i inf ft hi ht;cases hc:(Nat.beq f.offset off&&Nat.beq inf.size ft.size)<;>simp only[hc,cond_true,cond_false] at hr
  ·cases hr
  simp only[aj] at hc;have jb:=av hc.1;have aC:=av hc.2;simp only[aq] at hr;obtain⟨q,hq,hr⟩:=hr
  obtain⟨l1,tA⟩:=ih (i+1) (off+inf.size) q hq (fun m g ajL hm fM=>by
   have:=aN (m+1) g ajL (by simpa using hm) fM
   rwa [show i+(m+1)=i+1+m by omega] at this)
  obtain⟨hp,hn⟩:=aN 0 f inf rfl hi;have join:∀(l:List AgC) (v:Value) (d:D) (pe:PE),pe.ev ρ=d→l.length=inf.size→d.cells.length=inf.size→(∀m c,l[m]?=some c→lX C S σ hv c (v.cells.getD m undef) (d.cells.getD m .none))→(∀m,m<inf.size→cells[f.offset+m]?=v.cells[m]?)→
        (PE.evc ρ (pe::q.2)).length=(l++q.1).length∧∀(m:Nat) (c:AgC),(l++q.1)[m]?=some c→lX C S σ hv c (cells.getD (off+m) undef) ((PE.evc ρ (pe::q.2)).getD m .none):=by
   intro l v d pe tu f1 f2 f3 aV;simp only[PE.evc,tu];refine⟨by simp[f1,f2,l1],fun m t' hm=>?_⟩;rw[ld] at hm;split at hm
   ·rename_i af;have g2:=f3 m t' hm;have e1:cells.getD (off+m) undef=v.cells.getD m undef:=by
     rw[dH,dH,←jb,aV m (by omega)]
    have e2:(d.cells++PE.evc ρ q.2).getD m .none=d.cells.getD m .none:=by
     rw[aG,aG,jF (by omega)]
    rw[e1,e2];exact g2
   ·rename_i eY;have g2:=tA _ t' hm;have e1:off+inf.size+(m-l.length)=off+m:=by omega
    have e2:(d.cells++PE.evc ρ q.2).getD m .none=(PE.evc ρ q.2).getD (m-l.length) .none:=by
     rw[aG,aG,kE (by omega)];rw[f1,←f2]
    rw[e1] at g2;rw[e2];exact g2
  simp only[ib] at hp hn;split at hr
  ·rename_i x hx;simp only[ax] at hr;obtain⟨y,hy,rfl⟩:=hr;obtain⟨g1,g2,g3⟩:=Zc h hC hg hy;exact join y.1 (a.eval x.2) (y.2.ev ρ) y.2 rfl (by rw[Zb hy,aC]) (by rw[g2,aC]) g3 (hp x hx)
  ·rename_i hx;cases lD:jm ft (rowOf ft.rowT ((zs.drop off).take inf.size))<;>simp only[lD,cond_true,cond_false] at hr
   ·cases hr
   simp only[ax] at hr;obtain⟨z,hz,rfl⟩:=hr;obtain⟨k1,k2,k3⟩:=w8 (cap:=C.cap) (σ:=σ) hz lD;have Hc:(rowOf ft.rowT ((zs.drop off).take inf.size)).cells.size=inf.size:=by rw[k1.size,(Ty.sub_one _ _ k2).2,aC]
   have gS:z.1.rowT=true∨z.1.one=true:=by
        cases ft<;>simp[nK,pz] at hz<;>first|(subst hz;simp[Ty.one])|(obtain⟨_,_,rfl⟩:=hz;simp[Ty.rowT])
   obtain⟨z1,z2,z3⟩:=k1.flat gS;have ez:z.1.size=inf.size:=by rw[(Ty.sub_one _ _ k2).2,aC]
   refine join (z.1.flat.map .dat) (rowOf ft.rowT ((zs.drop off).take inf.size)) z.2 (.con z.2) rfl (by rw[ed,z1,ez]) (by rw[z2,ez]) (fun m c hm=>?_) (fun m hm=>?_)
   ·simp only[cg,ax] at hm;obtain⟨t,ht,rfl⟩:=hm;exact z3 m t ht
   ·rw[hn hx m hm,jb];cases tB:ft.rowT with
    |true=>simp[rowOf,Value.cells,fl,fJ,hm]
    |false=>
     rw[tB] at Hc k1;have h1:(z.1).rowT=false:=by
       have:=(Ty.sub_one _ _ k2)
       cases ft<;>simp[Ty.rowT] at tB<;>simp[nK,pz] at hz<;>subst hz<;>rfl
     rw[k1.cells1 h1] at Hc ⊢;simp at Hc;have hm0:m=0:=by omega
     subst hm0;have:∃u,zs[off]?=some u:=⟨_,bq (show off<zs.length by have:=TC _ _ _ _ hq;omega)⟩
     simp[rowOf,aG,fl,fJ,←Hc];obtain⟨u,hu⟩:=this;simp[hu]
theorem WJ {P:Program}:∀(fs:List Field) (off:Nat),Laid P fs off→
 ∃l:List (Nat×Nat),fs.mapM (fun f=>(P.info? f.type).map fun i=>(f.offset,i.size))=some l∧l.length=fs.length∧
  ∀(i:Nat) (f:Field) (inf:TypeInfo),fs[i]?=some f→P.info? f.type=some inf→l[i]?=some (f.offset,inf.size)
 |[],_,_=>⟨[],rfl,rfl,by simp⟩
 |f::fs,off,h=>by
  obtain⟨h1,inf,h2,h3⟩:=h;obtain⟨l,k1,k2,k3⟩:=WJ fs _ h3;refine⟨(f.offset,inf.size)::l,?_,by simp[k2],fun i g ig hi fM=>?_⟩
  ·simp[SR,h2,k1]
  ·cases i with
   |zero=>simp at hi;subst hi;rw[h2] at fM;cases fM;rfl
   |succ i=>simp at hi;simpa using k3 i g ig hi fM
theorem Ur {parts:List (Nat×Operand)}(ba:(parts.map (·.1)).Nodup){i:Nat}{x:Operand}(h:(i,x)∈parts):parts.find? (fun p=>Nat.beq p.1 i)=some (i,x):=by
 induction parts with
 |nil=>cases h
 |cons p ps ih=>
  simp only[gr,l0] at ba;rcases cM.1 h with e|hm
  ·subst e;simp
  ·have:¬p.1=i:=fun e=>ba.1 (e▸List.mem_map_of_mem (f:=(·.1)) hm);rw[List.find?_cons_of_neg (by simpa using this)];exact ih ba.2 hm
theorem alI (h:Inv C S ρ σ own hv w0 σ0 A a w)(hC:CtxOK C σ0)(hg:holds gs ρ=true){T:TypeId}{ps:Array (Nat×Operand)}{r:Sh×List PI}(hr:zx C S gs dst T ps.toList=some r){o:Oper}(ho:o.op=.build T ps):
 dW C S ρ σ hv Φ dst a w o r:=by
 unfold zx at hr;split at hr
 case h_3=>cases hr
 case h_2=>
  rename_i n e inf hT m6;split at hr
  case h_2=>cases hr
  rename_i zs ie hz hie;split at hr
  case h_2=>cases hr
  rename_i x y rE;simp only[aq] at hr;obtain⟨p,hp,q,hq,hr⟩:=hr;split at hr
  case h_2=>cases hr
  rename_i k k' hk bm;cases hc:(Nat.beq n 2&&Nat.beq zs.size 2&&Nat.beq ie.size 1)<;>simp only[hc,cond_true,cond_false] at hr
  ·cases hr
  cases hr;simp only[aj] at hc;obtain⟨⟨c1,c2⟩,c3⟩:=hc;have c1:=av c1;have c2:=av c2;have c3:=av c3;subst c1;have hx:=cf h hC hg hp;have hy:=cf h hC hg hq;rw[hk] at hx;rw[bm] at hy;obtain⟨a1,K6,ea2,_⟩:=hx.int_inv;obtain⟨b1,K7,eb2,_⟩:=hy.int_inv;have aiO:ps=#[(0,x),(1,y)]:=by rw[←sB];exact rE
  obtain⟨z0,z1,rfl⟩:∃z0 z1,zs=#[z0,z1]:=by
   match zs,c2 with
   |⟨[z0,z1]⟩,_=>exact⟨z0,z1,rfl⟩
  have LI:C.P.built T [(0,a.eval x),(1,a.eval y)]=some #[a.eval x,a.eval y]:=by
   rw[K6,K7];simp only[Program.built,m6,hT,hz,hie,c3];simp[Instr.fill,Value.cells]
  have ah:(execOp a.eval o).run C.P w=.ok (.value (.agg #[a.eval x,a.eval y])) w:=by
   have:=run_build (P:=C.P) w T (ps.map fun(x:Nat×Operand)=>(x.1,a.eval x.2)) #[a.eval x,a.eval y] (by rw[aiO];simpa using LI);simp[execOp,ho,this]
  refine .dat ah ?_;have e1:(PE.mk [p.2,q.2]).ev ρ=.agg [p.2.ev ρ,q.2.ev ρ]:=by simp[PE.ev,PE.evc,ea2,eb2,D.cells]
  rw[e1];refine .agg _ [a.eval x,a.eval y] _ rfl rfl (fun i t hi=>?_) (fun i t hi=>?_)
  ·match i,hi with
   |0,hi=>simp at hi;subst hi;rw[hk];simpa using hx
   |1,hi=>simp at hi;subst hi;rw[bm];simpa using hy
   |i+2,hi=>simp at hi
  ·match i,hi with
   |0,hi=>simp at hi;subst hi;rw[hk];rfl
   |1,hi=>simp at hi;subst hi;rw[bm];rfl
   |i+2,hi=>simp at hi
 rename_i fs inf hT m6;split at hr
 case h_2=>cases hr
 rename_i zs hz;cases hc:(gj (ps.toList.map (·.1))&&ps.toList.all (fun p=>Nat.blt p.1 fs.size))<;>simp only[hc,cond_true,cond_false] at hr
 ·cases hr
 simp only[aj] at hc;obtain⟨ba,af⟩:=hc;simp only[ax] at hr;obtain⟨q,hq,rfl⟩:=hr;have Ha:=adq _ _ _ _ hq;have jv:=kQ ba;obtain⟨_,rfl,br,ajt,LR⟩:=adp _ _ _ _ hq;obtain⟨pl,fa,avj,CI⟩:=WJ _ _ Ha
 have jy:∀p,p∈(ps.toList.map fun(x:Nat×Operand)=>(x.1,a.eval x.2))→∃o,pl.toArray[p.1]?=some (o,p.2.cells.size)∧o+p.2.cells.size≤zs.size:=by
  intro p hp;obtain⟨x,hx,rfl⟩:=dP.1 hp;have vN:x.1<fs.toList.length:=by
   have:=bz.1 af x hx;have h2:x.1<fs.size:=by simpa [ic] using this
   simpa using h2
  obtain⟨f,hf⟩:∃f,fs.toList[x.1]?=some f:=⟨_,bq vN⟩
  obtain⟨ig,fM,_,_⟩:=Ha.get _ _ hf;have th:=Ur jv (i:=x.1) (x:=x.2) hx;obtain⟨y,ft,hy,aC⟩:=ajt x.1 (x.1,x.2) f ig hf fM (by simpa using th);have tC:=(Zc h hC hg hy).1;rw[aC] at tC;simp only;refine⟨f.offset,?_,?_⟩
  ·rw[tC];simpa using CI x.1 f ig hf fM
  ·rw[tC];simpa using br x.1 f ig hf fM
 have yU:∀(i j oi si oj sj:Nat),i≠j→pl.toArray[i]?=some (oi,si)→pl.toArray[j]?=some (oj,sj)→oi+si≤oj∨oj+sj≤oi:=by
  intro i j oi si oj sj ay hi hj;simp only[EW] at hi hj;obtain⟨f,hf⟩:∃f,fs.toList[i]?=some f:=⟨_,bq (by have:=(eT.1 hi).1;omega)⟩
  obtain⟨g,yZ⟩:∃g,fs.toList[j]?=some g:=⟨_,bq (by have:=(eT.1 hj).1;omega)⟩
  obtain⟨ig,fM,_,aid⟩:=Ha.get _ _ hf;obtain⟨jg,hjg,_,aie⟩:=Ha.get _ _ yZ;rw[CI i f ig hf fM] at hi;rw[CI j g jg yZ hjg] at hj;cases hi;cases hj;rcases JT i j with af|eY
  ·exact .inl (aid j g af yZ)
  ·exact .inr (aie i f (by omega) hf)
 obtain⟨cZ,f1,f2,f3,f4⟩:=Lf (pl.toArray[·]?) (ps.toList.map fun(x:Nat×Operand)=>(x.1,a.eval x.2)) zs jy yU (by simpa [ET] using jv)
 have LI:C.P.built T (ps.toList.map fun(x:Nat×Operand)=>(x.1,a.eval x.2))=some cZ:=by
  simp only[Program.built,m6,hT,hz,fa];exact f1
 have ah:(execOp a.eval o).run C.P w=.ok (.value (.agg cZ)) w:=by
  have:=run_build (P:=C.P) w T (ps.map fun(x:Nat×Operand)=>(x.1,a.eval x.2)) cZ (by rw[uA];exact LI);simp[execOp,ho,this]
 have vm:∀(m:Nat) (f:Field) (ig:TypeInfo),fs.toList[m]?=some f→C.P.info? f.type=some ig→
  (∀x,ps.toList.find? (fun p=>Nat.beq p.1 (0+m))=some x→∀q,q<ig.size→cZ[f.offset+q]?=(a.eval x.2).cells[q]?)∧
  (ps.toList.find? (fun p=>Nat.beq p.1 (0+m))=none→∀q,q<ig.size→cZ[f.offset+q]?=zs.toList[f.offset+q]?):=by
  intro m f ig hm fM;refine⟨fun x hx p hp=>?_,fun hx p hp=>?_⟩
  ·have nk:x.1=m:=by have:=JJ hx;simpa using this
   have zf:(x.1,a.eval x.2)∈(ps.toList.map fun(x:Nat×Operand)=>(x.1,a.eval x.2)):=dP.2 ⟨x,uG hx,rfl⟩;obtain⟨o',dQ,hle⟩:=jy _ zf;simp only at dQ hle;have VV:=CI m f ig hm fM;simp only[EW,nk] at dQ;rw[VV] at dQ;simp only[aQ,mR] at dQ;obtain⟨e1,e2⟩:=dQ;exact f3 x.1 (a.eval x.2) f.offset zf (by simp[nk,VV,←e2]) p (by omega)
  ·have p8:m∉(ps.toList.map fun(x:Nat×Operand)=>(x.1,a.eval x.2)).map (·.1):=by
        intro cV;simp only[EX,dP,ET] at cV;obtain⟨x,zf,e⟩:=cV;have:=xj.1 hx x zf;simp[e] at this
   rw[f4 m f.offset ig.size p8 (by simpa using CI m f ig hm fM) p hp];simp
 obtain⟨l1,aN⟩:=adr h hC hg cZ _ _ _ _ hq vm;have yQ:cZ=cZ.toList.toArray:=by simp
 have hlen:cZ.toList.length=q.1.length:=by simp[f2] at LR ⊢;omega
 have iw:∀(i:Nat) (c:AgC),q.1[i]?=some c→lX C S σ hv c (cZ.toList.getD i undef) ((PE.evc ρ q.2).getD i .none):=fun i c hi=>by
  have:=aN i c hi;simpa [dH,aG] using this
 cases LL:q.1.all Wu
 ·simp only[cond_false];exact fun ρ' ni=>⟨_,_,sq ni,ah,⟨cZ.toList,PE.evc ρ q.2,by rw[←yQ],by simp only[PE.ev],hlen,l1,iw⟩,fun _ _ e=>by cases e⟩
 ·simp only[cond_true];refine .dat ah ?_;simp only[PE.ev];rw[yQ]
  have oB:∀(i:Nat) (t:Ty),(q.1.map AgC.ty)[i]?=some t→t.one=true∧Rep C.cap σ t (cZ.toList.getD i undef) ((PE.evc ρ q.2).getD i .none):=fun i t hi=>by
   simp only[cg,ax] at hi;obtain⟨c,hc,rfl⟩:=hi;have h1:=iw i c hc;have h2:=bz.1 LL c (jn hc);cases c with
   |dat t=>exact h1
   |obj j ver=>cases h2
  exact .agg _ _ _ (by rw[ed];exact hlen) (by rw[ed];exact l1) (fun i t hi=>(oB i t hi).2) (fun i t hi=>(oB i t hi).1)
end
end Cx
