/-
  Shared texts of this claim.
-/
import Derived.Test.YtbagcfebdgiihaaGreatDoorTAA
import Derived.ChangeKeysEq
import Derived.Laws.Tables
set_option linter.unusedSimpArgs false
set_option linter.unusedVariables false
namespace Cx
open Go Go.RowKit
theorem Rep.int_inv {cap:Nat→Option CSig}{σ:Im}{k:IntKind}{v:Value}{d:D}(h:Rep cap σ (.int k) v d):∃n,v=.int k n∧d=.v (.int k n)∧k.min≤n∧n≤k.max:=by
 cases h with
 |int k n h1 h2=>exact⟨n,rfl,rfl,h1,h2⟩
theorem Rep.bool_inv {cap:Nat→Option CSig}{σ:Im}{v:Value}{d:D}(h:Rep cap σ .bool v d):∃b,v=.bool b∧d=.v (.bool b):=by
 cases h with
 |bool b=>exact⟨b,rfl,rfl⟩
theorem Rep.str_inv {cap:Nat→Option CSig}{σ:Im}{v:Value}{d:D}(h:Rep cap σ .str v d):∃s,v=.string s∧d=.v (.string s)∧s.size≤maxLen:=by
 cases h with
 |str s h=>exact⟨s,rfl,rfl,h⟩
theorem Rep.slice_inv {cap:Nat→Option CSig}{σ:Im}{e:Ty}{v:Value}{d:D}(h:Rep cap σ (.slice e) v d):∃xs,d=.list xs∧
 (((∃p,v=.slice p 0 0)∧xs=[])∨∃k o c,v=.slice (some ⟨k,o,none⟩) xs.length c∧xs.length≤c∧c≤maxLen∧
   ∃vs:Nat→Value,(∀(i:Nat) (x:D),xs[i]?=some x→Rep cap σ e.unf (vs i) x)∧∀(i j:Nat) (u:Value),i<xs.length→(vs i).cells[j]?=some u→σ.c k (o+i*e.size+j)=some u):=by
 cases h with
 |nil e=>exact⟨[],rfl,.inl ⟨⟨_,rfl⟩,rfl⟩⟩
 |emp e a=>exact⟨[],rfl,.inl ⟨⟨_,rfl⟩,rfl⟩⟩
 |slice e k o n c xs vs hn hc hm h hv=>subst hn;exact⟨xs,rfl,.inr ⟨k,o,c,rfl,hc,hm,vs,h,hv⟩⟩
theorem Rep.ref_inv {cap:Nat→Option CSig}{σ:Im}{t:Ty}{v:Value}{d:D}(h:Rep cap σ (.ref t) v d):∃k o x y,v=.pointer (some ⟨k,o,none⟩)∧d=.ref y∧Rep cap σ t x y∧∀(j:Nat) (u:Value),x.cells[j]?=some u→σ.c k (o+j)=some u:=by
 cases h with
 |ref t k o x y h hv=>exact⟨k,o,x,y,rfl,rfl,h,hv⟩
theorem Rep.agg_inv {cap:Nat→Option CSig}{σ:Im}{ts:List Ty}{v:Value}{d:D}(h:Rep cap σ (.agg ts) v d):∃(vs:List Value) (ds:List D),v=.agg vs.toArray∧d=.agg ds∧vs.length=ts.length∧ds.length=ts.length∧
 (∀(i:Nat) (t:Ty),ts[i]?=some t→Rep cap σ t (vs.getD i undef) (ds.getD i .none))∧∀(i:Nat) (t:Ty),ts[i]?=some t→t.one=true:=by
 cases h with
 |agg ts vs ds h1 h2 h ho=>exact⟨vs,ds,rfl,rfl,h1,h2,h,ho⟩
theorem Rep.tup_inv {cap:Nat→Option CSig}{σ:Im}{ts:List Ty}{v:Value}{d:D}(h:Rep cap σ (.tup ts) v d):∃(vs:List Value) (ds:List D),v=.tuple vs.toArray∧d=.tup ds∧vs.length=ts.length∧ds.length=ts.length∧
 (∀(i:Nat) (t:Ty),ts[i]?=some t→Rep cap σ t (vs.getD i undef) (ds.getD i .none)):=by
 cases h with
 |tup ts vs ds h1 h2 h=>exact⟨vs,ds,rfl,rfl,h1,h2,h⟩
theorem pD (k:IntKind)(n:Int):k.min≤k.wrap n∧k.wrap n≤k.max:=by
 cases k<;>simp only[IntKind.min,IntKind.max,IntKind.wrap,IntKind.signed,IntKind.bits]<;>simp<;>(try split)<;>omega
theorem aa9 (k:IntKind){a b:Int}(ha:k.min≤a∧a≤k.max):k.min≤a.tmod b∧a.tmod b≤k.max:=by
 have h1:k.min≤0:=by cases k<;>decide
 have h2:0≤k.max:=by cases k<;>decide
 have hn:(a.tmod b).natAbs≤a.natAbs:=by rw[Int.natAbs_tmod];exact Nat.mod_le _ _
 rcases Int.le_total 0 a with h|h
 ·have:=Int.tmod_nonneg b h;omega
 ·have:a.tmod b≤0:=by
   have:=Int.tmod_nonneg b (a:=-a) (by omega);rw[Int.neg_tmod] at this;omega
  omega
theorem Uv (k:IntKind){a:Int}(n:Nat)(ha:k.min≤a∧a≤k.max):k.min≤a.fdiv (2^n)∧a.fdiv (2^n)≤k.max:=by
 have h1:k.min≤0:=by cases k<;>decide
 have h2:0≤k.max:=by cases k<;>decide
 have hp:(0:Int)<2^n:=Int.pow_pos (by decide);rw[abD _ (by omega)];rcases Int.le_total 0 a with h|h
 ·have h3:=Int.ediv_nonneg h (by omega:(0:Int)≤2^n);have h4:=Int.ediv_le_self (b:=2^n) h;omega
 ·have h3:a/2^n≤0:=by
   have:=Int.ediv_le_ediv hp h;simpa using this
  have h4:a≤a/2^n:=by
   rw[Int.le_ediv_iff_mul_le hp];have:a*2^n≤a*1:=Int.mul_le_mul_of_nonpos_left h (by omega);omega
  omega
section
variable {C:Ctx} {S:St} {ρ:Env} {σ:Im} {own:Nat→Option Nat} {hv:Nat→Value} {w0:World} {σ0:Base} {A:Nat→Prop} {a:Act} {w:World} {gs:List (Nat×Bool)} {Φ:aJ} {dst:Nat}
theorem vF {e:PE}{ρ':Env}(h:PI.runs Φ [.setR dst e] ρ=some ρ'):ρ'=ρ.setR dst (e.ev ρ):=by
 simp[PI.runs,PI.run] at h;exact h.symm
theorem P4 (hg:holds gs ρ=true){c e:PE}{ρ':Env}(h:PI.runs Φ [oh gs c,.setR dst e] ρ=some ρ'):(c.ev ρ).b=true∧ρ'=ρ.setR dst (e.ev ρ):=by
 simp only[PI.runs,PI.run,oh] at h;cases dy:gs with
 |nil=>
  subst dy;simp only at h;cases hb:(c.ev ρ).b<;>simp[hb] at h;exact⟨rfl,h.symm⟩
 |cons g r=>
  rw[dy] at h;simp only at h;rw[dy] at hg;cases hb:(c.ev ρ).b
  ·simp[PE.ev,hg,hb,D.b_bool] at h
  ·simp[PE.ev,hg,hb,D.b_bool] at h;exact⟨rfl,h.symm⟩
def dF (C:Ctx)(S:St)(ρ:Env)(σ:Im)(hv:Nat→Value)(Φ:aJ)(dst:Nat)(a:Act)(w:World)(o:Oper)(r:Sh×List PI):Prop:=
 ∀ρ',PI.runs Φ r.2 ρ=some ρ'→∃v d,ρ'=ρ.setR dst d∧(execOp a.eval o).run C.P w=.ok (.value v) w∧aF C S ρ σ hv r.1 v d∧∀gs s,r.1≠.opt gs s
theorem dF.dat {o:Oper}{t:Ty}{e:PE}{v:Value}(hx:(execOp a.eval o).run C.P w=.ok (.value v) w)(hr:Rep C.cap σ t v (e.ev ρ)):
 dF C S ρ σ hv Φ dst a w o (.dat t,[.setR dst e]):=by
 intro ρ' h;exact⟨v,e.ev ρ,vF h,hx,hr,fun _ _ e=>by cases e⟩
theorem dF.datc (hg:holds gs ρ=true){o:Oper}{t:Ty}{c e:PE}(hx:(c.ev ρ).b=true→∃v,(execOp a.eval o).run C.P w=.ok (.value v) w∧Rep C.cap σ t v (e.ev ρ)):
 dF C S ρ σ hv Φ dst a w o (.dat t,[oh gs c,.setR dst e]):=by
 intro ρ' h;obtain⟨hb,he⟩:=P4 hg h;obtain⟨v,h1,h2⟩:=hx hb;exact⟨v,e.ev ρ,he,h1,h2,fun _ _ e=>by cases e⟩
theorem Za (h:Inv C S ρ σ own hv w0 σ0 A a w)(hC:CtxOK C σ0)(hg:holds gs ρ=true){x:Operand}{r:Sh×List PI}(hr:vc C S gs dst x=some r){o:Oper}(ho:o.op=.move x∨o.op=.assign x):
 dF C S ρ σ hv Φ dst a w o r:=by
 have hx:(execOp a.eval o).run C.P w=.ok (.value (a.eval x)) w:=by rcases ho with ho|ho<;>simp[execOp,ho,Sem.run,pure]
 unfold vc at hr;split at hr
 ·rename_i y hy;cases hr;exact .dat hx (bW h hC hg hy)
 ·split at hr
  ·rename_i t _;obtain⟨hs,hn⟩:=mC h hg t;split at hr
   ·cases hr
   ·cases hr
   ·cases hr;intro ρ' h';exact⟨_,_,vF h',hx,hs,hn⟩
  ·cases hr
theorem amT (h:Inv C S ρ σ own hv w0 σ0 A a w)(hC:CtxOK C σ0)(hg:holds gs ρ=true){c x y:Operand}{r:Sh×List PI}(hr:Om C S gs dst c x y=some r){o:Oper}(ho:o.op=.pick c x y):
 dF C S ρ σ hv Φ dst a w o r:=by
 unfold Om at hr;split at hr
 ·rename_i t;split at hr
  ·rename_i es;obtain⟨hs,_⟩:=mC h hg t;rw[es] at hs;obtain⟨b,aQ,bh⟩:=Rep.bool_inv hs;simp only[au] at hr;obtain⟨q1,h1,q2,h2,hr⟩:=hr;cases hb:Ty.beq q1.1 q2.1<;>simp only[hb,cond_true,cond_false] at hr
   ·cases hr
   ·cases hr;have e2:=Ty.beq_eq _ _ hb;have aj:(execOp a.eval o).run C.P w=.ok (.value (if b then a.eval x else a.eval y)) w:=by
     have:a.eval (.tmp t)=.bool b:=aQ;simp[execOp,ho,this,asBool,Sem.run,pure,bind,Sem.bind]
    refine .dat aj ?_;show Rep C.cap σ q1.1 _ (bif (ρ.r t).b then q1.2.ev ρ else q2.2.ev ρ);have ec:(ρ.r t).b=b:=by rw[bh];rfl
    cases b with
    |true=>
     simp only[ec,cond_true,if_true];exact bW h hC (by simp only[holds,nS,ec];exact hg) h1
    |false=>
     simp only[ec,cond_false];rw[e2];exact bW h hC (by simp only[holds,nS,ec];exact hg) h2
  ·cases hr
 ·cases hr
theorem IL {op:BinOp}{T T':TypeId}{x y:Operand}{v v':Value}{o:Oper}(ho:o.op=.binOp op T x y T')(hv:a.eval x=v)(hv':a.eval y=v')(h1:∀u,v≠.agg u)(h2:v≠.nilIface):
 (execOp a.eval o).run C.P w=((binOp op T v v').bind fun r=>.pure (.value r)).run C.P w:=by
 have he:eqGuard op T x y v v'=.pure ():=by
  cases v<;>first|(exact absurd rfl h2)|(exact absurd rfl (h1 _))|(cases op<;>simp[eqGuard]<;>rfl)
 simp only[execOp,ho,hv,hv',he];rfl
theorem aeU {P:Program}{cap:Nat→Option CSig}{σ:Im}{ρ:Env}{x y:PE}{X Y:List D}(w:World)(hx:x.ev ρ=.agg X)(hy:y.ev ρ=.agg Y){vs us:List Value}(d:Nat):
 ∀(fs:List Field) (i:Nat) (ts:List Ty) (e:PE),tV P x y fs i ts=some e→(∀j t,ts[j]?=some t→Rep cap σ t (vs.getD (i+j) undef) (X.getD (i+j) .none)∧Rep cap σ t (us.getD (i+j) undef) (Y.getD (i+j) .none))→
  i+ts.length≤vs.length→i+ts.length≤us.length→
  ∃b,e.ev ρ=.v (.bool b)∧(Op.eqFields (d+1) vs.toArray us.toArray fs).run P w=.ok b w:=by
 intro fs
 induction fs with
 |nil=>
  intro i ts e h _ _ _;cases ts with
  |nil=>simp only[tV,aS] at h;subst h;exact⟨true,rfl,rfl⟩
  |cons t ts=>simp[tV] at h
 |cons f fs ih=>
  intro i ts e h hr l1 l2;cases ts with
  |nil=>simp[tV] at h
  |cons t ts=>
   simp only[tV] at h;cases hc:((f.name != "_")&&Nat.beq f.offset i&&nu P f.type t&&P.plainKey f.type)<;>simp only[hc,cond_true,cond_false] at h
   ·cases h
   simp only[aq,bne_iff_ne,ne_eq] at hc;obtain⟨⟨⟨hn,ho⟩,hk⟩,hp⟩:=hc;have ho:=aw ho;simp only[au,ax] at h;obtain⟨e1,lh,r,oL,rfl⟩:=h
   obtain⟨b2,fc,aiQ⟩:=ih (i+1) ts r oL (fun j t hj=>by
        have:=hr (j+1) t (by simpa using hj)
        rwa [show i+(j+1)=i+1+j by omega] at this) (by simp at l1;omega) (by simp at l2;omega)
   obtain⟨g1,g2⟩:=hr 0 t rfl;rw[lU] at g1 g2;simp only[nV] at l1 l2;have yj:vs.toArray[f.offset]?=some (vs.getD i undef):=by rw[ho];simp[aI,show i<vs.length by omega]
   have hui:us.toArray[f.offset]?=some (us.getD i undef):=by rw[ho];simp[aI,show i<us.length by omega]
   have p1:=run_part_plain (P:=P) (w:=w) hp yj;have p2:=run_part_plain (P:=P) (w:=w) hp hui;have ex:(PE.cell x i).ev ρ=X.getD i .none:=by simp only[PE.ev,hx];rfl
   have ey:(PE.cell y i).ev ρ=Y.getD i .none:=by simp only[PE.ev,hy];rfl
   have main:∃b1,e1.ev ρ=.v (.bool b1)∧(Op.equalIn (d+1) f.type (vs.getD i undef) (us.getD i undef)).run P w=.ok b1 w:=by
        cases t with
        |int k=>
         obtain⟨n,v1,d1,_⟩:=g1.int_inv;obtain⟨m,v2,d2,_⟩:=g2.int_inv;simp only[AM,aS] at lh;subst lh;have hu:∃k',P.underlying f.type=some (.int k'):=by
          simp only[nu] at hk;split at hk
          ·exact⟨_,by assumption⟩
          ·cases hk
         obtain⟨k',hu⟩:=hu;exact⟨n==m,by simp only[PE.ev,hx,hy];show D.v (.bool (gq .eql (X.getD i .none).i (Y.getD i .none).i))=_;rw[d1,d2];rfl,by rw[v1,v2];exact run_equalIn_int w d f.type k k' n m hu⟩
        |bool=>
         obtain⟨n,v1,d1⟩:=g1.bool_inv;obtain⟨m,v2,d2⟩:=g2.bool_inv;simp only[AM,aS] at lh;subst lh;have hu:P.underlying f.type=some .bool:=by
          simp only[nu] at hk;split at hk
          ·assumption
          ·cases hk
         exact⟨n==m,by simp only[PE.ev,hx,hy];show D.v (.bool (tO .eql (X.getD i .none).b (Y.getD i .none).b))=_;rw[d1,d2];rfl,by rw[v1,v2];exact run_equalIn_bool' w d f.type n m hu⟩
        |str=>
         obtain⟨n,v1,d1,_⟩:=g1.str_inv;obtain⟨m,v2,d2,_⟩:=g2.str_inv;simp only[AM,aS] at lh;subst lh;have hu:P.underlying f.type=some .string:=by
          simp only[nu] at hk;split at hk
          ·assumption
          ·cases hk
         exact⟨n.toList==m.toList,by simp only[PE.ev,hx,hy];show D.v (.bool (tP .eql (X.getD i .none).s (Y.getD i .none).s))=_;rw[d1,d2];rfl,by rw[v1,v2];exact run_equalIn_string w d f.type n m hu⟩
        |_=>simp[AM] at lh
   obtain⟨b1,ij,rV⟩:=main;refine⟨b1&&b2,by simp only[PE.ev,ij,fc];rfl,?_⟩;simp only[Op.eqFields,if_pos hn,Sem.run_bind,p1,p2,rV,Result.andThen_ok];cases b1
   ·rfl
   ·simpa using aiQ
theorem amG (h:Inv C S ρ σ own hv w0 σ0 A a w)(hC:CtxOK C σ0)(hg:holds gs ρ=true){op:BinOp}{T T':TypeId}{x y:Operand}{r:Sh×List PI}(hr:N8 C S gs dst op T x y=some r){o:Oper}(ho:o.op=.binOp op T x y T'):
 dF C S ρ σ hv Φ dst a w o r:=by
 simp only[N8,au] at hr;obtain⟨p,hp,q,hq,hr⟩:=hr;have aR:=bW h hC hg hp;have dg:=bW h hC hg hq;split at hr
 ·rename_i k k' e1 e2;rw[e1] at aR;rw[e2] at dg;obtain⟨n,aQ,bh,b1,b2⟩:=aR.int_inv;obtain⟨m,gh,dG,b3,b4⟩:=dg.int_inv;have aj:=IL (C:=C) (w:=w) ho aQ gh (by intro u e;cases e) (by intro e;cases e);cases ma:(op==.shl||op==.shr)<;>simp only[ma,cond_true,cond_false] at hr
  ·cases rQ:(k==k')<;>simp only[rQ,cond_true,cond_false] at hr
   ·cases hr
   ·have LN:k=k':=by simpa using rQ
    subst LN;cases Mj:(op==.quo||op==.rem)<;>simp only[Mj,cond_true,cond_false] at hr
    ·cases har:Eb op<;>simp only[har,cond_true,cond_false] at hr
     ·cases lg:xu op<;>simp only[lg,cond_true,cond_false] at hr
      ·cases hr
      ·cases hr;refine .dat (v:=.bool (gq op n m)) ?_ ?_
       ·rw[aj];cases op<;>simp_all [xu]<;>simp[binOp,Op.intCmp,gq,Sem.run,pure,Sem.bind]
       ·simp only[PE.ev,bh,dG,D.i_int];exact .bool _
     ·cases hr;refine .dat (v:=.int k (cB op k n m)) ?_ ?_
      ·rw[aj];cases op<;>simp_all [Eb]<;>simp[binOp,Op.intArith,Op.intBits,cB,Sem.run,pure,Sem.bind]
      ·simp only[PE.ev,bh,dG,D.i_int];refine .int _ _ ?_ ?_<;>(cases op<;>simp_all [Eb]<;>first|exact(pD _ _).1|exact(pD _ _).2)
    ·cases hr;refine .datc hg fun hc=>⟨.int k (cB op k n m),?_,?_⟩
     ·have az:m≠0:=by simpa [PE.ev,dG,D.i_int,D.b_bool,gq,D.int] using hc
      rw[aj];rcases(by simpa using Mj:op=.quo∨op=.rem) with rfl|rfl<;>simp[binOp,Op.intDiv,cB,Sem.run,pure,Sem.bind,az]
     ·simp only[PE.ev,bh,dG,D.i_int];cases op<;>simp_all
      ·exact .int _ _ (pD _ _).1 (pD _ _).2
      ·exact .int _ _ (aa9 k ⟨b1,b2⟩).1 (aa9 k ⟨b1,b2⟩).2
  ·cases hr;refine .datc hg fun hc=>⟨.int k (cB op k n m),?_,?_⟩
   ·have az:¬m<0:=by
     have:0≤m:=by simpa [PE.ev,dG,D.i_int,D.b_bool,gq,D.int] using hc
     omega
    rw[aj];rcases(by simpa using ma:op=.shl∨op=.shr) with rfl|rfl<;>simp[binOp,Op.shift,cB,Sem.run,pure,Sem.bind,az]
   ·simp only[PE.ev,bh,dG,D.i_int];cases op<;>simp_all
    ·exact .int _ _ (pD _ _).1 (pD _ _).2
    ·exact .int _ _ (Uv k _ ⟨b1,b2⟩).1 (Uv k _ ⟨b1,b2⟩).2
 ·rename_i e1 e2;rw[e1] at aR;rw[e2] at dg;obtain⟨n,aQ,bh⟩:=aR.bool_inv;obtain⟨m,gh,dG⟩:=dg.bool_inv;have aj:=IL (C:=C) (w:=w) ho aQ gh (by intro u e;cases e) (by intro e;cases e);cases dA:((op==.eql||op==.neq)&&MN C.P T)<;>simp only[dA,cond_true,cond_false] at hr
  ·cases hr
  ·cases hr;simp only[aq] at dA;obtain⟨dA,hT⟩:=dA;have xN:C.P.underlying T=some .bool:=by
        unfold MN at hT;split at hT
        ·assumption
        ·cases hT
   have heq:(Op.equal T (.bool n) (.bool m)).run C.P w=.ok (n==m) w:=by
        have:∀d,(Op.equalIn (d+1) T (.bool n) (.bool m)).run C.P w=.ok (n==m) w:=fun d=>by simp[Op.equalIn,run_underlying xN]
        exact this 9999
   refine .dat (v:=.bool (tO op n m)) ?_ ?_
   ·rw[aj];rcases(by simpa using dA:op=.eql∨op=.neq) with rfl|rfl<;>simp[binOp,tO,heq,Sem.run_bind']
   ·simp only[PE.ev,bh,dG,D.b_bool];exact .bool _
 ·rename_i e1 e2;rw[e1] at aR;rw[e2] at dg;obtain⟨n,aQ,bh,_⟩:=aR.str_inv;obtain⟨m,gh,dG,_⟩:=dg.str_inv;have aj:=IL (C:=C) (w:=w) ho aQ gh (by intro u e;cases e) (by intro e;cases e);cases dA:xu op<;>simp only[dA,cond_true,cond_false] at hr
  ·cases hr
  ·cases hr;refine .dat (v:=.bool (tP op n m)) ?_ ?_
   ·rw[aj];cases op<;>simp_all [xu]<;>simp[binOp,Op.stringOp,tP,Sem.run,pure,Sem.bind]
   ·simp only[PE.ev,bh,dG,D.s_str];exact .bool _
 ·rename_i e e' e1 e2;rw[e1] at aR;rw[e2] at dg;split at hr
  case h_2=>cases hr
  rename_i E hT;cases dA:(op==.eql||op==.neq)<;>simp only[dA,cond_true,cond_false] at hr
  ·cases hr
  cases hr;obtain⟨n,xs,aQ,bh,aim⟩:∃(n:Bool) (xs:List D),(n=true∧a.eval x=.slice none 0 0∨n=false∧∃k o m c,a.eval x=.slice (some ⟨k,o,none⟩) m c)∧p.2.ev ρ=.list xs∧n=decide (xs=[]):=by
   generalize a.eval x=vv at aR;generalize p.2.ev ρ=dd at aR;cases aR with
   |nsl0=>exact⟨true,[],.inl ⟨rfl,rfl⟩,rfl,rfl⟩
   |nsl _ k o m c xs h hx=>exact⟨false,xs,.inr ⟨rfl,k,o,m,c,rfl⟩,rfl,by simp[hx]⟩
  have gh:a.eval y=.slice none 0 0:=by
   generalize a.eval y=vv at dg;generalize q.2.ev ρ=dd at dg;cases dg;rfl
  have heq:(Op.equal T (a.eval x) (a.eval y)).run C.P w=.ok n w:=by
   have:∀d,(Op.equalIn (d+1) T (a.eval x) (a.eval y)).run C.P w=.ok n w:=fun d=>by
        rw[gh];rcases aQ with⟨rfl,h1⟩|⟨rfl,k,o,m,c,h1⟩<;>rw[h1]<;>simp[Op.equalIn,run_underlying hT]
   exact this 9999
  have aj:=IL (C:=C) (w:=w) ho rfl rfl (by
   intro u e;rcases aQ with⟨_,h1⟩|⟨_,k,o,m,c,h1⟩<;>rw[h1] at e<;>cases e) (by
   intro e;rcases aQ with⟨_,h1⟩|⟨_,k,o,m,c,h1⟩<;>rw[h1] at e<;>cases e)
  refine .dat (v:=.bool (gq op xs.length 0)) ?_ ?_
  ·have az:∀(y:D) (ys:List D),¬((ys.length:Int)+1=0):=fun y ys=>by omega
   rw[aj,gh];rw[gh] at heq;rcases aQ with⟨_,h1⟩|⟨_,k,o,m,c,h1⟩<;>rw[h1] at heq ⊢<;>rcases(by simpa using dA:op=.eql∨op=.neq) with rfl|rfl<;>cases xs<;>simp[binOp,heq,Sem.run_bind',gq,aim]<;>(try omega)
  ·simp only[PE.ev,bh,D.l_list,D.int,D.i_int];exact .bool _
 ·rename_i ts us e1 e2;rw[e1] at aR;rw[e2] at dg;cases dA:((op==.eql||op==.neq)&&Ty.beqs ts us&&KT C.P T)<;>simp only[dA,cond_true,cond_false] at hr
  ·cases hr
  simp only[aq] at dA;obtain⟨⟨dA,uI⟩,cQ⟩:=dA;have:=Ty.beqs_eq _ _ uI;subst this;simp only[KT,aq,jf] at cQ;obtain⟨⟨V6,ai5⟩,ai6⟩:=cQ;have uq:C.P.underlying T=some (.struct (C.P.fieldsOf T)):=by
   unfold Program.fieldsOf;split at V6
   ·rename_i fs hu;rw[hu]
   ·cases V6
  simp only[ax] at hr;obtain⟨e,he,rfl⟩:=hr;obtain⟨vs,ds,aQ,bh,l1,l2,aP,_⟩:=aR.agg_inv;obtain⟨zq,ds',gh,dG,l3,l4,rH,_⟩:=dg.agg_inv
  obtain⟨b,hb,aj⟩:=aeU (P:=C.P) (cap:=C.cap) (σ:=σ) (ρ:=ρ) w bh dG (vs:=vs) (us:=zq) 9998 _ 0 ts e he (fun j t hj=>by
   rw[jo];exact⟨aP j t hj,rH j t hj⟩) (by omega) (by omega)
  have heq:(Op.equalIn 10000 T (.agg vs.toArray) (.agg zq.toArray)).run C.P w=.ok b w:=by
   rw[run_equalIn_struct w 9999 T _ _ uq ai5];exact aj
  have ln:=run_eqGuard_agg (P:=C.P) (w:=w) op T x y vs.toArray zq.toArray ai6
  have Vq:(execOp a.eval o).run C.P w=((binOp op T (.agg vs.toArray) (.agg zq.toArray)).run C.P w).andThen fun r w'=>.ok (.value r) w':=by
   simp only[execOp,ho,aQ,gh,Sem.run_bind,ln,Result.andThen_ok];rfl
  rcases(by simpa using dA:op=.eql∨op=.neq) with rfl|rfl
  ·refine .dat (v:=.bool b) ?_ ?_
   ·rw[Vq,run_eql_struct,heq];rfl
   ·show Rep _ _ .bool _ (PE.ev ρ e);rw[hb];exact .bool _
  ·refine .dat (v:=.bool (!b)) ?_ ?_
   ·rw[Vq,run_neq_struct,heq];rfl
   ·show Rep _ _ .bool _ (PE.ev ρ (.nt e));simp only[PE.ev,hb];exact .bool _
 ·cases hr
theorem amW (h:Inv C S ρ σ own hv w0 σ0 A a w)(hC:CtxOK C σ0)(hg:holds gs ρ=true){op:UnOp}{T:TypeId}{x:Operand}{r:Sh×List PI}(hr:Oo C S gs dst op x=some r){o:Oper}(ho:o.op=.unOp op T x):
 dF C S ρ σ hv Φ dst a w o r:=by
 simp only[Oo,au] at hr;obtain⟨p,hp,hr⟩:=hr;have aR:=bW h hC hg hp;split at hr
 ·rename_i k e1;rw[e1] at aR;obtain⟨n,aQ,bh,b1,b2⟩:=aR.int_inv;cases hr;refine .dat (v:=.int k (cB .sub k 0 n)) ?_ ?_
  ·simp[execOp,ho,aQ,Op.unary,Op.intArith,cB,Sem.run,pure,bind,Sem.bind]
  ·simp only[PE.ev,bh,D.i_int];exact .int _ _ (pD _ _).1 (pD _ _).2
 ·rename_i e1;rw[e1] at aR;obtain⟨n,aQ,bh⟩:=aR.bool_inv;cases hr;refine .dat (v:=.bool (!n)) ?_ ?_
  ·simp[execOp,ho,aQ,Op.unary,Sem.run,pure,bind,Sem.bind]
  ·simp only[PE.ev,bh,D.b_bool];exact .bool _
 ·cases hr
theorem amI (h:Inv C S ρ σ own hv w0 σ0 A a w)(hC:CtxOK C σ0)(hg:holds gs ρ=true){s d:TypeId}{x:Operand}{r:Sh×List PI}(hr:Oa C S gs dst s d x=some r){o:Oper}(ho:o.op=.convert s d x):
 dF C S ρ σ hv Φ dst a w o r:=by
 simp only[Oa,au] at hr;obtain⟨p,hp,hr⟩:=hr;have aR:=bW h hC hg hp;split at hr
 ·rename_i k0 k k1 u1 u2 e1;rw[e1] at aR;obtain⟨n,aQ,bh,b1,b2⟩:=aR.int_inv;cases hr;refine .dat (v:=.int k (k.wrap n)) ?_ ?_
  ·simp[execOp,ho,aQ,convert,run_underlying u1,run_underlying u2,Conv.intToInt]
  ·simp only[PE.ev,bh,D.i_int];exact .int _ _ (pD _ _).1 (pD _ _).2
 ·rename_i u1 u2 e1;rw[e1] at aR;obtain⟨n,aQ,bh,b1⟩:=aR.str_inv;cases hr;refine .dat (v:=.string n) ?_ ?_
  ·simp[execOp,ho,aQ,convert,run_underlying u1,run_underlying u2]
  ·rw[bh];exact .str _ b1
 ·cases hr
end
end Cx
namespace Cx
open Go Go.RowKit
theorem sn {n:Nat}(h:n≤maxLen):IntKind.i64.min≤(n:Int)∧(n:Int)≤IntKind.i64.max:=by
 simp only[maxLen] at h;simp only[IntKind.min,IntKind.max,IntKind.signed,IntKind.bits];simp;omega
section
variable {C:Ctx} {S:St} {ρ:Env} {σ:Im} {own:Nat→Option Nat} {hv:Nat→Value} {w0:World} {σ0:Base} {A:Nat→Prop} {a:Act} {w:World} {gs:List (Nat×Bool)} {Φ:aJ} {dst:Nat}
def JE (C:Ctx)(σ:Im)(w:World)(B:Nat)(t:Ty)(v:Value)(d:D):Prop:=
 Rep C.cap σ t v d∨
 (∃T e cells xs,t=.slice e.rol∧d=.list xs∧w.ownsRow B T e.size v xs.length cells∧dL C.cap σ e cells xs)∨
 (∃k arr clock es kt et,t=.map kt et∧v=.map (some k)∧w.heap[k]?=some (.map arr clock)∧d=.map es∧es.length=arr.size∧es.length≤maxLen∧
    ∀(i:Nat) (e:MapEntry) (p:D×D),arr[i]?=some e→es[i]?=some p→Rep C.cap σ kt e.key p.1∧Rep C.cap σ et e.val p.2)
theorem Su (h:Inv C S ρ σ own hv w0 σ0 A a w)(hC:CtxOK C σ0)(hg:holds gs ρ=true){x:Operand}{r:Ty×PE}(hu:view C S gs x=some r):JE C σ w w0.heap.size r.1 (a.eval x) (r.2.ev ρ):=by
 unfold view at hu;split at hu
 ·rename_i r' uB;cases hu;exact .inl (bW h hC hg uB)
 ·split at hu
  ·rename_i t _;obtain⟨hs,_⟩:=mC h hg t;split at hu
   ·rename_i j ver e;rw[e] at hs;cases hb:Nat.beq ver (S.ver j)<;>simp only[hb,cond_true,cond_false] at hu
    ·cases hu
    ·have dp:=aw hb;have ho:=h.objs j;have bY:a.eval (.tmp t)=hv j:=hs.2 dp;split at hu
     ·rename_i T e eo;rw[eo] at ho;cases hu;obtain⟨cells,xs,h1,h2,h3,h4⟩:=ho;rw[bY];exact .inr (.inl ⟨T,e,cells,xs,rfl,h1,h2,h3⟩)
     ·rename_i kt et eo;rw[eo] at ho;cases hu;obtain⟨k,arr,clock,es,h1,h2,h3,h4,h5,⟨hx,_⟩,h6⟩:=ho;rw[bY];exact .inr (.inr ⟨k,arr,clock,es,kt,et,rfl,h1,h3,h4,h5,hx,h6⟩)
     ·cases hu
   ·cases hu
  ·cases hu
theorem vh {w:World}{B e size n:Nat}{v:Value}{cells:List Value}(h:w.ownsRow B e size v n cells):∃b c,v=.slice b n c∧n≤maxLen∧n≤c:=by
 rcases h.2 with⟨rfl,rfl⟩|⟨g,cap,cur,rfl,h1,h2,h3,h4,h5⟩
 ·exact⟨none,0,rfl,by decide,aU _⟩
 ·exact⟨_,cap,rfl,fW h3 h4,h3⟩
theorem P2 {b:Builtin}{args:Array Operand}{ts:Array TypeId}{o:Oper}(ho:o.op=.call {callee:=.builtin b,args:=args,argTypes:=ts}):
 ∃cs,(execOp a.eval o).run C.P w=(builtin b ts o.type cs (args.map a.eval)).run C.P w:=
 ⟨_,by simp only[execOp,ho,resolve,invoke];rfl⟩
theorem amP (h:Inv C S ρ σ own hv w0 σ0 A a w)(hC:CtxOK C σ0)(hg:holds gs ρ=true){T:TypeId}{x:Operand}{r:Sh×List PI}(hr:Oi C S gs dst T x=some r){o:Oper}
 (ho:o.op=.call {callee:=.builtin .len,args:=#[x],argTypes:=#[T]}):dF C S ρ σ hv Φ dst a w o r:=by
 simp only[Oi,au] at hr;obtain⟨p,hp,hr⟩:=hr;have aR:=Su h hC hg hp;obtain⟨cs,aj⟩:=P2 (C:=C) (w:=w) (a:=a) ho;split at hr
 ·rename_i e T' e1 e2;rw[e1] at aR;cases hr;have hx:∃b n c xs,a.eval x=.slice b n c∧p.2.ev ρ=.list xs∧xs.length=n∧n≤maxLen:=by
   rcases aR with aR|⟨T,e,cells,xs,ht,hd,bt,fe⟩|⟨k,arr,clock,es,kt,et,ht,_⟩
   ·obtain⟨xs,hd,⟨⟨p0,aQ⟩,rfl⟩|⟨k,o,c,aQ,h1,h2,_⟩⟩:=aR.slice_inv
    ·exact⟨p0,0,0,[],aQ,hd,rfl,by decide⟩
    ·exact⟨_,_,c,xs,aQ,hd,rfl,by omega⟩
   ·obtain⟨b,c,aQ,h1,_⟩:=vh bt;exact⟨b,_,c,xs,aQ,hd,rfl,h1⟩
   ·cases ht
  obtain⟨b,n,c,xs,aQ,hd,hl,hm⟩:=hx;refine .dat (v:=.int .i64 n) ?_ ?_
  ·rw[aj];simp[builtin,Builtin.len_,aQ,run_underlying e2,goInt]
  ·simp only[PE.ev,hd,D.l_list,hl];exact .int _ _ (sn hm).1 (sn hm).2
 ·rename_i e T' e1 e2;rw[e1] at aR;cases hr;rcases aR with aR|⟨T,e,cells,xs,ht,_⟩|⟨k,arr,clock,es,kt,et,ht,_⟩
  ·generalize uJ:a.eval x=v at aR;generalize Be:p.2.ev ρ=d at aR;cases aR;refine .dat (v:=.int .i64 0) ?_ ?_
   ·rw[aj];simp[builtin,Builtin.len_,uJ,run_underlying e2,goInt]
   ·simp only[PE.ev,Be,D.l_list];exact .int _ _ (by decide) (by decide)
  ·cases ht
  ·cases ht
 ·rename_i e1 e2;rw[e1] at aR;cases hr;rcases aR with aR|⟨T,e,cells,xs,ht,_⟩|⟨k,arr,clock,es,kt,et,ht,_⟩
  ·obtain⟨n,aQ,bh,hm⟩:=aR.str_inv;refine .dat (v:=.int .i64 n.size) ?_ ?_
   ·rw[aj];simp[builtin,Builtin.len_,aQ,run_underlying e2,goInt]
   ·simp only[PE.ev,bh,D.s_str];exact .int _ _ (sn hm).1 (sn hm).2
  ·cases ht
  ·cases ht
 ·rename_i k0 e0 a0 b0 e1 e2;rw[e1] at aR;cases hr;rcases aR with aR|⟨T,e,cells,xs,ht,_⟩|⟨k,arr,clock,es,kt,et,ht,aQ,hb,bh,hl,hx,_⟩
  ·generalize uJ:a.eval x=v at aR;generalize Be:p.2.ev ρ=d at aR;cases aR with
   |mapnil=>
    refine .dat (v:=.int .i64 0) ?_ ?_
    ·rw[aj];simp[builtin,Builtin.len_,uJ,run_underlying e2,goInt]
    ·simp only[PE.ev,Be,D.m];exact .int _ _ (by decide) (by decide)
   |map kt et r gV es hm hl hx hk _=>
    obtain⟨_,arr,clock,hb,gI⟩:=(h.ok.m _ _ hm).resolve_right (fun e=>Ck hl hk e.1);have hn:arr.size=es.length:=by rw[hl,←gI];simp[entriesOf]
    refine .dat (v:=.int .i64 arr.size) ?_ ?_
    ·rw[aj];simp[builtin,Builtin.len_,uJ,run_underlying e2,goInt,getObj,Sem.run,hb]
    ·simp only[PE.ev,Be,D.m,hn];exact .int _ _ (sn hx).1 (sn hx).2
  ·cases ht
  ·refine .dat (v:=.int .i64 arr.size) ?_ ?_
   ·rw[aj];simp[builtin,Builtin.len_,aQ,run_underlying e2,goInt,getObj,Sem.run,hb]
   ·simp only[PE.ev,bh,D.m,hl];exact .int _ _ (sn (hl▸hx)).1 (sn (hl▸hx)).2
 ·cases hr
theorem YZ (h:Inv C S ρ σ own hv w0 σ0 A a w)(hC:CtxOK C σ0)(hg:holds gs ρ=true){mx:Bool}{x y:Operand}{ts:Array TypeId}{r:Sh×List PI}(hr:HA C S gs dst mx x y=some r){o:Oper}
 (ho:o.op=.call {callee:=.builtin (bif mx then .max else .min),args:=#[x,y],argTypes:=ts}):dF C S ρ σ hv Φ dst a w o r:=by
 simp only[HA,au] at hr;obtain⟨p,hp,q,hq,hr⟩:=hr;have aR:=bW h hC hg hp;have dg:=bW h hC hg hq;obtain⟨cs,aj⟩:=P2 (C:=C) (w:=w) (a:=a) ho;split at hr
 ·rename_i k k' e1 e2;rw[e1] at aR;rw[e2] at dg;obtain⟨n,aQ,bh,b1,b2⟩:=aR.int_inv;obtain⟨m,gh,dG,b3,b4⟩:=dg.int_inv;cases rQ:(k==k')<;>simp only[rQ,cond_true,cond_false] at hr
  ·cases hr
  ·have LN:k=k':=by simpa using rQ
   subst LN;cases hr;cases mx with
   |true=>
    refine .dat (v:=.int k (if m>n then m else n)) ?_ ?_
    ·rw[aj];simp[builtin,Builtin.max_,Builtin.max2,aQ,gh]
    ·simp only[cond_true,PE.ev,bh,dG,D.i_int];by_cases af:m>n<;>simp[af]<;>constructor<;>assumption
   |false=>
    refine .dat (v:=.int k (if m<n then m else n)) ?_ ?_
    ·rw[aj];simp[builtin,Builtin.min_,Builtin.min2,aQ,gh]
    ·simp only[cond_false,PE.ev,bh,dG,D.i_int];by_cases af:m<n<;>simp[af]<;>constructor<;>assumption
 ·cases hr
theorem amJ (h:Inv C S ρ σ own hv w0 σ0 A a w)(hC:CtxOK C σ0)(hg:holds gs ρ=true){x:Operand}{i:Nat}{r:Sh×List PI}(hr:Oc C S gs dst x i=some r){o:Oper}(ho:o.op=.extract x i):
 dF C S ρ σ hv Φ dst a w o r:=by
 simp only[Oc,au] at hr;obtain⟨p,hp,hr⟩:=hr;have aR:=bW h hC hg hp;split at hr
 ·rename_i ts e1;rw[e1] at aR;simp only[ax] at hr;obtain⟨t,ht,rfl⟩:=hr;obtain⟨vs,ds,aQ,bh,l1,l2,aP⟩:=aR.tup_inv;have hi:i<vs.length:=by rw[l1];exact(dX.1 ht).1
  refine .dat (v:=vs.getD i undef) ?_ ?_
  ·obtain⟨u,hu⟩:∃u,vs[i]?=some u:=⟨_,aZ hi⟩
   have ln:vs.getD i undef=u:=by rw[aI,hu];rfl
   rw[ln];simp[execOp,ho,aQ,Instr.extract,hu]
  ·simp only[PE.ev,bh];exact aP i t ht
 ·cases hr
end
end Cx
namespace Cx
open Go Go.RowKit
theorem sf {P:Program}{T:TypeId}{ag:Bool}(h:nr P T=some ag)(w:World):(isAgg T).run P w=.ok ag w:=by
 unfold nr at h;split at h
 ·rename_i fs hu;cases h;simp[isAgg,run_underlying hu]
 ·rename_i n e hu;cases h;simp[isAgg,run_underlying hu]
 ·rename_i d h1 h2 hu;cases h;cases d<;>simp_all [isAgg,run_underlying hu]
 ·cases h
theorem rp (k o n:Nat):(⟨k,o,none⟩:Addr).add n=⟨k,o+n,none⟩:=by
 unfold Addr.add;split<;>simp_all
theorem IN {P:Program}{T:TypeId}{inf:TypeInfo}{ag:Bool}{w:World}{k o:Nat}{cs:List Value}(hi:P.info? T=some inf)(ha:nr P T=some ag)(hl:cs.length=inf.size)
 (h1:ag=false→cs.length=1) (hc:∀j u,cs[j]?=some u→w.cell? ⟨k,o+j,none⟩=some u):(loadVar T ⟨k,o,none⟩).run P w=.ok (rowOf ag cs) w:=by
 cases ag with
 |true=>
  have:=run_loadCells_list (P:=P) w ⟨k,o,none⟩ cs (fun j v hv=>by rw[rp];exact hc j v hv);rw[hl] at this;simp[loadVar,sf ha,Go.sizeOf,run_typeInfo w hi,this,rowOf]
 |false=>
  obtain⟨u,hu⟩:∃u,cs=[u]:=by
   have:=h1 rfl
   match cs,this with
   |[u],_=>exact⟨u,rfl⟩
  subst hu;have h0:=hc 0 u rfl;simp only[lU] at h0;simp[loadVar,sf ha,rowOf,run_load,h0]
section
variable {C:Ctx} {S:St} {ρ:Env} {σ:Im} {own:Nat→Option Nat} {hv:Nat→Value} {w0:World} {σ0:Base} {A:Nat→Prop} {a:Act} {w:World} {gs:List (Nat×Bool)} {Φ:aJ} {dst:Nat}
theorem sR {o:Oper}{T:TypeId}{x:Operand}{v:Value}{k off:Nat}(ho:o.op=.load T x)(hx:a.eval x=.pointer (some ⟨k,off,none⟩))(hl:(loadVar T ⟨k,off,none⟩).run C.P w=.ok v w):
 (execOp a.eval o).run C.P w=.ok (.value v) w:=by
 simp[execOp,ho,Instr.loadAt,hx,Instr.sureAddr,hl]
theorem qn {α:Type}{l:List α}{i:Nat}{x d:α}(h:l[i]?=some x):l.getD i d=x:=by
 rw[aI,h];rfl
theorem HF {cap:Nat→Option CSig}{ts:List Ty}{vs:List Value}{ds:List D}{ag:Bool}{n off:Nat}{ty:Ty}(hp:sD ag n ts off=some ty)
 (h1:vs.length=ts.length) (h2:ds.length=ts.length) (hr:∀(i:Nat) (t:Ty),ts[i]?=some t→Rep cap σ t (vs.getD i undef) (ds.getD i .none)) (ho:∀(i:Nat) (t:Ty),ts[i]?=some t→t.one=true):
 Rep cap σ ty (rowOf ag ((vs.drop off).take n)) (bif ag then .agg ((ds.drop off).take n) else ds.getD off .none)∧((vs.drop off).take n).length=n∧(ag=false→n=1):=by
 unfold sD at hp;cases hle:Nat.ble (off+n) ts.length<;>simp only[hle,cond_true,cond_false] at hp
 ·cases hp
 ·have Bx:=jQ hle;have hlen:((vs.drop off).take n).length=n:=by simp;omega
  cases ag with
  |true=>
   simp only[cond_true] at hp;cases hp;refine⟨?_,hlen,fun e=>by cases e⟩;simp only[rowOf,if_true,cond_true];refine .agg _ _ _ (by simp;omega) (by simp;omega) (fun i t hi=>?_) (fun i t hi=>?_)
   ·simp only[fV,gn] at hi;split at hi
    ·rename_i cu;have:=hr (off+i) t hi;simpa [aI,fV,gn,cu] using this
    ·cases hi
   ·simp only[fV,gn] at hi;split at hi
    ·exact ho _ t hi
    ·cases hi
  |false=>
   simp only[cond_false] at hp;cases hn:Nat.beq n 1<;>simp only[hn,cond_true,cond_false] at hp
   ·cases hp
   ·have j0:=aw hn;subst j0;refine⟨?_,hlen,fun _=>rfl⟩;have:=hr off ty hp;have af:off<vs.length:=by omega
    simpa [rowOf,aI,fV,gn] using this
theorem HE {ag:Bool}{n:Nat}{e:PE}{off:Nat}{ds:List D}(h:e.ev ρ=.agg ds):(yK ag n e off).ev ρ=bif ag then .agg ((ds.drop off).take n) else ds.getD off .none:=by
 cases ag<;>simp[yK,PE.ev,h,D.cells,D.c]
theorem Inv.cell (h:Inv C S ρ σ own hv w0 σ0 A a w){k o:Nat}{u:Value}(hc:σ.c k o=some u):w.cell? ⟨k,o,none⟩=some u:=h.ok.c _ _ _ hc
theorem Rep.rowOf {cap:Nat→Option CSig}{t:Ty}{v:Value}{d:D}(h:Rep cap σ t v d):v=Cx.rowOf t.rowT v.cells.toList:=by
 cases h<;>simp[Cx.rowOf,Ty.rowT,Value.cells]
theorem Rep.cells1 {cap:Nat→Option CSig}{t:Ty}{v:Value}{d:D}(h:Rep cap σ t v d)(ht:t.rowT=false):v.cells=#[v]:=by
 cases h<;>simp_all [Ty.rowT,Value.cells]
theorem amQ (h:Inv C S ρ σ own hv w0 σ0 A a w){T:TypeId}{x:Operand}{inf:TypeInfo}{ag:Bool}(hi:C.P.info? T=some inf)(ha:nr C.P T=some ag){o:Oper}(ho:o.op=.load T x)
 {ty:Ty} {e:PE} (hr:Rep C.cap σ (.ref ty) (a.eval x) (e.ev ρ)) (hs:Nat.beq inf.size ty.size=true) (hag:(ag==ty.rowT)=true):
 dF C S ρ σ hv Φ dst a w o (.dat ty,[.setR dst (.deref e)]):=by
 obtain⟨k,off,v,y,aQ,bh,bF,il⟩:=hr.ref_inv;have jz:=aw hs;have U9:ag=ty.rowT:=by simpa using hag
 have hz:=bF.size;have lz:=bF.rowOf;refine .dat (v:=v) (sR ho aQ ?_) ?_
 ·rw[lz,←U9];refine IN hi ha (by simp[hz,jz]) (fun e=>?_) (fun j u hu=>?_)
  ·subst e;simp[bF.cells1 U9.symm]
  ·exact h.cell (il j u (by simpa using hu))
 ·simp only[PE.ev,bh,D.deref];exact bF
theorem Kp {w:World}{k:Nat}{cs:Array Value}{T:TypeId}{fr:Nat×Nat}(hb:w.heap[k]?=some (.cells cs T fr)){i:Nat}(hi:i<cs.size):w.cell? ⟨k,i,none⟩=some (cs.getD i undef):=by
 simp[World.cell?,hb,eY,iM hi]
theorem xJ (cs:Array Value)(i:Nat):cs.toList.getD i undef=cs.getD i undef:=by
 simp[aI,eY]
theorem ab5 {b:PE}{cs:Array Value}{ds:List D}(hd:b.ev ρ=.agg ds):∀(shs:List Sh) (i:Nat) (l:List AgC),D9 S shs=some l→(∀m s,shs[m]?=some s→aF C S ρ σ hv s (cs.getD (i+m) undef) (ds.getD (i+m) .none))→
 l.length=shs.length∧(PE.evc ρ (pU b l i)).length=l.length∧∀(m:Nat) (c:AgC),l[m]?=some c→zw C S σ hv c (cs.getD (i+m) undef) ((PE.evc ρ (pU b l i)).getD m .none)
 |[],i,l,hl,_=>by simp only[D9,aS] at hl;subst hl;exact⟨rfl,rfl,fun m c hm=>by simp at hm⟩
 |s::r,i,l,hl,aP=>by
  simp only[D9,au] at hl;obtain⟨x,hx,hl⟩:=hl
  obtain⟨g1,g2,g3⟩:=ab5 hd r (i+1) x hx fun m s hm=>by
   have:=aP (m+1) s (by simpa using hm)
   rwa [show i+(m+1)=i+1+m by omega] at this
  have h0:=aP 0 s rfl;rw[lU] at h0;split at hl
  ·rename_i t;cases df:t.one<;>simp only[df,cond_true,cond_false] at hl
   ·cases hl
   cases hl;have gF:Rep C.cap σ t (cs.getD i undef) (ds.getD i .none):=h0;have e:PE.evc ρ (pU b (.dat t::x) i)=ds.getD i .none::PE.evc ρ (pU b x (i+1)):=by
        simp only[pU,PE.evc,PE.ev,hd,D.c];have:=gF.dcells df;simp only[D.cells] at this ⊢;rw[this];rfl
   rw[e];refine⟨by simp[g1],by simp[g2],fun m c hm=>?_⟩;cases m with
   |zero=>simp at hm;subst hm;exact⟨df,gF⟩
   |succ m=>simp at hm;have:=g3 m c hm;rw[show i+1+m=i+(m+1) by omega] at this;simpa using this
  ·rename_i j ver;cases hb:Nat.beq ver (S.ver j)<;>simp only[hb,cond_true,cond_false] at hl
   ·cases hl
   cases hl;have e:PE.evc ρ (pU b (.obj j ver::x) i)=.v (.bool false)::PE.evc ρ (pU b x (i+1)):=rfl;rw[e];refine⟨by simp[g1],by simp[g2],fun m c hm=>?_⟩;cases m with
   |zero=>simp at hm;subst hm;exact h0
   |succ m=>simp at hm;have:=g3 m c hm;rw[show i+1+m=i+(m+1) by omega] at this;simpa using this
  ·cases hl
theorem Hz (h:Inv C S ρ σ own hv w0 σ0 A a w)(hC:CtxOK C σ0)(hg:holds gs ρ=true){T:TypeId}{x:Operand}{r:Sh×List PI}(hr:Cq C S gs dst T x=some r){o:Oper}(ho:o.op=.load T x):
 dF C S ρ σ hv Φ dst a w o r:=by
 unfold Cq at hr;split at hr
 case h_2=>cases hr
 rename_i inf ag hi ha;have dQ:aF C S ρ σ hv (gD S gs x) (a.eval x) ((sM x).ev ρ):=by
  cases x with
  |tmp t=>exact(mC h hg t).1
  |_=>trivial
 split at hr
 ·
  rename_i j ver off es;rw[es] at dQ;cases hb:Nat.beq ver (S.ver j)<;>simp only[hb,cond_true,cond_false] at hr
  ·cases hr
  have dp:=aw hb;obtain⟨k,dS,fb⟩:=dQ.2 dp;have aW:=h.objs j;split at hr
  ·rename_i bag shs eo;rw[eo] at aW;obtain⟨k',cs,T',ds,h1,h2,h3,h4,h5,h6,h7⟩:=aW;rw[dS] at h1;cases h1;cases ag with
   |true=>
    simp only[cond_true] at hr;cases hle:Nat.ble (off+inf.size) shs.length<;>simp only[hle,cond_true,cond_false] at hr
    ·cases hr
    have Bx:=jQ hle;have hlen:((shs.drop off).take inf.size).length=inf.size:=by simp;omega
    have cY:∀m u,((cs.toList.drop off).take inf.size)[m]?=some u→w.cell? ⟨k,off+m,none⟩=some u:=fun m u hu=>by
     simp only[fV,gn] at hu;split at hu
     ·rename_i hm;have:=Kp h3 (i:=off+m) (by omega);rw[this,←xJ];exact congrArg some (qn hu)
     ·cases hu
    have aiR:=sR ho fb (IN hi ha (by simp;omega) (fun e=>by cases e) cY);simp only[ax] at hr;obtain⟨p,hp,rfl⟩:=hr
    obtain⟨l1,es,⟨he,_⟩,l2,bF⟩:=Ku (b:=.o j) h (cs:=cs.toList) h5 _ off p (fun m s hm=>by
     simp only[fV,gn] at hm;split at hm
     ·have:=(h7 (off+m) s hm).2;rw[xJ];exact this
     ·cases hm) hp
    refine .dat (v:=rowOf true ((cs.toList.drop off).take inf.size)) aiR ?_
    ·simp only[PE.ev,rowOf,if_true,he];refine .agg _ _ _ (by simp;omega) (by omega) (fun m t hm=>?_) (fun m t hm=>(bF m t hm).1);have oF:m<inf.size:=by have:=(dX.1 hm).1;omega
     have:=(bF m t hm).2;simpa [aI,fV,gn,oF] using this
   |false=>
    simp only[cond_false] at hr;split at hr
    ·rename_i ty hs;cases df:ty.one<;>simp only[df,cond_true,cond_false] at hr
     ·cases hr
     cases hr;have ng:=(h7 off _ hs).2;have af:off<shs.length:=(dX.1 hs).1;have uy:(loadVar T ⟨k,off,none⟩).run C.P w=.ok (cs.getD off undef) w:=by
      simp[loadVar,sf ha,run_load,Kp h3 (i:=off) (by omega)]
     refine .dat (v:=cs.getD off undef) (sR ho fb uy) ?_;simp only[PE.ev,h5,D.c,D.cells];exact ng
    ·rename_i j' mF hs;cases hr;have ng:=(h7 off _ hs).2;have af:off<shs.length:=(dX.1 hs).1;have uy:(loadVar T ⟨k,off,none⟩).run C.P w=.ok (cs.getD off undef) w:=by
      simp[loadVar,sf ha,run_load,Kp h3 (i:=off) (by omega)]
     intro ρ' aj;exact⟨_,_,vF aj,sR ho fb uy,ng,fun _ _ e=>by cases e⟩
    ·cases hr
  ·rename_i ts eo;rw[eo] at aW;obtain⟨k',v,h1,h2,h3⟩:=aW;rw[dS] at h1;cases h1;simp only[ax] at hr;obtain⟨ty,aT,rfl⟩:=hr;obtain⟨vs,ds,rfl,hd,l1,l2,aP,df⟩:=h2.agg_inv;obtain⟨bF,hlen,j0⟩:=HF aT l1 l2 aP df;refine .dat (sR ho fb (IN hi ha hlen (fun e=>by rw[hlen];exact j0 e) (fun m u hu=>h.cell ?_))) (by rw[HE (e:=.o j) hd];exact bF);simp only[fV,gn] at hu;split at hu
   ·exact h3 (off+m) u (by simpa [Value.cells] using hu)
   ·cases hu
  ·rename_i ty az eo;rw[eo] at aW;obtain⟨k',v,h1,h2,h3⟩:=aW;rw[dS] at h1;cases h1;cases hc:(!ag&&ty.one&&Nat.beq off 0)<;>simp only[hc,cond_true,cond_false] at hr
   ·cases hr
   cases hr;simp only[aq,jf] at hc;have gL:=aw hc.2;subst gL;have uy:(loadVar T ⟨k,0,none⟩).run C.P w=.ok v w:=by
        have:=h.cell (h3 0 v (by simp[(h2.oneCell hc.1.2).1]));rw[hc.1.1] at ha;simp[loadVar,sf ha,run_load,this]
   exact .dat (sR ho fb uy) h2
  ·cases hr
 ·
  rename_i j ver size off es;rw[es] at dQ;cases hb:Nat.beq ver (S.ver j)<;>simp only[hb,cond_true,cond_false] at hr
  ·cases hr
  have dp:=aw hb;obtain⟨k,n,c,ik,i,dS,rL,cu,fb⟩:=dQ.2 dp;have aW:=h.objs j;split at hr
  ·rename_i T' ts eo;rw[eo] at aW;obtain⟨cells,xs,h1,h2,⟨vs,h3,h4⟩,h5⟩:=aW;cases aL:Nat.beq size ts.length<;>simp only[aL,cond_true,cond_false] at hr
   ·cases hr
   have rY:=aw aL;simp only[ax] at hr;obtain⟨ty,aT,rfl⟩:=hr;rw[dS] at h2;have aV:=h2.cells (g:=k) rfl;obtain⟨b,c',e1,By,Bz⟩:=vh h2;cases e1;obtain⟨y,hy⟩:∃y,xs[i]?=some y:=⟨_,aZ cu⟩
   have GM:=h3 i y hy;obtain⟨us,ds,yj,hd,l1,l2,aP,df⟩:=GM.agg_inv;obtain⟨bF,hlen,j0⟩:=HF aT l1 l2 aP df;have aiq:(PE.nth (.o j) (sM x)).ev ρ=.agg ds:=by
        simp only[PE.ev,h1,D.l_list,rL,D.i_int,tl];rw[qn hy,hd]
   refine .dat (sR ho fb (IN hi ha hlen (fun e=>by rw[hlen];exact j0 e) (fun m u hu=>?_))) (by rw[HE aiq];exact bF);simp only[fV,gn] at hu;split at hu
   ·have:=h4 i (off+m) u (by omega) (by rw[yj];simpa [Value.cells] using hu);have:=aV _ _ this;rw[rp] at this;simpa [Ty.size,rY,tp] using this
   ·cases hu
  ·rename_i T' e az eo;rw[eo] at aW;obtain⟨cells,xs,h1,h2,⟨vs,h3,h4⟩,h5⟩:=aW;cases hc:(!ag&&e.one&&Nat.beq off 0&&Nat.beq size 1)<;>simp only[hc,cond_true,cond_false] at hr
   ·cases hr
   cases hr;simp only[aq,jf] at hc;have gL:=aw hc.1.2;have aL:=aw hc.2;subst gL;subst aL;rw[dS] at h2;have aV:=h2.cells (g:=k) rfl;obtain⟨b,c',e1,By,Bz⟩:=vh h2;cases e1;obtain⟨y,hy⟩:∃y,xs[i]?=some y:=⟨_,aZ cu⟩
   have GM:=h3 i y hy;have uy:(loadVar T ⟨k,i*1+0,none⟩).run C.P w=.ok (vs i) w:=by
        have h6:=h4 i 0 (vs i) cu (by simp[(GM.oneCell hc.1.1.2).1]);have:=aV _ _ h6;rw[rp] at this;have Bj:e.size=1:=by cases e<;>simp_all [Ty.size,Ty.one]
        rw[hc.1.1.1] at ha;rw[Bj] at this;simp only[jo,lU,Nat.mul_one] at this;simp[loadVar,sf ha,run_load,this]
   refine .dat (sR ho fb uy) ?_;simp only[PE.ev,h1,D.l_list,rL,D.i_int,tl];rw[qn hy];exact GM
  ·cases hr
 ·simp only[au] at hr;obtain⟨p,hp,hr⟩:=hr;have aR:=bW h hC hg hp;split at hr
  ·rename_i ty e1;rw[e1] at aR;cases hc:(Nat.beq inf.size ty.size&&(ag==ty.rowT))<;>simp only[hc,cond_true,cond_false] at hr
   ·cases hr
   cases hr;simp only[aq] at hc;exact amQ h hi ha ho aR hc.1 hc.2
  ·cases hr
end
end Cx
namespace Cx
open Go Go.RowKit
section
variable {C:Ctx} {S:St} {ρ:Env} {σ:Im} {own:Nat→Option Nat} {hv:Nat→Value} {w0:World} {σ0:Base} {A:Nat→Prop} {a:Act} {w:World} {gs:List (Nat×Bool)} {Φ:aJ} {dst:Nat}
theorem sS (h:Inv C S ρ σ own hv w0 σ0 A a w)(hg:holds gs ρ=true)(x:Operand):aF C S ρ σ hv (gD S gs x) (a.eval x) ((sM x).ev ρ)∧∀bI s,gD S gs x≠.opt bI s:=by
 cases x with
 |tmp t=>exact mC h hg t
 |_=>exact⟨trivial,fun _ _ e=>by cases e⟩
theorem Ux {P:Program}{T:TypeId}{i:Nat}{f:Field}(h:AQ P T i=some f):∃fs,P.underlying T=some (.struct fs)∧fs[i]?=some f:=by
 unfold AQ at h;split at h
 ·rename_i fs hu;exact⟨fs,hu,h⟩
 ·cases h
theorem P3 {o:Oper}{T:TypeId}{x:Operand}{i:Nat}{f:Field}{inf:TypeInfo}{k off:Nat}(ho:o.op=.fieldAddr T x i)(hf:AQ C.P T i=some f)(hi:C.P.info? f.type=some inf)(hn:Nat.beq inf.size 0=false)
 (hx:a.eval x=.pointer (some ⟨k,off,none⟩)):(execOp a.eval o).run C.P w=.ok (.value (.pointer (some ⟨k,off+f.offset,none⟩))) w:=by
 obtain⟨fs,hu,qu⟩:=Ux hf;have jZ:inf.size≠0:=by intro e;simp[e] at hn
 simp[execOp,ho,Instr.fieldAt,run_underlying hu,qu,hx,Instr.sureAddr,fieldPlace,Go.sizeOf,run_typeInfo w hi,jZ,rp]
theorem amK (h:Inv C S ρ σ own hv w0 σ0 A a w)(hC:CtxOK C σ0)(hg:holds gs ρ=true){T:TypeId}{x:Operand}{i:Nat}{r:Sh×List PI}(hr:Oe C S gs dst T x i=some r){o:Oper}(ho:o.op=.fieldAddr T x i):
 dF C S ρ σ hv Φ dst a w o r:=by
 simp only[Oe,au] at hr;obtain⟨f,hf,hr⟩:=hr;obtain⟨dQ,eB⟩:=sS h hg x;split at hr
 case h_2=>cases hr
 rename_i inf ag hi ha;cases hn:Nat.beq inf.size 0<;>simp only[hn,cond_true,cond_false] at hr
 case true=>cases hr
 split at hr
 ·rename_i j ver size off es;cases hb:Nat.beq ver (S.ver j)<;>simp only[hb,cond_true,cond_false] at hr
  ·cases hr
  cases hr;rw[es] at dQ;intro ρ' aj;obtain⟨k,n,c,ik,idx,dS,rL,cu,fb⟩:=dQ.2 (aw hb);exact⟨_,_,vF aj,P3 ho hf hi hn fb,⟨dQ.1,fun _=>⟨k,n,c,ik,idx,dS,rL,cu,by rw[tp]⟩⟩,fun _ _ e=>by cases e⟩
 ·split at hr
  ·rename_i ts e hu;have aR:=bW h hC hg hu;simp only[ax] at hr;obtain⟨ty,aT,rfl⟩:=hr;obtain⟨k,off,v,y,aQ,bh,bF,il⟩:=Rep.ref_inv aR;obtain⟨vs,ds,rfl,rfl,l1,l2,aP,df⟩:=bF.agg_inv;obtain⟨oJ,hlen,j0⟩:=HF aT l1 l2 aP df;refine .dat (P3 ho hf hi hn aQ) ?_;have hde:(PE.deref e).ev ρ=.agg ds:=by simp only[PE.ev,bh,D.deref]
   simp only[PE.ev];rw[HE hde];refine .ref ty k (off+f.offset) _ _ oJ (fun j u hu=>?_);have jA:((vs.drop f.offset).take inf.size)[j]?=some u:=by
        cases ag with
        |true=>simpa [rowOf,Value.cells] using hu
        |false=>
         have:=j0 rfl;rw[this] at hlen ⊢;obtain⟨q,hq⟩:∃q,(vs.drop f.offset).take 1=[q]:=by
          match(vs.drop f.offset).take 1,hlen with
          |[q],_=>exact⟨q,rfl⟩
         rw[this] at oJ hu;rw[hq] at oJ hu ⊢;simp only[rowOf,rh] at oJ hu;have rU:ty.rowT=false:=by
          unfold sD at aT;cases hle:Nat.ble (f.offset+inf.size) ts.length<;>simp only[hle,cond_true,cond_false] at aT
          ·cases aT
          ·cases hb:Nat.beq inf.size 1<;>simp only[hb,cond_true,cond_false] at aT
           ·cases aT
           ·have:=df _ _ aT;cases ty<;>simp_all [Ty.one,Ty.rowT]
         rw[oJ.cells1 rU] at hu;simpa using hu
   simp only[fV,gn] at jA;split at jA
   ·have:=il (f.offset+j) u (by simpa [Value.cells] using jA)
    rwa [←tp] at this
   ·cases jA
  ·split at hr
   ·rename_i j ver off es;cases hb:Nat.beq ver (S.ver j)<;>simp only[hb,cond_true,cond_false] at hr
    ·cases hr
    cases hr;rw[es] at dQ;intro ρ' aj;obtain⟨k,dS,fb⟩:=dQ.2 (aw hb);exact⟨_,_,vF aj,P3 ho hf hi hn fb,⟨dQ.1,fun _=>⟨k,dS,rfl⟩⟩,fun _ _ e=>by cases e⟩
   ·cases hr
theorem amL (h:Inv C S ρ σ own hv w0 σ0 A a w)(hC:CtxOK C σ0)(hg:holds gs ρ=true){T:TypeId}{x:Operand}{i:Nat}{r:Sh×List PI}(hr:Od C S gs dst T x i=some r){o:Oper}(ho:o.op=.field T x i):
 dF C S ρ σ hv Φ dst a w o r:=by
 simp only[Od,au] at hr;obtain⟨f,hf,hr⟩:=hr;split at hr
 case h_2=>cases hr
 rename_i inf ag hi ha;split at hr
 case h_2=>cases hr
 rename_i ts e hu;have aR:=bW h hC hg hu;simp only[ax] at hr;obtain⟨ty,aT,rfl⟩:=hr;obtain⟨vs,ds,aQ,bh,l1,l2,aP,df⟩:=Rep.agg_inv aR;obtain⟨oJ,hlen,j0⟩:=HF aT l1 l2 aP df;obtain⟨fs,jA,qu⟩:=Ux hf;have hle:f.offset+inf.size≤ts.length:=by
  unfold sD at aT;cases hle:Nat.ble (f.offset+inf.size) ts.length<;>simp only[hle,cond_true,cond_false] at aT
  ·cases aT
  ·exact jQ hle
 refine .dat (v:=rowOf ag ((vs.drop f.offset).take inf.size)) ?_ (by rw[HE bh];exact oJ);cases ag with
 |true=>
  simp only[execOp,ho,Instr.field,aQ,asAgg,part];simp[run_underlying jA,qu,sf ha,Go.sizeOf,run_typeInfo w hi,rowOf]
 |false=>
  have hn:=j0 rfl;have af:f.offset<vs.length:=by omega
  simp only[execOp,ho,Instr.field,aQ,asAgg,part];simp[run_underlying jA,qu,sf ha,rowOf,hn,aZ af,aI,fV,gn]
theorem aaK {o:Oper}{T e:TypeId}{x i:Operand}{inf:TypeInfo}{k off n c idx:Nat}{ik:IntKind}(ho:o.op=.indexAddr T x i)(hT:C.P.underlying T=some (.slice e))(hi:C.P.info? e=some inf)
 (hx:a.eval x=.slice (some ⟨k,off,none⟩) n c) (ahS:a.eval i=.int ik idx) (af:idx<n):(execOp a.eval o).run C.P w=.ok (.value (.pointer (some ⟨k,off+idx*inf.size,none⟩))) w:=by
 simp[execOp,ho,Instr.indexAt,run_underlying hT,hx,ahS,asIntOf,af,Go.sizeOf,run_typeInfo w hi,rp]
theorem IU {P:Program}{T:TypeId}{t:Ty}(h:pz P T t=true):∃inf,P.info? T=some inf∧inf.size=t.size:=by
 unfold pz at h;split at h
 ·rename_i i hi;exact⟨i,hi,aw h⟩
 ·cases h
theorem amN (h:Inv C S ρ σ own hv w0 σ0 A a w)(hC:CtxOK C σ0)(hg:holds gs ρ=true){T:TypeId}{x i:Operand}{r:Sh×List PI}(hr:Oh C S gs dst T x i=some r){o:Oper}(ho:o.op=.indexAddr T x i):
 dF C S ρ σ hv Φ dst a w o r:=by
 unfold Oh at hr;split at hr
 case h_2=>cases hr
 rename_i e hT;simp only[au] at hr;obtain⟨p,hp,hr⟩:=hr;have aR:=bW h hC hg hp;split at hr
 case h_2=>cases hr
 rename_i ik e1;rw[e1] at aR;obtain⟨idx,aQ,bh,b1,b2⟩:=aR.int_inv;split at hr
 ·rename_i t pe hu;have cR:=bW h hC hg hu;cases aL:pz C.P e t<;>simp only[aL,cond_true,cond_false] at hr
  ·cases hr
  cases hr;obtain⟨inf,hi,hs⟩:=IU aL;obtain⟨xs,hd,rJ⟩:=Rep.slice_inv cR;refine .datc hg fun hc=>?_;simp only[PE.ev,hd,bh,D.l_list,D.i_int,D.b_bool,decide_eq_true_eq] at hc;rcases rJ with⟨_,rfl⟩|⟨k,off,c,rZ,h1,h2,vs,h3,h4⟩
  ·simp at hc;omega
  ·obtain⟨m,rfl⟩:=mL hc.1;have af:m<xs.length:=by omega
   refine⟨_,aaK ho hT hi rZ aQ af,?_⟩;obtain⟨y,hy⟩:∃y,xs[m]?=some y:=⟨_,aZ af⟩
   simp only[PE.ev,hd,bh,D.l_list,D.i_int,tl,qn hy];exact .ref t.unf k _ (vs m) y (h3 m y hy) (fun j u hu=>by rw[hs];exact h4 m j u af hu)
 ·cases hr
 ·obtain⟨dQ,eB⟩:=sS h hg x;split at hr
  ·rename_i j ver es;rw[es] at dQ;cases hb:Nat.beq ver (S.ver j)<;>simp only[hb,cond_true,cond_false] at hr
   ·cases hr
   have dp:=aw hb;have aW:=h.objs j;have bY:=dQ.2 dp;split at hr
   ·rename_i T' t eo;rw[eo] at aW;cases aL:pz C.P e t<;>simp only[aL,cond_true,cond_false] at hr
    ·cases hr
    cases hr;obtain⟨inf,hi,hs⟩:=IU aL;obtain⟨cells,xs,h1,h2,⟨vs,h3,h4⟩,h5⟩:=aW;intro ρ' aj;obtain⟨hc,hρ⟩:=P4 hg aj;simp only[PE.ev,h1,bh,D.l_list,D.i_int,D.b_bool,decide_eq_true_eq] at hc;obtain⟨m,rfl⟩:=mL hc.1;have af:m<xs.length:=by omega
    rcases h2.2 with⟨_,e0⟩|⟨g,cap,cur,dS,_⟩
    ·omega
    ·refine⟨_,_,hρ,aaK ho hT hi (bY.trans dS) aQ af,⟨by omega,fun _=>⟨g,xs.length,cap,ik,m,dS,bh,af,?_⟩⟩,fun _ _ e=>by cases e⟩;rw[hs];simp
   ·cases hr
  ·cases hr
theorem amO (h:Inv C S ρ σ own hv w0 σ0 A a w)(hC:CtxOK C σ0)(hg:holds gs ρ=true){T:TypeId}{x i:Operand}{r:Sh×List PI}(hr:Og C S gs dst T x i=some r){o:Oper}(ho:o.op=.index T x i):
 dF C S ρ σ hv Φ dst a w o r:=by
 unfold Og at hr;split at hr
 case h_2=>cases hr
 rename_i hT;simp only[au] at hr;obtain⟨p,hp,q,hq,hr⟩:=hr;have aR:=bW h hC hg hp;have dg:=bW h hC hg hq;split at hr
 case h_2=>cases hr
 rename_i ik e1 e2;rw[e1] at aR;rw[e2] at dg;obtain⟨idx,aQ,bh,b1,b2⟩:=aR.int_inv;obtain⟨s,gh,dG,_⟩:=dg.str_inv;cases hr;refine .datc hg fun hc=>?_;simp only[PE.ev,dG,bh,D.s_str,D.i_int,D.b_bool,decide_eq_true_eq] at hc;obtain⟨m,rfl⟩:=mL hc.1;have af:m<s.size:=by omega
 refine⟨.int .u8 (s.data.getD m 0).toNat,?_,?_⟩
 ·have:s[m]?=some (s.data.getD m 0):=by
   rw[getElem?_pos s m af];simp[ByteArray.getElem_eq_getElem_data,eY,iM (show m<s.data.size from af)]
  simp[execOp,ho,Instr.index,run_underlying hT,aQ,gh,asIntOf,this]
 ·simp only[PE.ev,dG,bh,D.s_str,D.i_int,tl];refine .int _ _ ?_ ?_
  ·simp only[IntKind.min,IntKind.signed];simp
  ·simp only[IntKind.max,IntKind.signed,IntKind.bits];have:=UInt8.toNat_lt (s.data.getD m 0);simp at this ⊢;omega
end
end Cx
namespace Cx
open Go Go.RowKit
section
variable {C:Ctx} {S:St} {ρ:Env} {σ:Im} {own:Nat→Option Nat} {hv:Nat→Value} {w0:World} {σ0:Base} {A:Nat→Prop} {a:Act} {w:World} {gs:List (Nat×Bool)} {Φ:aJ} {dst:Nat}
theorem arE (h:Inv C S ρ σ own hv w0 σ0 A a w)(hC:CtxOK C σ0)(hg:holds gs ρ=true){lo:Option Operand}{l:Ty×PE}{k:IntKind}(hl:Sr C S gs lo=some l)(hk:l.1=.int k):
 ∃n,l.2.ev ρ=.v (.int k n)∧((lo=none∧n=0)∨∃x,lo=some x∧a.eval x=.int k n):=by
 cases lo with
 |none=>simp[Sr] at hl;subst hl;simp at hk;subst hk;exact⟨0,rfl,.inl ⟨rfl,rfl⟩⟩
 |some x=>
  have:=bW h hC hg hl;rw[hk] at this;obtain⟨n,h1,h2,_⟩:=this.int_inv;exact⟨n,h2,.inr ⟨x,rfl,h1⟩⟩
theorem arD (h:Inv C S ρ σ own hv w0 σ0 A a w)(hC:CtxOK C σ0)(hg:holds gs ρ=true){e:PE}{hi:Option Operand}{l:Ty×PE}{k:IntKind}(hl:Sq C S gs e hi=some l)(hk:l.1=.int k):
 ∃n,l.2.ev ρ=.v (.int k n)∧((hi=none∧n=(e.ev ρ).l.length)∨∃x,hi=some x∧a.eval x=.int k n):=by
 cases hi with
 |none=>simp[Sq] at hl;subst hl;simp at hk;subst hk;exact⟨_,rfl,.inl ⟨rfl,rfl⟩⟩
 |some x=>
  have:=bW h hC hg hl;rw[hk] at this;obtain⟨n,h1,h2,_⟩:=this.int_inv;exact⟨n,h2,.inr ⟨x,rfl,h1⟩⟩
theorem run_sliceBound {P:Program}{x:Value}{y i:Nat}{k:IntKind}{code:BoundsCode}{w:World}(hx:x=.int k i)(h:i≤y):(Instr.sliceBound x y code).run P w=.ok i w:=by
 subst hx;simp[Instr.sliceBound,asIntOf,h]
theorem amV (h:Inv C S ρ σ own hv w0 σ0 A a w)(hC:CtxOK C σ0)(hg:holds gs ρ=true){T:TypeId}{x:Operand}{lo hi mx:Option Operand}{r:Sh×List PI}(hr:On C S gs dst T x lo hi mx=some r){o:Oper}(ho:o.op=.slice T x lo hi mx):
 dF C S ρ σ hv Φ dst a w o r:=by
 unfold On at hr;split at hr
 case h_3=>cases hr
 case h_2=>
  rename_i n e hT;split at hr
  case h_2=>cases hr
  simp only[au] at hr;obtain⟨p,hp,hr⟩:=hr;have aR:=bW h hC hg hp;split at hr
  case h_2=>cases hr
  rename_i t ts e1;cases hc:(Nat.beq n (ts.length+1)&&ts.all (Ty.beq t)&&t.one&&pz C.P e t&&Nat.ble n maxLen)<;>simp only[hc,cond_true,cond_false] at hr
  ·cases hr
  cases hr;simp only[aq] at hc;obtain⟨⟨⟨⟨c1,c2⟩,c3⟩,c4⟩,c5⟩:=hc;have hn:=aw c1;have hm:=jQ c5;obtain⟨inf,l6,hs⟩:=IU c4;rw[e1] at aR;obtain⟨k,off,x0,y,rZ,hd,hr0,il⟩:=aR.ref_inv;obtain⟨vs,ds,rfl,rfl,l1,l2,fe,_⟩:=hr0.agg_inv
  have aP:∀(i:Nat),i<n→(t::ts)[i]?=some t:=fun i hi=>by
   cases i with
   |zero=>rfl
   |succ i=>
    have af:i<ts.length:=by omega
    rw[SR,aZ af];rw[Ty.beq_eq _ _ (db.1 c2 _ (cr af))]
  have LP:vs.length=n:=by rw[l1,hn];rfl
  have VF:ds.length=n:=by rw[l2,hn];rfl
  have df:t.size=1:=by cases t<;>simp_all [Ty.one,Ty.size]
  refine dF.dat (v:=.slice (some ⟨k,off,none⟩) n n) ?_ ?_
  ·have:Addr.add ⟨k,off,none⟩ 0=⟨k,off,none⟩:=by simp[Addr.add]
   simp[execOp,ho,Instr.sliceAt,run_underlying hT,rZ,Instr.sureAddr,Instr.sliceBounds,Go.sizeOf,run_typeInfo w l6,this]
  ·have ah8:(PE.lst ((List.range n).map fun i=>.cell (.deref p.2) i)).ev ρ=.list ds:=by
        simp only[PE.ev]
        congr 1
        have bK:∀l:List PE,PE.evs ρ l=l.map fun e=>e.ev ρ:=fun l=>by induction l with|nil=>rfl|cons e l ih=>simp[PE.evs,ih]
        rw[bK,wj];apply DT;intro i;rw[cf];by_cases hi:i<n
        ·rw[nU hi,aZ (by omega)];simp only[jq,Function.comp,PE.ev,hd,D.deref,D.c,D.cells];rw[aI,aZ (by omega)];rfl
        ·rw[kU (by simp;omega),kU (by omega)];rfl
   rw[ah8];refine .slice t k off n n ds (fun i=>vs.getD i undef) VF (aU _) hm (fun i x hx=>?_) (fun i j u hi hu=>?_)
   ·have af:i<n:=by rw[←VF];exact(dX.1 hx).1
    have:=fe i t (aP i af);rw[qn hx] at this;exact this.unf
   ·have h1:=(fe i t (aP i hi)).oneCell c3;rw[h1.1] at hu;cases j with
    |zero=>
     simp at hu;have:=il i (vs.getD i undef) (by
      simp only[Value.cells];rw[DX,aZ (by omega),aI,aZ (by omega)];rfl)
     rw[df,←hu];simpa using this
    |succ j=>simp at hu
 rename_i e hT;simp only[au] at hr;obtain⟨p,hp,hr⟩:=hr;have aR:=bW h hC hg hp;split at hr
 case h_2=>cases hr
 rename_i t e1;rw[e1] at aR;simp only[au] at hr;obtain⟨l,hl,u,hu,hr⟩:=hr;split at hr
 case h_2=>cases hr
 rename_i k1 k2 e2 e3;cases aL:pz C.P e t<;>simp only[aL,cond_true,cond_false] at hr
 ·cases hr
 cases hr;obtain⟨inf,l6,hs⟩:=IU aL;obtain⟨n1,bh,ux⟩:=arE h hC hg hl e2;obtain⟨n2,dG,LK⟩:=arD h hC hg hu e3;obtain⟨xs,hd,rJ⟩:=Rep.slice_inv aR;refine .datc hg fun hc=>?_;simp only[PE.ev,hd,bh,dG,D.l_list,D.i_int,D.b_bool,decide_eq_true_eq] at hc;obtain⟨m1,rfl⟩:=mL hc.1;obtain⟨m2,rfl⟩:=mL (show 0≤n2 by omega);have A2:m1≤m2:=by omega
 have h2l:m2≤xs.length:=by omega
 have Vj:∀c,xs.length≤c→(Instr.sliceBounds true xs.length c (lo.map a.eval) (hi.map a.eval) none).run C.P w=.ok (m1,m2,c) w:=by
  intro c gw
  have hh:∀code,(match hi.map a.eval with|some v=>Instr.sliceBound v c code|none=>(pure xs.length:Sem Nat)).run C.P w=.ok m2 w:=by
   intro code;rcases LK with⟨rfl,e⟩|⟨y,rfl,e⟩
   ·rw[hd,D.l_list] at e;simp;omega
   ·simp only[jq];exact run_sliceBound e (by omega)
  have LO:∀code,(match lo.map a.eval with|some v=>Instr.sliceBound v m2 code|none=>(pure 0:Sem Nat)).run C.P w=.ok m1 w:=by
   intro code;rcases ux with⟨rfl,e⟩|⟨y,rfl,e⟩
   ·simp;omega
   ·simp only[jq];exact run_sliceBound e A2
  have Vz:=hh .sliceAcap;have VH:=LO .sliceB;unfold Instr.sliceBounds;cases hi<;>cases lo<;>simp at Vz VH ⊢<;>simp[Vz,VH]
 rcases rJ with⟨⟨p0,rZ⟩,rfl⟩|⟨k,off,c,rZ,h1,h2,vs,h3,h4⟩
 ·have:m2=0:=by simpa using h2l
  have:m1=0:=by omega
  subst_vars
  refine⟨.slice p0 0 0,?_,?_⟩
  ·have hb:=Vj 0 (aU _);simp only[wh] at hb;cases p0 with
   |none=>simp[execOp,ho,Instr.sliceAt,Instr.slice,run_underlying hT,rZ,hb,Go.sizeOf,run_typeInfo w l6]
   |some a0=>simp[execOp,ho,Instr.sliceAt,Instr.slice,run_underlying hT,rZ,hb,Go.sizeOf,run_typeInfo w l6]
  ·simp only[PE.ev,hd,bh,dG,D.l_list,D.i_int];cases p0 with
   |none=>exact .nil t
   |some a0=>exact .emp t a0
 ·refine⟨.slice (some (if c=m1 then⟨k,off,none⟩ else⟨k,off+m1*inf.size,none⟩)) (m2-m1) (c-m1),?_,?_⟩
  ·have hb:=Vj c h1;simp only[execOp,ho,Option.map_none,Instr.sliceAt,run_underlying hT,rZ];simp[run_underlying hT,Instr.slice,hb,Go.sizeOf,run_typeInfo w l6,rp];split<;>simp
  ·simp only[PE.ev,hd,bh,dG,D.l_list,D.i_int,tl];have hlen:((xs.take m2).drop m1).length=m2-m1:=by simp;omega
   have fe:∀(i:Nat) (y:D),((xs.take m2).drop m1)[i]?=some y→xs[m1+i]?=some y:=by
        intro i y hy;simp only[gn,fV] at hy;split at hy
        ·exact hy
        ·cases hy
   have il:∀(i j:Nat) (v:Value),i<m2-m1→(vs (m1+i)).cells[j]?=some v→σ.c k (off+m1*inf.size+i*t.size+j)=some v:=by
        intro i j v hi hj;have:=h4 (m1+i) j v (by omega) hj;rw[mN] at this;rw[hs]
        rwa [←tp] at this
   split
   ·rename_i lg;refine .slice t k off (m2-m1) (c-m1) _ (fun i=>vs (m1+i)) hlen (by omega) (by omega) (fun i y hy=>h3 _ _ (fe i y hy)) (fun i j v hi hj=>by omega)
   ·exact .slice t k (off+m1*inf.size) (m2-m1) (c-m1) _ (fun i=>vs (m1+i)) hlen (by omega) (by omega) (fun i y hy=>h3 _ _ (fe i y hy)) il
theorem abk (h:Inv C S ρ σ own hv w0 σ0 A a w)(hC:CtxOK C σ0)(hg:holds gs ρ=true):∀(xs:List Operand) (r:List Ty×List PE),nQ C S gs xs=some r→
 r.1.length=xs.length∧r.2.length=xs.length∧∀(i:Nat) (t:Ty),r.1[i]?=some t→Rep C.cap σ t ((xs.map a.eval).getD i undef) ((PE.evs ρ r.2).getD i .none):=by
 intro xs
 induction xs with
 |nil=>intro r hr;simp[nQ] at hr;subst hr;exact⟨rfl,rfl,by simp⟩
 |cons x xs ih=>
  intro r hr;simp only[nQ,au,ax] at hr;obtain⟨p,hp,q,hq,rfl⟩:=hr;obtain⟨l1,l2,aP⟩:=ih q hq;refine⟨by simp[l1],by simp[l2],fun i t hi=>?_⟩;cases i with
  |zero=>simp at hi;subst hi;simpa [PE.evs] using bW h hC hg hp
  |succ i=>simp at hi;simpa [PE.evs] using aP i t hi
theorem amM (h:Inv C S ρ σ own hv w0 σ0 A a w)(hC:CtxOK C σ0)(hg:holds gs ρ=true){fn:Fn}{first caps:Array Operand}{r:Sh×List PI}(hr:Of C S gs dst fn first caps=some r){o:Oper}(ho:o.op=.makeFunc fn first caps):
 dF C S ρ σ hv Φ dst a w o r:=by
 unfold Of at hr;split at hr
 case h_2=>cases hr
 rename_i f Bm;have LB:first=#[]:=by simpa using Bm
 subst LB;simp only[au] at hr;obtain⟨cs,cY,p,hp,hr⟩:=hr;cases hb:Ty.subs p.1 cs.caps<;>simp only[hb,cond_true,cond_false] at hr
 ·cases hr
 cases hr;obtain⟨l1,l2,aP⟩:=abk h hC hg _ _ hp;have hl:=Ty.subs_len _ _ hb;refine .dat (v:=.func (.func f) #[] (caps.map a.eval)) ?_ ?_
 ·simp[execOp,ho,Instr.makeFunc]
 ·simp only[PE.ev];have:caps.map a.eval=(caps.toList.map a.eval).toArray:=by apply tg;rw[vV]
  rw[this];have e1:(caps.toList.map a.eval).length=cs.caps.length:=by rw[dM];omega
  have e2:(PE.evs ρ p.2).length=cs.caps.length:=by rw[PE.evs_eq,dM];omega
  refine .fn f cs _ _ cY e1 e2 (fun i t hi=>?_);obtain⟨s,hs,cQ⟩:=Ty.subs_get _ _ hb i t hi;exact(aP i s hs).sub cQ
theorem amS (h:Inv C S ρ σ own hv w0 σ0 A a w)(hC:CtxOK C σ0)(hg:holds gs ρ=true){x:Operand}{r:Sh×List PI}(hr:Ol C S gs dst x=some r){o:Oper}(ho:o.op=.nilCheck x):
 dF C S ρ σ hv Φ dst a w o r:=by
 have aj:∀k off,a.eval x=.pointer (some ⟨k,off,none⟩)→(execOp a.eval o).run C.P w=.ok (.value (a.eval x)) w:=by
  intro k off e;simp[execOp,ho,e]
 unfold Ol at hr;split at hr
 ·rename_i t e hu;cases hr;have aR:=bW h hC hg hu;obtain⟨k,off,v,y,aQ,bh,bF,il⟩:=Rep.ref_inv aR;exact .dat (aj k off aQ) aR
 ·split at hr
  ·rename_i t _;obtain⟨hs,eB⟩:=mC h hg t;split at hr
   ·rename_i j ver off es;rw[es] at hs;cases hb:Nat.beq ver (S.ver j)<;>simp only[hb,cond_true,cond_false] at hr
    ·cases hr
    cases hr;obtain⟨k,dS,fb⟩:=hs.2 (aw hb);intro ρ' uB;exact⟨_,_,vF uB,aj k off fb,hs,fun _ _ e=>by cases e⟩
   ·rename_i j ver sz off es;rw[es] at hs;cases hb:Nat.beq ver (S.ver j)<;>simp only[hb,cond_true,cond_false] at hr
    ·cases hr
    cases hr;have dP:=hs;obtain⟨k,n,c,ik,i,dS,rL,cu,fb⟩:=hs.2 (aw hb);intro ρ' uB;exact⟨_,_,vF uB,aj _ _ fb,dP,fun _ _ e=>by cases e⟩
   ·cases hr
  ·cases hr
theorem abo {cap:Nat→Option CSig}{t:Ty}{z:Ty×D}{v:Value}(h:nR t=some z)(hz:vT t v=true):Rep cap σ z.1 v z.2∧z.1.one=true∧Ty.sub z.1 t=true:=by
 unfold vT at hz;split at hz
 ·simp at hz;obtain⟨rfl,rfl⟩:=hz;simp[nR] at h;subst h;exact⟨.int _ 0 (by rename_i k;cases k<;>decide) (by rename_i k;cases k<;>decide),rfl,by simp[Ty.sub,Ty.beq]⟩
 ·simp at hz;subst hz;simp[nR] at h;subst h;exact⟨.bool false,rfl,rfl⟩
 ·rename_i s;have:s=ByteArray.empty:=by
   have:s.size=0:=by simpa using hz
   cases s with|mk d=>simp[ByteArray.size] at this;subst this;rfl
  subst this;simp[nR] at h;subst h;exact⟨.str _ (by decide),rfl,rfl⟩
 ·simp[nR] at h;subst h;exact⟨.nils _,rfl,rfl⟩
 ·simp[nR] at h;subst h;refine⟨.mapnil _ _,rfl,?_⟩;simp only[Ty.sub];exact Ty.beq_refl _
 ·simp[nR] at h;subst h;exact⟨.fnnil _ _,rfl,by simp only[Ty.sub];exact Ty.beq_refl _⟩
 ·cases hz
end
end Cx
namespace Cx
open Go Go.RowKit
theorem mapM_some {α β:Type}(f:α→Option β):∀(l:List α) (r:List β),l.mapM f=some r→r.length=l.length∧∀(i:Nat) (x:α),l[i]?=some x→∃y,r[i]?=some y∧f x=some y
 |[],r,h=>by simp at h;subst h;exact⟨rfl,by simp⟩
 |x::l,r,h=>by
  simp only[SX,Option.bind_eq_bind,au] at h;obtain⟨y,hy,ys,uL,h⟩:=h;cases h;obtain⟨h1,h2⟩:=mapM_some f l ys uL;refine⟨by simp[h1],fun i z hi=>?_⟩;cases i with
  |zero=>simp at hi;subst hi;exact⟨y,rfl,hy⟩
  |succ i=>simp at hi;simpa using h2 i z hi
theorem Sz:∀(ts:List Ty) (vs:List Value),zt ts vs=true→vs.length=ts.length∧∀(i:Nat) (t:Ty),ts[i]?=some t→∃v,vs[i]?=some v∧vT t v=true
 |[],vs,h=>by cases vs<;>simp_all [zt]
 |t::ts,vs,h=>by
  cases vs with
  |nil=>simp[zt] at h
  |cons v vs=>
   simp only[zt,aq] at h;obtain⟨h1,h2⟩:=Sz ts vs h.2;refine⟨by simp[h1],fun i u hi=>?_⟩;cases i with
   |zero=>simp at hi;subst hi;exact⟨v,rfl,h.1⟩
   |succ i=>simp at hi;simpa using h2 i u hi
theorem vU {cap:Nat→Option CSig}{σ:Im}{t:Ty}{z:Ty×D}{v:Value}(h:mG t=some z)(hz:gX t v=true):Rep cap σ z.1 v z.2∧Ty.sub z.1 t=true∧z.1.one=t.one:=by
 cases t with
 |agg ts=>
  simp only[mG,ax] at h;obtain⟨zs,qD,rfl⟩:=h;cases v with
  |agg vs=>
   simp only[gX] at hz;obtain⟨l1,h1⟩:=Sz ts vs.toList hz;obtain⟨l2,h2⟩:=mapM_some _ _ _ qD;have key:∀(i:Nat) (t:Ty),ts[i]?=some t→∃y v,zs[i]?=some y∧vs.toList[i]?=some v∧Rep cap σ y.1 v y.2∧y.1.one=true∧Ty.sub y.1 t=true:=by
      intro i t hi;obtain⟨y,hy,B4⟩:=h2 i t hi;obtain⟨v,hv,gh⟩:=h1 i t hi;obtain⟨g1,g2,g3⟩:=abo (cap:=cap) (σ:=σ) B4 gh;exact⟨y,v,hy,hv,g1,g2,g3⟩
   have cj:∀(ts:List Ty) (zs:List (Ty×D)),zs.length=ts.length→(∀(i:Nat) (t:Ty),ts[i]?=some t→∃y,zs[i]?=some y∧Ty.sub y.1 t=true)→Ty.subs (zs.map (·.1)) ts=true:=by
      intro ts
      induction ts with
      |nil=>intro zs hl _;cases zs<;>simp_all [Ty.subs]
      |cons t ts ih=>
       intro zs hl hh;cases zs with
       |nil=>simp at hl
       |cons z zs=>
        simp only[fo,Ty.subs,aq];refine⟨?_,ih zs (by simpa using hl) fun i u hu=>by simpa using hh (i+1) u (by simpa using hu)⟩;obtain⟨y,hy,B4⟩:=hh 0 t rfl;simp at hy;subst hy;exact B4
   refine⟨?_,?_,rfl⟩
   ·have:vs=vs.toList.toArray:=by simp
    rw[this];refine .agg _ _ _ (by rw[dM];omega) (by simp) (fun i t hi=>?_) (fun i t hi=>?_)
    ·simp only[cf,ax] at hi;obtain⟨q,hq,rfl⟩:=hi;obtain⟨t',Mu⟩:∃t',ts[i]?=some t':=⟨_,aZ (by have:=(dX.1 hq).1;omega)⟩
     obtain⟨y,v,hy,hv,g1,g2,g3⟩:=key i t' Mu;rw[hq] at hy;cases hy;rw[qn hv,qn (show(zs.map (·.2))[i]?=some q.2 by simp[hq])];exact g1
    ·simp only[cf,ax] at hi;obtain⟨q,hq,rfl⟩:=hi;obtain⟨t',Mu⟩:∃t',ts[i]?=some t':=⟨_,aZ (by have:=(dX.1 hq).1;omega)⟩
     obtain⟨y,v,hy,hv,g1,g2,g3⟩:=key i t' Mu;rw[hq] at hy;cases hy;exact g2
   ·simp only[Ty.sub];exact cj ts zs l2 fun i t hi=>by obtain⟨y,v,hy,hv,g1,g2,g3⟩:=key i t hi;exact⟨y,hy,g3⟩
  |_=>simp[gX] at hz
 |_=>
  obtain⟨g1,g2,g3⟩:=abo (cap:=cap) (σ:=σ) (by simpa [mG] using h) (by simpa [gX] using hz);exact⟨g1,g3,(Ty.sub_one _ _ g3).1⟩
theorem acI {a b:ByteArray}(h:(a==b)=true):a=b:=by
 cases a with|mk x=>cases b with|mk y=>
 have:(x==y)=true:=h;rw[eq_of_beq this]
theorem acJ (a:ByteArray):(a==a)=true:=by
 cases a with|mk x=>
 show(x==x)=true;simp
theorem MT {P:Program}{K:TypeId}{kt:Ty}(hk:nu P K kt=true):
 (∃k k',kt=.int k∧P.underlying K=some (.int k'))∨(kt=.str∧P.underlying K=some .string)∨(kt=.bool∧P.underlying K=some .bool):=by
 unfold nu at hk;split at hk
 ·split at hk
  ·exact .inl ⟨_,_,rfl,by assumption⟩
  ·cases hk
 ·split at hk
  ·exact .inr (.inl ⟨rfl,by assumption⟩)
  ·cases hk
 ·split at hk
  ·exact .inr (.inr ⟨rfl,by assumption⟩)
  ·cases hk
 ·cases hk
theorem afk {cap:Nat→Option CSig}{σ:Im}{P:Program}{K:TypeId}{kt:Ty}{desc:TypeDesc}(hk:nu P K kt=true)(hu:P.underlying K=some desc){v:Value}{d:D}(hv:Rep cap σ kt v d):
 ∀(es:List MapEntry) (ds:List (D×D)) (i:Nat),ds.length=es.length→(∀(j:Nat) (e:MapEntry) (p:D×D),es[j]?=some e→ds[j]?=some p→Rep cap σ kt e.key p.1)→
  (Instr.findNow desc v es i=some none∧∀(j:Nat) (p:D×D),ds[j]?=some p→dJ d p.1=false)∨
  ∃j e p,es[j]?=some e∧ds[j]?=some p∧Instr.findNow desc v es i=some (some (i+j,e.val))∧dJ d p.1=true∧Instr.sameBits 10000 e.key v=true∧∀m q,m<j→ds[m]?=some q→dJ d q.1=false:=by
 have df:∀(v':Value) (d':D),Rep cap σ kt v' d'→Instr.sameNow desc v v'=some (dJ d d')∧(dJ d d'=true→Instr.sameBits 10000 v' v=true):=by
  intro v' d' h';rcases MT hk with⟨k,k',rfl,jA⟩|⟨rfl,jA⟩|⟨rfl,jA⟩
  ·rw[hu] at jA;cases jA;obtain⟨n,rfl,rfl,_⟩:=hv.int_inv;obtain⟨m,rfl,rfl,_⟩:=h'.int_inv;refine⟨by simp[Instr.sameNow,dJ,D.cells,oS,qF],fun e=>?_⟩;have:n=m:=by simpa [dJ,D.cells,oS,qF] using e
   subst this;simp[Instr.sameBits]
  ·rw[hu] at jA;cases jA;obtain⟨n,rfl,rfl,_⟩:=hv.str_inv;obtain⟨m,rfl,rfl,_⟩:=h'.str_inv;refine⟨by simp[Instr.sameNow,dJ,D.cells,oS,qF],fun e=>?_⟩;have:n=m:=acI (by simpa [dJ,D.cells,oS,qF] using e);subst this;simpa [Instr.sameBits] using acJ n
  ·rw[hu] at jA;cases jA;obtain⟨n,rfl,rfl⟩:=hv.bool_inv;obtain⟨m,rfl,rfl⟩:=h'.bool_inv;refine⟨by simp[Instr.sameNow,dJ,D.cells,oS,qF],fun e=>?_⟩;have:n=m:=by simpa [dJ,D.cells,oS,qF] using e
   subst this;simp[Instr.sameBits]
 intro es
 induction es with
 |nil=>intro ds i hl _;left;exact⟨rfl,by cases ds<;>simp_all⟩
 |cons e es ih=>
  intro ds i hl aP;cases ds with
  |nil=>simp at hl
  |cons p ds=>
   obtain⟨hs,hb⟩:=df e.key p.1 (aP 0 e p rfl rfl);cases lq:dJ d p.1 with
   |true=>
    right;rw[lq] at hs;exact⟨0,e,p,rfl,rfl,by simp[Instr.findNow,hs],lq,hb lq,fun m q hm=>by omega⟩
   |false=>
    rw[lq] at hs;rcases ih ds (i+1) (by simpa using hl) (fun j e' p' he hp=>aP (j+1) e' p' (by simpa using he) (by simpa using hp)) with⟨h1,h2⟩|⟨j,e',p',h1,h2,h3,h4,h5,h6⟩
    ·left;refine⟨by simp[Instr.findNow,hs,h1],fun j q hq=>?_⟩;cases j with
     |zero=>simp at hq;subst hq;exact lq
     |succ j=>exact h2 j q (by simpa using hq)
    ·right;refine⟨j+1,e',p',by simpa using h1,by simpa using h2,?_,h4,h5,fun m q hm hq=>?_⟩
     ·simp[Instr.findNow,hs,h3];omega
     ·cases m with
      |zero=>simp at hq;subst hq;exact lq
      |succ m=>exact h6 m q (by omega) (by simpa using hq)
theorem Ng {d:D}:∀{ds:List (D×D)},(∀(j:Nat) (p:D×D),ds[j]?=some p→dJ d p.1=false)→gk d ds=none
 |[],_=>rfl
 |p::ds,h=>by simp only[gk,h 0 p rfl];exact Ng fun j q hq=>h (j+1) q (by simpa using hq)
theorem Nh {d:D}:∀{ds:List (D×D)} {j:Nat} {p:D×D},ds[j]?=some p→dJ d p.1=true→(∀(m:Nat) (q:D×D),m<j→ds[m]?=some q→dJ d q.1=false)→gk d ds=some p.2
 |[],j,p,hp,_,_=>by simp at hp
 |x::ds,0,p,hp,hk,_=>by simp at hp;subst hp;simp[gk,hk]
 |x::ds,j+1,p,hp,hk,hm=>by
  simp only[gk,hm 0 x (by omega) rfl];exact Nh (j:=j) (by simpa using hp) hk fun m q af hq=>hm (m+1) q (by omega) (by simpa using hq)
theorem OG {d v:D}:∀{ds:List (D×D)},(∀(j:Nat) (p:D×D),ds[j]?=some p→dJ d p.1=false)→ef d v ds=ds++[(d,v)]
 |[],_=>rfl
 |p::ds,h=>by simp only[ef,h 0 p rfl,vX,if_false,DS];rw[OG fun j q hq=>h (j+1) q (by simpa using hq)]
theorem OH {d v:D}:∀{ds:List (D×D)} {j:Nat} {p:D×D},ds[j]?=some p→dJ d p.1=true→(∀(m:Nat) (q:D×D),m<j→ds[m]?=some q→dJ d q.1=false)→ef d v ds=ds.set j (d,v)
 |[],j,p,hp,_,_=>by simp at hp
 |x::ds,0,p,hp,hk,_=>by simp at hp;subst hp;simp[ef,hk]
 |x::ds,j+1,p,hp,hk,hm=>by
  simp only[ef,hm 0 x (by omega) rfl,vX,if_false,List.set_cons_succ];rw[OH (j:=j) (by simpa using hp) hk fun m q af hq=>hm (m+1) q (by omega) (by simpa using hq)]
theorem WG {P:Program}{K:TypeId}{kt:Ty}(hk:yr P K kt=true):
 ∃k k' e q i,kt=.agg [.int k,.int k']∧P.underlying K=some (.array 2 e)∧P.underlying e=some (.int q)∧P.plainKey e=true∧P.info? e=some i∧P.cellsOf e=1:=by
 unfold yr at hk;split at hk
 case h_2=>cases hk
 rename_i k k';split at hk
 case h_2=>cases hk
 rename_i n e hu;simp only[aq] at hk;obtain⟨⟨⟨h1,h2⟩,h3⟩,h4⟩:=hk;have hn:=aw h1;subst hn;split at h2
 case h_2=>cases h2
 rename_i q hq;split at h4
 case h_2=>cases h4
 rename_i i hi;exact⟨k,k',e,q,i,rfl,hu,hq,h3,hi,aw h4⟩
theorem Rep.pair_inv {cap:Nat→Option CSig}{σ:Im}{k k':IntKind}{v:Value}{d:D}(h:Rep cap σ (.agg [.int k,.int k']) v d):∃a b,v=.agg #[.int k a,.int k' b]∧d=.agg [.v (.int k a),.v (.int k' b)]:=by
 generalize ht:Ty.agg [.int k,.int k']=t at h;cases h with
 |agg ts vs ds h1 h2 h ho=>
  cases ht;obtain⟨x,y,rfl⟩:∃x y,vs=[x,y]:=by
   match vs,h1 with
   |[x,y],_=>exact⟨x,y,rfl⟩
  obtain⟨p,q,rfl⟩:∃x y,ds=[x,y]:=by
   match ds,h2 with
   |[x,y],_=>exact⟨x,y,rfl⟩
  obtain⟨a,e1,e2,_⟩:=(h 0 _ rfl).int_inv;obtain⟨b,e3,e4,_⟩:=(h 1 _ rfl).int_inv;simp at e1 e2 e3 e4;subst e1 e2 e3 e4;exact⟨a,b,rfl,rfl⟩
 |_=>cases ht
theorem aoC {P:Program}{K e:TypeId}{q:IntKind}{i:TypeInfo}(hu:P.underlying K=some (.array 2 e))(hq:P.underlying e=some (.int q))(hp:P.plainKey e=true)(hi:P.info? e=some i)(hc:P.cellsOf e=1)(k k':IntKind)(a b c d:Int)(w:World):
 (Op.equal K (.agg #[.int k a,.int k' b]) (.agg #[.int k c,.int k' d])).run P w=.ok (a==c&&b==d) w:=by
 unfold Op.equal;show(Op.equalIn (9999+1) K _ _).run P w=_;rw[run_equalIn_array w 9999 _ _ hu hi,hc];have e0:List.range 2=[0,1]:=rfl;have p0:∀(x y:Value) (w:World),(part e #[x,y] 0).run P w=.ok x w:=fun x y w=>run_part_plain w hp rfl;have p1:∀(x y:Value) (w:World),(part e #[x,y] 1).run P w=.ok y w:=fun x y w=>run_part_plain w hp rfl;have q0:∀(k:IntKind) (a b:Int) (w:World),(Op.equalIn 9999 e (.int k a) (.int k b)).run P w=.ok (a==b) w:=fun k a b w=>run_equalIn_int w 9998 e k q a b hq;rw[e0];simp only[Op.eqItems,Sem.run_bind,Nat.zero_mul,Nat.one_mul,p0,p1,Result.andThen_ok,q0];cases a==c
 ·simp
 ·simp only[Bool.not_true,vX,if_false,Sem.run_bind,p1,Result.andThen_ok,q0];cases b==d<;>simp
theorem WE {P:Program}{K:TypeId}{kt:Ty}(hk:sl P K kt=true):nu P K kt=true∨yr P K kt=true:=by
 unfold sl at hk;simpa using hk
theorem adm {cap:Nat→Option CSig}{σ:Im}{P:Program}{K:TypeId}{kt:Ty}(hk:yr P K kt=true){v:Value}{d:D}(hv:Rep cap σ kt v d){w:World}{b:Bool}:(Instr.checkKey b 10000 K v).run P w=.ok () w:=by
 obtain⟨k,k',e,q,i,rfl,hu,hq,hp,hi,hc⟩:=WG hk;obtain⟨x,y,rfl,_⟩:=hv.pair_inv;have p0:∀(x y:Value) (w:World),(part e #[x,y] 0).run P w=.ok x w:=fun x y w=>run_part_plain w hp rfl;have p1:∀(x y:Value) (w:World),(part e #[x,y] 1).run P w=.ok y w:=fun x y w=>run_part_plain w hp rfl
 have c0:∀(m:Nat) (k:IntKind) (n:Int) (w:World),(Instr.checkKey b (m+1) e (.int k n)).run P w=.ok () w:=fun m k n w=>by
  simp[Instr.checkKey,run_underlying hq]
 have s0:∀w:World,(Go.sizeOf e).run P w=Result.ok 1 w:=fun w=>by rw[run_sizeOf w hi,hc]
 have main:∀m,(Instr.checkKey b (m+1+1) K (.agg #[.int k x,.int k' y])).run P w=.ok () w:=by
  intro m;rw[Instr.checkKey];simp only[Sem.run_bind,run_underlying hu,Result.andThen_ok,Std.Legacy.Range.forIn_eq_forIn_range',Std.Legacy.Range.size,Nat.sub_zero,Nat.add_one_sub_one,Nat.div_one];simp[List.range',s0,p0,p1,c0,Sem.run_bind,Result.andThen_ok]
 exact main 9998
theorem TS {cap:Nat→Option CSig}{σ:Im}{P:Program}{K:TypeId}{kt:Ty}(hk:sl P K kt=true){v:Value}{d:D}(hv:Rep cap σ kt v d){w:World}{b:Bool}:(Instr.checkKey b 10000 K v).run P w=.ok () w:=by
 rcases WE hk with hk|hk
 case inr=>exact adm hk hv
 have:∀n,(Instr.checkKey b (n+1) K v).run P w=.ok () w:=by
  intro n;rcases MT hk with⟨k,k',rfl,hu⟩|⟨rfl,hu⟩|⟨rfl,hu⟩<;>cases v<;>simp[Instr.checkKey,run_underlying hu]
 exact this 9999
section
variable {C:Ctx} {S:St} {ρ:Env} {σ:Im} {own:Nat→Option Nat} {hv:Nat→Value} {w0:World} {σ0:Base} {A:Nat→Prop} {a:Act} {w:World} {gs:List (Nat×Bool)} {Φ:aJ} {dst:Nat}
theorem ajU {P:Program}{K:TypeId}{kt:Ty}(hk:nu P K kt=true):∃desc,P.underlying K=some desc:=by
 rcases MT hk with⟨k,k',rfl,hu⟩|⟨rfl,hu⟩|⟨rfl,hu⟩<;>exact⟨_,hu⟩
theorem aoD {cap:Nat→Option CSig}{P:Program}{K:TypeId}{kt et:Ty}(hk:yr P K kt=true){v:Value}{d:D}(hv:Rep cap σ kt v d)(arr:Array MapEntry)(ds:List (D×D))(hl:ds.length=arr.size)
 (aP:∀(j:Nat) (e:MapEntry) (p:D×D),arr[j]?=some e→ds[j]?=some p→Rep cap σ kt e.key p.1∧Rep cap σ et e.val p.2) (w:World):
 ((Instr.findKey K v arr.toList).run P w=.ok none w∧gk d ds=none∧∀u,ef d u ds=ds++[(d,u)])∨
 ∃j e p,arr[j]?=some e∧ds[j]?=some p∧(Instr.findKey K v arr.toList).run P w=.ok (some (j,e.val)) w∧gk d ds=some p.2∧(∀u,ef d u ds=ds.set j (d,u))∧Instr.sameBits 10000 e.key v=true:=by
 obtain⟨k,k',e,q,i,rfl,hu,hq,hp,hi,hc⟩:=WG hk;have df:∀(v':Value) (d':D),Rep cap σ (.agg [.int k,.int k']) v' d'→(Op.equal K v v').run P w=.ok (dJ d d') w∧(dJ d d'=true→Instr.sameBits 10000 v' v=true)∧Instr.sameNow (.array 2 e) v v'=none:=by
  intro v' d' h';obtain⟨a,b,rfl,rfl⟩:=hv.pair_inv;obtain⟨a',b',rfl,rfl⟩:=h'.pair_inv;refine⟨?_,fun he=>?_,rfl⟩
  ·rw[aoC hu hq hp hi hc];simp[dJ,D.cells,oS,qF]
  ·have:a=a'∧b=b':=by simpa [dJ,D.cells,oS,qF] using he
   obtain⟨rfl,rfl⟩:=this;simp[Instr.sameBits]
 have ask:∀(es:List MapEntry) (ds:List (D×D)) (i:Nat),ds.length=es.length→(∀(j:Nat) (e:MapEntry) (p:D×D),es[j]?=some e→ds[j]?=some p→Rep cap σ (.agg [.int k,.int k']) e.key p.1)→
  ((Instr.findAsking K v es i).run P w=.ok none w∧∀(j:Nat) (p:D×D),ds[j]?=some p→dJ d p.1=false)∨
  ∃j e p,es[j]?=some e∧ds[j]?=some p∧(Instr.findAsking K v es i).run P w=.ok (some (i+j,e.val)) w∧dJ d p.1=true∧Instr.sameBits 10000 e.key v=true∧∀m q,m<j→ds[m]?=some q→dJ d q.1=false:=by
  intro es
  induction es with
  |nil=>intro ds i hl _;left;exact⟨by simp[Instr.findAsking],by cases ds<;>simp_all⟩
  |cons en es ih=>
   intro ds i hl aP;cases ds with
   |nil=>simp at hl
   |cons p ds=>
    obtain⟨hs,hb,_⟩:=df en.key p.1 (aP 0 en p rfl rfl);cases lq:dJ d p.1 with
    |true=>
     right;rw[lq] at hs;exact⟨0,en,p,rfl,rfl,by simp[Instr.findAsking,hs],lq,hb lq,fun m q hm=>by omega⟩
    |false=>
     rw[lq] at hs;rcases ih ds (i+1) (by simpa using hl) (fun j e' p' he hp=>aP (j+1) e' p' (by simpa using he) (by simpa using hp)) with⟨h1,h2⟩|⟨j,e',p',h1,h2,h3,h4,h5,h6⟩
     ·left;refine⟨by simp[Instr.findAsking,hs,h1],fun j q hq=>?_⟩;cases j with
      |zero=>simp at hq;subst hq;exact lq
      |succ j=>exact h2 j q (by simpa using hq)
     ·right;refine⟨j+1,e',p',by simpa using h1,by simpa using h2,?_,h4,h5,fun m q hm hq=>?_⟩
      ·simp[Instr.findAsking,hs,h3];omega
      ·cases m with
       |zero=>simp at hq;subst hq;exact lq
       |succ m=>exact h6 m q (by omega) (by simpa using hq)
 have gJ:(Instr.findKey K v arr.toList).run P w=(Instr.findAsking K v arr.toList 0).run P w:=by
  cases gI:arr.toList with
  |nil=>simp[Instr.findKey,run_underlying hu,Instr.findNow,Instr.findAsking]
  |cons en es=>
   obtain⟨p,BI⟩:∃p,ds[0]?=some p:=by
        have:0<ds.length:=by rw[hl];have:=congrArg List.length gI;simp at this;omega
        exact⟨_,aZ this⟩
   have Lz:arr[0]?=some en:=by rw[←zy,gI];rfl
   have:=(df en.key p.1 (aP 0 en p Lz BI).1).2.2;simp[Instr.findKey,run_underlying hu,Instr.findNow,this]
 rw[gJ];rcases ask arr.toList ds 0 (by simpa using hl) (fun j e p he hp=>(aP j e p (by simpa using he) hp).1) with⟨h1,h2⟩|⟨j,e,p,h1,h2,h3,h4,h5,h6⟩
 ·left;exact⟨h1,Ng h2,fun u=>OG h2⟩
 ·right;simp only[jo] at h3;exact⟨j,e,p,by simpa using h1,h2,h3,Nh h2 h4 h6,fun u=>OH h2 h4 h6,h5⟩
theorem run_findKey {cap:Nat→Option CSig}{P:Program}{K:TypeId}{kt et:Ty}(l7:sl P K kt=true){v:Value}{d:D}(hv:Rep cap σ kt v d)(arr:Array MapEntry)(ds:List (D×D))(hl:ds.length=arr.size)
 (aP:∀(j:Nat) (e:MapEntry) (p:D×D),arr[j]?=some e→ds[j]?=some p→Rep cap σ kt e.key p.1∧Rep cap σ et e.val p.2) (w:World):
 ((Instr.findKey K v arr.toList).run P w=.ok none w∧gk d ds=none∧∀u,ef d u ds=ds++[(d,u)])∨
 ∃j e p,arr[j]?=some e∧ds[j]?=some p∧(Instr.findKey K v arr.toList).run P w=.ok (some (j,e.val)) w∧gk d ds=some p.2∧(∀u,ef d u ds=ds.set j (d,u))∧Instr.sameBits 10000 e.key v=true:=by
 rcases WE l7 with hk|hk
 case inr=>exact aoD hk hv arr ds hl aP w
 obtain⟨desc,hu⟩:=ajU hk;rcases afk hk hu hv arr.toList ds 0 (by simpa using hl) (fun j e p he hp=>(aP j e p (by simpa using he) hp).1) with⟨h1,h2⟩|⟨j,e,p,h1,h2,h3,h4,h5,h6⟩
 ·left;exact⟨by simp[Instr.findKey,run_underlying hu,h1],Ng h2,fun u=>OG h2⟩
 ·right;refine⟨j,e,p,by simpa using h1,h2,?_,Nh h2 h4 h6,fun u=>OH h2 h4 h6,h5⟩;simp only[jo] at h3;simp[Instr.findKey,run_underlying hu,h3]
theorem amR (h:Inv C S ρ σ own hv w0 σ0 A a w)(hC:CtxOK C σ0)(hg:holds gs ρ=true){T:TypeId}{m k:Operand}{ok:Bool}{r:Sh×List PI}(hr:Oj C S gs dst T m k ok=some r){o:Oper}(ho:o.op=.lookup T m k ok):
 dF C S ρ σ hv Φ dst a w o r:=by
 unfold Oj at hr;split at hr
 case h_2=>cases hr
 rename_i K E hT;simp only[au] at hr;obtain⟨p,hp,q,hq,hr⟩:=hr;have aR:=Su h hC hg hp;have dg:=bW h hC hg hq;split at hr
 case h_2=>cases hr
 rename_i kt et e1;rw[e1] at aR;split at hr
 case h_2=>cases hr
 rename_i z inf hz l6;cases hc:(Ty.beq q.1 kt&&sl C.P K kt&&Ty.sub z.1 et&&q9 inf et)<;>simp only[hc,cond_true,cond_false] at hr
 ·cases hr
 simp only[aq] at hc;obtain⟨⟨⟨Gw,Bu⟩,cj⟩,hzero⟩:=hc;rw[Ty.beq_eq _ _ Gw] at dg;obtain⟨v0,nq,B6⟩:∃v0,inf.zero=some v0∧Rep C.cap σ et v0 z.2:=by
  unfold q9 at hzero;split at hzero
  ·rename_i v0 e0;exact⟨v0,e0,(vU hz hzero).1.sub cj⟩
  ·cases hzero
 have ahB:∃(arr:Array MapEntry) (ds:List (D×D)),(p.2.ev ρ).m=ds∧ds.length=arr.size∧
  (∀(j:Nat) (e:MapEntry) (p:D×D),arr[j]?=some e→ds[j]?=some p→Rep C.cap σ kt e.key p.1∧Rep C.cap σ et e.val p.2)∧
  ((a.eval m=.map none∧arr=#[])∨∃g clock,a.eval m=.map (some g)∧w.heap[g]?=some (.map arr clock)):=by
  rcases aR with aR|⟨T',e,cells,xs,ht,_⟩|⟨g,arr,clock,es,kt',et',ht,Wd,hb,hd,hl,hx,aP⟩
  ·generalize uJ:a.eval m=v at aR;generalize Be:p.2.ev ρ=d at aR;cases aR with
   |mapnil=>exact⟨#[],[],by simp[D.m],rfl,by simp,.inl ⟨rfl,rfl⟩⟩
   |map kt et r gV es hm hl hx hk he=>
    obtain⟨_,arr,clock,hb,gI⟩:=(h.ok.m _ _ hm).resolve_right (fun e=>Ck hl hk e.1);have hn:es.length=arr.size:=by rw[hl,←gI];simp[entriesOf]
    refine⟨arr,es,by simp[D.m],hn,fun j e p hj hp=>?_,.inr ⟨r,clock,rfl,hb⟩⟩;have:gV[j]?=some (e.key,e.val):=by rw[←gI];simp[entriesOf,hj]
    exact⟨hk j _ p this hp,he j _ p this hp⟩
  ·cases ht
  ·cases ht;exact⟨arr,es,by rw[hd];rfl,hl,aP,.inr ⟨g,clock,Wd,hb⟩⟩
 obtain⟨arr,ds,hd,hl,aP,bY⟩:=ahB;have ni:∀b,(Instr.checkKey b 10000 K (a.eval k)).run C.P w=.ok () w:=fun b=>TS (cap:=C.cap) (σ:=σ) Bu dg;have LS:∃u b x,(Instr.lookup T (a.eval m) (a.eval k) ok).run C.P w=.ok (if ok then .tuple #[u,.bool b] else u) w∧(gk (q.2.ev ρ) (p.2.ev ρ).m).getD z.2=x∧(gk (q.2.ev ρ) (p.2.ev ρ).m).isSome=b∧Rep C.cap σ et u x:=by
  rw[hd];rcases run_findKey Bu dg arr ds hl aP w with⟨h1,h2,_⟩|⟨j,e,x,h1,h2,h3,h4,_,_⟩
  ·refine⟨v0,false,z.2,?_,by rw[h2];rfl,by rw[h2];rfl,B6⟩;rcases bY with⟨em,rfl⟩|⟨g,clock,em,hb⟩
   ·simp only[List.toList_toArray] at h1;cases ok<;>simp[Instr.lookup,run_underlying hT,em,ni,h1,zeroValue,run_typeInfo w l6,nq]
   ·cases ok<;>simp[Instr.lookup,run_underlying hT,em,getObj,Sem.run,hb,ni,h1,zeroValue,run_typeInfo w l6,nq]
  ·refine⟨e.val,true,x.2,?_,by rw[h4];rfl,by rw[h4];rfl,(aP j e x h1 h2).2⟩;rcases bY with⟨em,rfl⟩|⟨g,clock,em,hb⟩
   ·simp at h1
   ·cases ok<;>simp[Instr.lookup,run_underlying hT,em,getObj,Sem.run,hb,ni,h3]
 obtain⟨u,b,x,aj,mc,hx2,bF⟩:=LS;cases ok with
 |true=>
  simp only[cond_true] at hr;cases hr;refine .dat (v:=.tuple #[u,.bool b]) (by simp[execOp,ho,aj]) ?_;simp only[PE.ev,PE.evs,mc,hx2];refine .tup [et,.bool] [u,.bool b] [x,.v (.bool b)] rfl rfl (fun i t hi=>?_)
  match i,hi with
  |0,hi=>simp at hi;subst hi;exact bF
  |1,hi=>simp at hi;subst hi;exact .bool b
  |i+2,hi=>simp at hi
 |false=>
  simp only[cond_false] at hr;cases hr;refine .dat (v:=u) (by simp[execOp,ho,aj]) ?_;simp only[PE.ev,mc];exact bF
end
end Cx
namespace Cx
open Go Go.RowKit
theorem UG (off:Nat):∀(l:List Value) (s:Nat) (cells:Array Value),off+s+l.length≤cells.size→
 ((l.zipIdx s).foldl (fun cs (x:Value×Nat)=>cs.setIfInBounds (off+x.2) x.1) cells).size=cells.size∧
 ∀p,((l.zipIdx s).foldl (fun cs (x:Value×Nat)=>cs.setIfInBounds (off+x.2) x.1) cells)[p]?=if off+s≤p∧p<off+s+l.length then l[p-(off+s)]? else cells[p]?
 |[],s,cells,_=>by
  refine⟨rfl,fun p=>?_⟩;have:¬(off+s≤p∧p<off+s+0):=by omega
  simp only[List.zipIdx_nil,List.foldl_nil,wh];rw[if_neg this]
 |v::l,s,cells,h=>by
  simp only[nV] at h;obtain⟨h1,h2⟩:=UG off l (s+1) (cells.setIfInBounds (off+s) v) (by simp;omega);simp only[List.zipIdx_cons,DV];refine⟨by rw[h1];simp,fun p=>?_⟩;rw[h2 p];by_cases hp:p=off+s
  ·subst hp;have c1:¬(off+(s+1)≤off+s∧off+s<off+(s+1)+l.length):=by omega
   have c2:off+s≤off+s∧off+s<off+s+(v::l).length:=by simp
   rw[if_neg c1,if_pos c2,zx,if_pos rfl,if_pos (by omega)];simp
  ·by_cases hc:off+(s+1)≤p∧p<off+(s+1)+l.length
   ·have c2:off+s≤p∧p<off+s+(v::l).length:=by simp only[nV];omega
    rw[if_pos hc,if_pos c2];rw[show p-(off+s)=(p-(off+(s+1)))+1 by omega];simp
   ·have c2:¬(off+s≤p∧p<off+s+(v::l).length):=by simp only[nV];omega
    rw[if_neg hc,if_neg c2,zx];rw[if_neg (by omega)]
theorem KY (place:Nat→Option (Nat×Nat)):∀(parts:List (Nat×Value)) (cells:Array Value),
 (∀p,p∈parts→∃o,place p.1=some (o,p.2.cells.size)∧o+p.2.cells.size≤cells.size)→
 (∀i j oi si oj sj,i≠j→place i=some (oi,si)→place j=some (oj,sj)→oi+si≤oj∨oj+sj≤oi)→(parts.map (·.1)).Nodup→
 ∃dc,Instr.fill place cells parts=some dc∧dc.size=cells.size∧
  (∀i v o,(i,v)∈parts→place i=some (o,v.cells.size)→∀m,m<v.cells.size→dc[o+m]?=v.cells[m]?)∧
  (∀i o s,i∉parts.map (·.1)→place i=some (o,s)→∀m,m<s→dc[o+m]?=cells[o+m]?)
 |[],cells,_,_,_=>⟨cells,rfl,rfl,by simp,fun _ _ _ _ _ _ _=>rfl⟩
 |(i,v)::parts,cells,h,xT,bm=>by
  obtain⟨o,hp,hle⟩:=h (i,v) (ej ..);simp only at hp hle;obtain⟨g1,g2⟩:=UG o v.cells.toList 0 cells (by simp;omega);simp only[fo,mM] at bm
  have hz:v.cells.zipIdx.foldl (fun cs (x:Value×Nat)=>cs.setIfInBounds (o+x.2) x.1) cells=(v.cells.toList.zipIdx 0).foldl (fun cs (x:Value×Nat)=>cs.setIfInBounds (o+x.2) x.1) cells:=by
    rw[←Array.foldl_toList];simp
  generalize Vk:(v.cells.toList.zipIdx 0).foldl (fun cs (x:Value×Nat)=>cs.setIfInBounds (o+x.2) x.1) cells=c1 at g1 g2 hz
  obtain⟨dc,k1,k2,k3,k4⟩:=KY place parts c1 (fun p hm=>by
    obtain⟨o',h1,h2⟩:=h p (dY _ hm);exact⟨o',h1,by rw[g1];exact h2⟩) xT bm.2
  refine⟨dc,?_,k2.trans g1,?_,?_⟩
  ·simp only[Instr.fill,hp];have:¬((v.cells.size≠v.cells.size||decide (o+v.cells.size>cells.size))=true):=by simp;omega
   rw[if_neg this];rw[←k1,←hz]
  ·intro j u o' hm yf m af;rcases cG.1 hm with e|eA
   ·cases e;rw[hp] at yf;cases yf;rw[k4 i o v.cells.size bm.1 hp m af,g2];rw[if_pos (by simp;omega)];simp
   ·exact k3 j u o' eA yf m af
  ·intro j o' s' oH yf m af;simp only[fo,cG,not_or] at oH;rw[k4 j o' s' oH.2 yf m af,g2];have:=xT i j o v.cells.size o' s' (fun e=>oH.1 e.symm) hp yf;rw[if_neg (by simp;omega)]
section
variable {C:Ctx} {S:St} {ρ:Env} {σ:Im} {own:Nat→Option Nat} {hv:Nat→Value} {w0:World} {σ0:Base} {A:Nat→Prop} {a:Act} {w:World} {gs:List (Nat×Bool)} {Φ:aJ} {dst:Nat}
theorem Rep.flat {cap:Nat→Option CSig}{t:Ty}{v:Value}{d:D}(h:Rep cap σ t v d)(ht:t.rowT=true∨t.one=true):
 t.flat.length=t.size∧d.cells.length=t.size∧∀(m:Nat) (tm:Ty),t.flat[m]?=some tm→tm.one=true∧Rep cap σ tm (v.cells.getD m undef) (d.cells.getD m .none):=by
 cases h with
 |agg ts vs ds h1 h2 h ho=>
  refine⟨rfl,by simp[D.cells,Ty.size,h2],fun m tm hm=>⟨ho m tm hm,?_⟩⟩;have:=h m tm hm;simpa [Value.cells,D.cells,eY,aI] using this
 |tup ts vs ds h1 h2 h=>simp[Ty.rowT,Ty.one] at ht
 |_=>
  refine⟨rfl,rfl,fun m tm hm=>?_⟩
  match m,hm with
  |0,hm=>
   simp only[Ty.flat,Ju,aS] at hm;subst hm;refine⟨rfl,?_⟩;simp only[Value.cells,D.cells,rh];constructor<;>assumption
  |m+1,hm=>simp[Ty.flat] at hm
theorem nz:∀{l:List Nat},iI l=true→l.Nodup
 |[],_=>List.nodup_nil
 |a::r,h=>by
  simp only[iI,aq,jf] at h;refine mM.2 ⟨fun hm=>?_,nz h.2⟩;have:=List.any_eq_false.1 h.1 a hm;simp at this
def Laid (P:Program):List Field→Nat→Prop
 |[],_=>True
 |f::fs,off=>f.offset=off∧∃inf,P.info? f.type=some inf∧Laid P fs (off+inf.size)
theorem Laid.get {P:Program}:∀{fs:List Field} {off:Nat},Laid P fs off→∀(i:Nat) (f:Field),fs[i]?=some f→∃inf,P.info? f.type=some inf∧off≤f.offset∧
 ∀(j:Nat) (g:Field),i<j→fs[j]?=some g→f.offset+inf.size≤g.offset
 |[],_,_,i,f,hi=>by simp at hi
 |f0::fs,off,h,i,f,hi=>by
  obtain⟨h1,inf,h2,h3⟩:=h;cases i with
  |zero=>
   simp at hi;subst hi;refine⟨inf,h2,by omega,fun j g hj hg=>?_⟩;cases j with
   |zero=>omega
   |succ j=>obtain⟨_,_,h4,_⟩:=h3.get j g (by simpa using hg);omega
  |succ i=>
   simp at hi;obtain⟨ajE,k1,k2,k3⟩:=h3.get i f hi;refine⟨ajE,k1,by omega,fun j g hj hg=>?_⟩;cases j with
   |zero=>omega
   |succ j=>exact k3 j g (by omega) (by simpa using hg)
theorem ac0 {zs:List Value}{parts:List (Nat×Operand)}:∀(fs:List Field) (i off:Nat) (r:List Ty×List PE),kY C S gs zs parts fs i off=some r→Laid C.P fs off:=by
 intro fs
 induction fs with
 |nil=>intro i off r _;trivial
 |cons f fs ih=>
  intro i off r h;simp only[kY] at h;split at h
  case h_2=>cases h
  rename_i inf ft hi ht;cases hc:(Nat.beq f.offset off&&Nat.beq inf.size ft.size)<;>simp only[hc,cond_true,cond_false] at h
  ·cases h
  simp only[aq] at hc;simp only[au] at h;obtain⟨q,hq,_⟩:=h;exact⟨aw hc.1,inf,hi,ih _ _ _ hq⟩
theorem TH {zs:List Value}{parts:List (Nat×Operand)}:∀(fs:List Field) (i off:Nat) (r:List Ty×List PE),kY C S gs zs parts fs i off=some r→off≤zs.length:=by
 intro fs
 induction fs with
 |nil=>intro i off r h;simp only[kY] at h;cases hb:Nat.beq off zs.length<;>simp[hb] at h;exact Nat.le_of_eq (aw hb)
 |cons f fs ih=>
  intro i off r h;simp only[kY] at h;split at h
  case h_2=>cases h
  rename_i inf ft hi ht;cases hc:(Nat.beq f.offset off&&Nat.beq inf.size ft.size)<;>simp only[hc,cond_true,cond_false] at h
  ·cases h
  simp only[au] at h;obtain⟨q,hq,_⟩:=h;have:=ih _ _ _ hq;omega
theorem acZ {zs:List Value}{parts:List (Nat×Operand)}:∀(fs:List Field) (i off:Nat) (r:List Ty×List PE),kY C S gs zs parts fs i off=some r→
 ∃ft:List Ty×List PE,r=ft∧(∀(m:Nat) (f:Field) (inf:TypeInfo),fs[m]?=some f→C.P.info? f.type=some inf→f.offset+inf.size≤zs.length)∧(∀(m:Nat) (x:Nat×Operand) (f:Field) (inf:TypeInfo),fs[m]?=some f→C.P.info? f.type=some inf→parts.find? (fun p=>Nat.beq p.1 (i+m))=some x→∃y ft,use C S gs x.2=some y∧Ty.sub y.1 ft=true∧ft.size=inf.size)∧off+r.1.length=zs.length:=by
 intro fs
 induction fs with
 |nil=>intro i off r h;simp only[kY] at h;cases hb:Nat.beq off zs.length<;>simp[hb] at h;subst h;exact⟨_,rfl,by simp,by simp,by simpa using aw hb⟩
 |cons f fs ih=>
  intro i off r h;simp only[kY] at h;split at h
  case h_2=>cases h
  rename_i inf ft hi ht;cases hc:(Nat.beq f.offset off&&Nat.beq inf.size ft.size)<;>simp only[hc,cond_true,cond_false] at h
  ·cases h
  simp only[aq] at hc;have gL:=aw hc.1;have aL:=aw hc.2;simp only[au] at h;obtain⟨q,hq,h⟩:=h;have hle:=TH _ _ _ _ hq;obtain⟨_,rfl,k1,k2,k3⟩:=ih _ _ _ hq;have e1:∀(m:Nat) (g:Field) (ig:TypeInfo),(f::fs)[m]?=some g→C.P.info? g.type=some ig→g.offset+ig.size≤zs.length:=by
   intro m g ig hm ff;cases m with
   |zero=>simp at hm;subst hm;rw[hi] at ff;cases ff;omega
   |succ m=>exact k1 m g ig (by simpa using hm) ff
  have UF:∀t:Ty,t.flat.length=t.size:=fun t=>by cases t<;>simp[Ty.flat,Ty.size]
  split at h
  ·rename_i x hx;simp only[au] at h;obtain⟨y,hy,h⟩:=h;cases hs:(Ty.sub y.1 ft&&(y.1.rowT||y.1.one))<;>simp only[hs,cond_true,cond_false] at h
   ·cases h
   cases h;simp only[aq] at hs;refine⟨_,rfl,e1,fun m x' g ig hm ff hf=>?_,?_⟩
   ·cases m with
    |zero=>
     simp at hm;subst hm;rw[hi] at ff;cases ff;simp only[lU] at hf;rw[hx] at hf;cases hf;exact⟨y,ft,hy,hs.1,aL.symm⟩
    |succ m=>exact k2 m x' g ig (by simpa using hm) ff (by rwa [show i+(m+1)=i+1+m by omega] at hf)
   ·have:=(Ty.sub_one _ _ hs.1).2;simp only[kV,UF];omega
  ·rename_i hx;cases kC:gX ft (rowOf ft.rowT ((zs.drop off).take inf.size))<;>simp only[kC,cond_true,cond_false] at h
   ·cases h
   simp only[ax] at h;obtain⟨z,hz,rfl⟩:=h;have cn:=(vU (cap:=C.cap) (σ:=⟨fun _ _=>none,fun _=>none⟩) hz kC).2.1;refine⟨_,rfl,e1,fun m x' g ig hm ff hf=>?_,?_⟩
   ·cases m with
    |zero=>simp only[lU] at hf;rw[hx] at hf;cases hf
    |succ m=>exact k2 m x' g ig (by simpa using hm) ff (by rwa [show i+(m+1)=i+1+m by omega] at hf)
   ·have:=(Ty.sub_one _ _ cn).2;simp only[kV,UF];omega
theorem ac1 (h:Inv C S ρ σ own hv w0 σ0 A a w)(hC:CtxOK C σ0)(hg:holds gs ρ=true){zs:List Value}{parts:List (Nat×Operand)}(cells:Array Value):
 ∀(fs:List Field) (i off:Nat) (r:List Ty×List PE),kY C S gs zs parts fs i off=some r→
  (∀(m:Nat) (f:Field) (inf:TypeInfo),fs[m]?=some f→C.P.info? f.type=some inf→
        (∀x,parts.find? (fun p=>Nat.beq p.1 (i+m))=some x→∀q,q<inf.size→cells[f.offset+q]?=(a.eval x.2).cells[q]?)∧
        (parts.find? (fun p=>Nat.beq p.1 (i+m))=none→∀q,q<inf.size→cells[f.offset+q]?=zs[f.offset+q]?))→
  (PE.evc ρ r.2).length=r.1.length∧∀(m:Nat) (t:Ty),r.1[m]?=some t→t.one=true∧Rep C.cap σ t (cells.getD (off+m) undef) ((PE.evc ρ r.2).getD m .none):=by
 intro fs
 induction fs with
 |nil=>intro i off r hr _;simp only[kY] at hr;cases hb:Nat.beq off zs.length<;>simp[hb] at hr;subst hr;simp[PE.evc]
 |cons f fs ih=>
  intro i off r hr aP;simp only[kY] at hr;split at hr
  case h_2=>cases hr
  rename_i inf ft hi ht;cases hc:(Nat.beq f.offset off&&Nat.beq inf.size ft.size)<;>simp only[hc,cond_true,cond_false] at hr
  ·cases hr
  simp only[aq] at hc;have gL:=aw hc.1;have aL:=aw hc.2;simp only[au] at hr;obtain⟨q,hq,hr⟩:=hr
  obtain⟨l1,rT⟩:=ih (i+1) (off+inf.size) q hq (fun m g ajF hm ff=>by
   have:=aP (m+1) g ajF (by simpa using hm) ff
   rwa [show i+(m+1)=i+1+m by omega] at this)
  obtain⟨hp,hn⟩:=aP 0 f inf rfl hi;have join:∀(t:Ty) (v:Value) (d:D) (pe:PE),Rep C.cap σ t v d→(t.rowT=true∨t.one=true)→pe.ev ρ=d→t.size=inf.size→(∀m,m<inf.size→cells[f.offset+m]?=v.cells[m]?)→
        (PE.evc ρ (pe::q.2)).length=(t.flat++q.1).length∧∀(m:Nat) (t':Ty),(t.flat++q.1)[m]?=some t'→t'.one=true∧Rep C.cap σ t' (cells.getD (off+m) undef) ((PE.evc ρ (pe::q.2)).getD m .none):=by
   intro t v d pe bF gg rR uI aV;obtain⟨f1,f2,f3⟩:=bF.flat gg;simp only[PE.evc,rR];refine⟨by simp[f1,f2,l1],fun m t' hm=>?_⟩;rw[kh] at hm;split at hm
   ·rename_i af;obtain⟨g1,g2⟩:=f3 m t' hm;refine⟨g1,?_⟩;have e1:cells.getD (off+m) undef=v.cells.getD m undef:=by
     rw[eY,eY,←gL,aV m (by omega)]
    have e2:(d.cells++PE.evc ρ q.2).getD m .none=d.cells.getD m .none:=by
     rw[aI,aI,lS (by omega)]
    rw[e1,e2];exact g2
   ·rename_i gf;obtain⟨g1,g2⟩:=rT _ t' hm;refine⟨g1,?_⟩;have e1:off+inf.size+(m-t.flat.length)=off+m:=by omega
    have e2:(d.cells++PE.evc ρ q.2).getD m .none=(PE.evc ρ q.2).getD (m-t.flat.length) .none:=by
     rw[aI,aI,lT (by omega)];rw[f1,←f2]
    rw[e1] at g2;rw[e2];exact g2
  simp only[lU] at hp hn;split at hr
  ·rename_i x hx;simp only[au] at hr;obtain⟨y,hy,hr⟩:=hr;cases hs:(Ty.sub y.1 ft&&(y.1.rowT||y.1.one))<;>simp only[hs,cond_true,cond_false] at hr
   ·cases hr
   cases hr;simp only[aq,jh] at hs;exact join y.1 _ _ y.2 (bW h hC hg hy) hs.2 rfl (by rw[(Ty.sub_one _ _ hs.1).2,aL]) (hp x hx)
  ·rename_i hx;cases kC:gX ft (rowOf ft.rowT ((zs.drop off).take inf.size))<;>simp only[kC,cond_true,cond_false] at hr
   ·cases hr
   simp only[ax] at hr;obtain⟨z,hz,rfl⟩:=hr;obtain⟨k1,k2,k3⟩:=vU (cap:=C.cap) (σ:=σ) hz kC;have Gz:(rowOf ft.rowT ((zs.drop off).take inf.size)).cells.size=inf.size:=by rw[k1.size,(Ty.sub_one _ _ k2).2,aL]
   refine join z.1 _ z.2 (.con z.2) k1 ?_ rfl (by rw[(Ty.sub_one _ _ k2).2,aL]) (fun m hm=>?_)
   ·cases ft<;>simp[mG,nR] at hz<;>first|(subst hz;simp[Ty.one])|(obtain⟨_,_,rfl⟩:=hz;simp[Ty.rowT])
   ·rw[hn hx m hm,gL];cases rU:ft.rowT with
    |true=>simp[rowOf,Value.cells,fV,gn,hm]
    |false=>
     rw[rU] at Gz k1;have h1:(z.1).rowT=false:=by
       have:=(Ty.sub_one _ _ k2)
       cases ft<;>simp[Ty.rowT] at rU<;>simp[mG,nR] at hz<;>subst hz<;>rfl
     rw[k1.cells1 h1] at Gz ⊢;simp at Gz;have hm0:m=0:=by omega
     subst hm0;have:∃u,zs[off]?=some u:=⟨_,aZ (show off<zs.length by have:=TH _ _ _ _ hq;omega)⟩
     simp[rowOf,aI,fV,gn,←Gz];obtain⟨u,hu⟩:=this;simp[hu]
theorem WH {P:Program}:∀(fs:List Field) (off:Nat),Laid P fs off→
 ∃l:List (Nat×Nat),fs.mapM (fun f=>(P.info? f.type).map fun i=>(f.offset,i.size))=some l∧l.length=fs.length∧
  ∀(i:Nat) (f:Field) (inf:TypeInfo),fs[i]?=some f→P.info? f.type=some inf→l[i]?=some (f.offset,inf.size)
 |[],_,_=>⟨[],rfl,rfl,by simp⟩
 |f::fs,off,h=>by
  obtain⟨h1,inf,h2,h3⟩:=h;obtain⟨l,k1,k2,k3⟩:=WH fs _ h3;refine⟨(f.offset,inf.size)::l,?_,by simp[k2],fun i g ig hi ff=>?_⟩
  ·simp[SX,h2,k1]
  ·cases i with
   |zero=>simp at hi;subst hi;rw[h2] at ff;cases ff;rfl
   |succ i=>simp at hi;simpa using k3 i g ig hi ff
theorem Uz {parts:List (Nat×Operand)}(bm:(parts.map (·.1)).Nodup){i:Nat}{x:Operand}(h:(i,x)∈parts):parts.find? (fun p=>Nat.beq p.1 i)=some (i,x):=by
 induction parts with
 |nil=>cases h
 |cons p ps ih=>
  simp only[fo,mM] at bm;rcases cG.1 h with e|hm
  ·subst e;simp
  ·have:¬p.1=i:=fun e=>bm.1 (e▸List.mem_map_of_mem (f:=(·.1)) hm);rw[List.find?_cons_of_neg (by simpa using this)];exact ih bm.2 hm
theorem amH (h:Inv C S ρ σ own hv w0 σ0 A a w)(hC:CtxOK C σ0)(hg:holds gs ρ=true){T:TypeId}{ps:Array (Nat×Operand)}{r:Sh×List PI}(hr:N9 C S gs dst T ps.toList=some r){o:Oper}(ho:o.op=.build T ps):
 dF C S ρ σ hv Φ dst a w o r:=by
 unfold N9 at hr;split at hr
 case h_3=>cases hr
 case h_2=>
  rename_i n e inf hT l6;split at hr
  case h_2=>cases hr
  rename_i zs ie hz hie;split at hr
  case h_2=>cases hr
  rename_i x y qz;simp only[au] at hr;obtain⟨p,hp,q,hq,hr⟩:=hr;split at hr
  case h_2=>cases hr
  rename_i k k' hk bL;cases hc:(Nat.beq n 2&&Nat.beq zs.size 2&&Nat.beq ie.size 1)<;>simp only[hc,cond_true,cond_false] at hr
  ·cases hr
  cases hr;simp only[aq] at hc;obtain⟨⟨c1,c2⟩,c3⟩:=hc;have c1:=aw c1;have c2:=aw c2;have c3:=aw c3;subst c1;have hx:=bW h hC hg hp;have hy:=bW h hC hg hq;rw[hk] at hx;rw[bL] at hy;obtain⟨a1,KM,ea2,_⟩:=hx.int_inv;obtain⟨b1,KN,eb2,_⟩:=hy.int_inv;have aiG:ps=#[(0,x),(1,y)]:=by rw[←re];exact qz
  obtain⟨z0,z1,rfl⟩:∃z0 z1,zs=#[z0,z1]:=by
   match zs,c2 with
   |⟨[z0,z1]⟩,_=>exact⟨z0,z1,rfl⟩
  have Lr:C.P.built T [(0,a.eval x),(1,a.eval y)]=some #[a.eval x,a.eval y]:=by
   rw[KM,KN];simp only[Program.built,l6,hT,hz,hie,c3];simp[Instr.fill,Value.cells]
  have aj:(execOp a.eval o).run C.P w=.ok (.value (.agg #[a.eval x,a.eval y])) w:=by
   have:=run_build (P:=C.P) w T (ps.map fun(x:Nat×Operand)=>(x.1,a.eval x.2)) #[a.eval x,a.eval y] (by rw[aiG];simpa using Lr);simp[execOp,ho,this]
  refine .dat aj ?_;have e1:(PE.mk [p.2,q.2]).ev ρ=.agg [p.2.ev ρ,q.2.ev ρ]:=by simp[PE.ev,PE.evc,ea2,eb2,D.cells]
  rw[e1];refine .agg _ [a.eval x,a.eval y] _ rfl rfl (fun i t hi=>?_) (fun i t hi=>?_)
  ·match i,hi with
   |0,hi=>simp at hi;subst hi;rw[hk];simpa using hx
   |1,hi=>simp at hi;subst hi;rw[bL];simpa using hy
   |i+2,hi=>simp at hi
  ·match i,hi with
   |0,hi=>simp at hi;subst hi;rw[hk];rfl
   |1,hi=>simp at hi;subst hi;rw[bL];rfl
   |i+2,hi=>simp at hi
 rename_i fs inf hT l6;split at hr
 case h_2=>cases hr
 rename_i zs hz;cases hc:(iI (ps.toList.map (·.1))&&ps.toList.all (fun p=>Nat.blt p.1 fs.size))<;>simp only[hc,cond_true,cond_false] at hr
 ·cases hr
 simp only[aq] at hc;obtain⟨bm,af⟩:=hc;simp only[ax] at hr;obtain⟨q,hq,rfl⟩:=hr;have Gx:=ac0 _ _ _ _ hq;have kz:=nz bm;obtain⟨_,rfl,cu,ajo,LA⟩:=acZ _ _ _ _ hq;obtain⟨pl,eD,aw0,BL⟩:=WH _ _ Gx
 have jB:∀p,p∈(ps.toList.map fun(x:Nat×Operand)=>(x.1,a.eval x.2))→∃o,pl.toArray[p.1]?=some (o,p.2.cells.size)∧o+p.2.cells.size≤zs.size:=by
  intro p hp;obtain⟨x,hx,rfl⟩:=cX.1 hp;have uK:x.1<fs.toList.length:=by
   have:=db.1 af x hx;have h2:x.1<fs.size:=by simpa [nX] using this
   simpa using h2
  obtain⟨f,hf⟩:∃f,fs.toList[x.1]?=some f:=⟨_,aZ uK⟩
  obtain⟨ig,ff,_,_⟩:=Gx.get _ _ hf;have Bl:=Uz kz (i:=x.1) (x:=x.2) hx;obtain⟨y,ft,hy,cj,aL⟩:=ajo x.1 (x.1,x.2) f ig hf ff (by simpa using Bl);have rW:=(bW h hC hg hy).size;rw[(Ty.sub_one _ _ cj).2,aL] at rW;simp only;refine⟨f.offset,?_,?_⟩
  ·rw[rW];simpa using BL x.1 f ig hf ff
  ·rw[rW];simpa using cu x.1 f ig hf ff
 have xT:∀(i j oi si oj sj:Nat),i≠j→pl.toArray[i]?=some (oi,si)→pl.toArray[j]?=some (oj,sj)→oi+si≤oj∨oj+sj≤oi:=by
  intro i j oi si oj sj az hi hj;simp only[DX] at hi hj;obtain⟨f,hf⟩:∃f,fs.toList[i]?=some f:=⟨_,aZ (by have:=(dX.1 hi).1;omega)⟩
  obtain⟨g,xX⟩:∃g,fs.toList[j]?=some g:=⟨_,aZ (by have:=(dX.1 hj).1;omega)⟩
  obtain⟨ig,ff,_,aia⟩:=Gx.get _ _ hf;obtain⟨jg,hjg,_,aib⟩:=Gx.get _ _ xX;rw[BL i f ig hf ff] at hi;rw[BL j g jg xX hjg] at hj;cases hi;cases hj;rcases Jz i j with af|gf
  ·exact .inl (aia j g af xX)
  ·exact .inr (aib i f (by omega) hf)
 obtain⟨dc,f1,f2,f3,f4⟩:=KY (pl.toArray[·]?) (ps.toList.map fun(x:Nat×Operand)=>(x.1,a.eval x.2)) zs jB xT (by simpa [DR] using kz)
 have Lr:C.P.built T (ps.toList.map fun(x:Nat×Operand)=>(x.1,a.eval x.2))=some dc:=by
  simp only[Program.built,l6,hT,hz,eD];exact f1
 have aj:(execOp a.eval o).run C.P w=.ok (.value (.agg dc)) w:=by
  have:=run_build (P:=C.P) w T (ps.map fun(x:Nat×Operand)=>(x.1,a.eval x.2)) dc (by rw[vV];exact Lr);simp[execOp,ho,this]
 refine .dat aj ?_;have um:∀(m:Nat) (f:Field) (ig:TypeInfo),fs.toList[m]?=some f→C.P.info? f.type=some ig→
  (∀x,ps.toList.find? (fun p=>Nat.beq p.1 (0+m))=some x→∀q,q<ig.size→dc[f.offset+q]?=(a.eval x.2).cells[q]?)∧
  (ps.toList.find? (fun p=>Nat.beq p.1 (0+m))=none→∀q,q<ig.size→dc[f.offset+q]?=zs.toList[f.offset+q]?):=by
  intro m f ig hm ff;refine⟨fun x hx p hp=>?_,fun hx p hp=>?_⟩
  ·have mc:x.1=m:=by have:=Jt hx;simpa using this
   have yo:(x.1,a.eval x.2)∈(ps.toList.map fun(x:Nat×Operand)=>(x.1,a.eval x.2)):=cX.2 ⟨x,zG hx,rfl⟩;obtain⟨o',gK,hle⟩:=jB _ yo;simp only at gK hle;have VX:=BL m f ig hm ff;simp only[DX,mc] at gK;rw[VX] at gK;simp only[aS,lV] at gK;obtain⟨e1,e2⟩:=gK;exact f3 x.1 (a.eval x.2) f.offset yo (by simp[mc,VX,←e2]) p (by omega)
  ·have oH:m∉(ps.toList.map fun(x:Nat×Operand)=>(x.1,a.eval x.2)).map (·.1):=by
        intro cO;simp only[wj,cX,DR] at cO;obtain⟨x,yo,e⟩:=cO;have:=we.1 hx x yo;simp[e] at this
   rw[f4 m f.offset ig.size oH (by simpa using BL m f ig hm ff) p hp];simp
 obtain⟨l1,aP⟩:=ac1 h hC hg dc _ _ _ _ hq um
 ·simp only[PE.ev];have:dc=dc.toList.toArray:=by simp
  rw[this];have hlen:dc.toList.length=q.1.length:=by simp[f2] at LA ⊢;omega
  refine .agg _ _ _ hlen l1 (fun i t hi=>?_) (fun i t hi=>(aP i t hi).1);have:=(aP i t hi).2;simpa [eY,aI] using this
end
end Cx
