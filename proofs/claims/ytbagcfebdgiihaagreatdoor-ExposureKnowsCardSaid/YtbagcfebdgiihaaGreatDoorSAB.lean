/-
  Shared texts of this claim.
-/
import Derived.Test.YtbagcfebdgiihaaGreatDoorSAA
import Derived.ChangeKeysEq
import Derived.Laws.Tables
set_option linter.unusedSimpArgs false
set_option linter.unusedVariables false
namespace Cx
open Go Go.RowKit
theorem Rep.int_inv {cap:Nat→Option CSig}{σ:Im}{k:IntKind}{v:Value}{d:D}(h:Rep cap σ (.int k) v d):∃n,v=.int k n∧d=.v (.int k n)∧k.min≤n∧n≤k.max:=by
 cases h with
 |int k n h1 h2=>exact⟨n,rfl,rfl,h1,h2⟩
theorem Rep.bool_inv {cap:Nat→Option CSig}{σ:Im}{v:Value}{d:D}(h:Rep cap σ .bool v d):∃b,v=.bool b∧d=.v (.bool b):=by
 cases h with
 |bool b=>exact⟨b,rfl,rfl⟩
theorem Rep.str_inv {cap:Nat→Option CSig}{σ:Im}{v:Value}{d:D}(h:Rep cap σ .str v d):∃s,v=.string s∧d=.v (.string s)∧s.size≤maxLen:=by
 cases h with
 |str s h=>exact⟨s,rfl,rfl,h⟩
theorem Rep.slice_inv {cap:Nat→Option CSig}{σ:Im}{e:Ty}{v:Value}{d:D}(h:Rep cap σ (.slice e) v d):∃xs,d=.list xs∧
 (((∃p,v=.slice p 0 0)∧xs=[])∨∃k o c,v=.slice (some ⟨k,o,none⟩) xs.length c∧xs.length≤c∧c≤maxLen∧
   ∃vs:Nat→Value,(∀(i:Nat) (x:D),xs[i]?=some x→Rep cap σ e.unf (vs i) x)∧∀(i j:Nat) (u:Value),i<xs.length→(vs i).cells[j]?=some u→σ.c k (o+i*e.size+j)=some u):=by
 cases h with
 |nil e=>exact⟨[],rfl,.inl ⟨⟨_,rfl⟩,rfl⟩⟩
 |emp e a=>exact⟨[],rfl,.inl ⟨⟨_,rfl⟩,rfl⟩⟩
 |slice e k o n c xs vs hn hc hm h hv=>subst hn;exact⟨xs,rfl,.inr ⟨k,o,c,rfl,hc,hm,vs,h,hv⟩⟩
theorem Rep.ref_inv {cap:Nat→Option CSig}{σ:Im}{t:Ty}{v:Value}{d:D}(h:Rep cap σ (.ref t) v d):∃k o x y,v=.pointer (some ⟨k,o,none⟩)∧d=.ref y∧Rep cap σ t x y∧∀(j:Nat) (u:Value),x.cells[j]?=some u→σ.c k (o+j)=some u:=by
 cases h with
 |ref t k o x y h hv=>exact⟨k,o,x,y,rfl,rfl,h,hv⟩
theorem Rep.agg_inv {cap:Nat→Option CSig}{σ:Im}{ts:List Ty}{v:Value}{d:D}(h:Rep cap σ (.agg ts) v d):∃(vs:List Value) (ds:List D),v=.agg vs.toArray∧d=.agg ds∧vs.length=ts.length∧ds.length=ts.length∧
 (∀(i:Nat) (t:Ty),ts[i]?=some t→Rep cap σ t (vs.getD i undef) (ds.getD i .none))∧∀(i:Nat) (t:Ty),ts[i]?=some t→t.one=true:=by
 cases h with
 |agg ts vs ds h1 h2 h ho=>exact⟨vs,ds,rfl,rfl,h1,h2,h,ho⟩
theorem Rep.tup_inv {cap:Nat→Option CSig}{σ:Im}{ts:List Ty}{v:Value}{d:D}(h:Rep cap σ (.tup ts) v d):∃(vs:List Value) (ds:List D),v=.tuple vs.toArray∧d=.tup ds∧vs.length=ts.length∧ds.length=ts.length∧
 (∀(i:Nat) (t:Ty),ts[i]?=some t→Rep cap σ t (vs.getD i undef) (ds.getD i .none)):=by
 cases h with
 |tup ts vs ds h1 h2 h=>exact⟨vs,ds,rfl,rfl,h1,h2,h⟩
theorem qd (k:IntKind)(n:Int):k.min≤k.wrap n∧k.wrap n≤k.max:=by
 cases k<;>simp only[IntKind.min,IntKind.max,IntKind.wrap,IntKind.signed,IntKind.bits]<;>simp<;>(try split)<;>omega
theorem aa9 (k:IntKind){a b:Int}(ha:k.min≤a∧a≤k.max):k.min≤a.tmod b∧a.tmod b≤k.max:=by
 have h1:k.min≤0:=by cases k<;>decide
 have h2:0≤k.max:=by cases k<;>decide
 have hn:(a.tmod b).natAbs≤a.natAbs:=by rw[Int.natAbs_tmod];exact Nat.mod_le _ _
 rcases Int.le_total 0 a with h|h
 ·have:=Int.tmod_nonneg b h;omega
 ·have:a.tmod b≤0:=by
   have:=Int.tmod_nonneg b (a:=-a) (by omega);rw[Int.neg_tmod] at this;omega
  omega
theorem UE (k:IntKind){a:Int}(n:Nat)(ha:k.min≤a∧a≤k.max):k.min≤a.fdiv (2^n)∧a.fdiv (2^n)≤k.max:=by
 have h1:k.min≤0:=by cases k<;>decide
 have h2:0≤k.max:=by cases k<;>decide
 have hp:(0:Int)<2^n:=Int.pow_pos (by decide);rw[abD _ (by omega)];rcases Int.le_total 0 a with h|h
 ·have h3:=Int.ediv_nonneg h (by omega:(0:Int)≤2^n);have h4:=Int.ediv_le_self (b:=2^n) h;omega
 ·have h3:a/2^n≤0:=by
   have:=Int.ediv_le_ediv hp h;simpa using this
  have h4:a≤a/2^n:=by
   rw[Int.le_ediv_iff_mul_le hp];have:a*2^n≤a*1:=Int.mul_le_mul_of_nonpos_left h (by omega);omega
  omega
section
variable {C:Ctx} {S:St} {ρ:Env} {σ:Im} {own:Nat→Option Nat} {hv:Nat→Value} {w0:World} {σ0:Base} {A:Nat→Prop} {a:Act} {w:World} {gs:List (Nat×Bool)} {Φ:aJ} {dst:Nat}
theorem wg {e:PE}{ρ':Env}(h:PI.runs Φ [.setR dst e] ρ=some ρ'):ρ'=ρ.setR dst (e.ev ρ):=by
 simp[PI.runs,PI.run] at h;exact h.symm
theorem Qa (hg:holds gs ρ=true){c e:PE}{ρ':Env}(h:PI.runs Φ [oS gs c,.setR dst e] ρ=some ρ'):(c.ev ρ).b=true∧ρ'=ρ.setR dst (e.ev ρ):=by
 simp only[PI.runs,PI.run,oS] at h;cases dC:gs with
 |nil=>
  subst dC;simp only at h;cases hb:(c.ev ρ).b<;>simp[hb] at h;exact⟨rfl,h.symm⟩
 |cons g r=>
  rw[dC] at h;simp only at h;rw[dC] at hg;cases hb:(c.ev ρ).b
  ·simp[PE.ev,hg,hb,D.b_bool] at h
  ·simp[PE.ev,hg,hb,D.b_bool] at h;exact⟨rfl,h.symm⟩
def dM (C:Ctx)(S:St)(ρ:Env)(σ:Im)(hv:Nat→Value)(Φ:aJ)(dst:Nat)(a:Act)(w:World)(o:Oper)(r:Sh×List PI):Prop:=
 ∀ρ',PI.runs Φ r.2 ρ=some ρ'→∃v d,ρ'=ρ.setR dst d∧(execOp a.eval o).run C.P w=.ok (.value v) w∧aF C S ρ σ hv r.1 v d∧∀gs s,r.1≠.opt gs s
theorem dM.dat {o:Oper}{t:Ty}{e:PE}{v:Value}(hx:(execOp a.eval o).run C.P w=.ok (.value v) w)(hr:Rep C.cap σ t v (e.ev ρ)):
 dM C S ρ σ hv Φ dst a w o (.dat t,[.setR dst e]):=by
 intro ρ' h;exact⟨v,e.ev ρ,wg h,hx,hr,fun _ _ e=>by cases e⟩
theorem dM.datc (hg:holds gs ρ=true){o:Oper}{t:Ty}{c e:PE}(hx:(c.ev ρ).b=true→∃v,(execOp a.eval o).run C.P w=.ok (.value v) w∧Rep C.cap σ t v (e.ev ρ)):
 dM C S ρ σ hv Φ dst a w o (.dat t,[oS gs c,.setR dst e]):=by
 intro ρ' h;obtain⟨hb,he⟩:=Qa hg h;obtain⟨v,h1,h2⟩:=hx hb;exact⟨v,e.ev ρ,he,h1,h2,fun _ _ e=>by cases e⟩
theorem Zk (h:Inv C S ρ σ own hv w0 σ0 A a w)(hC:CtxOK C σ0)(hg:holds gs ρ=true){x:Operand}{r:Sh×List PI}(hr:vF C S gs dst x=some r){o:Oper}(ho:o.op=.move x∨o.op=.assign x):
 dM C S ρ σ hv Φ dst a w o r:=by
 have hx:(execOp a.eval o).run C.P w=.ok (.value (a.eval x)) w:=by rcases ho with ho|ho<;>simp[execOp,ho,Sem.run,pure]
 unfold vF at hr;split at hr
 ·rename_i y hy;cases hr;exact .dat hx (bZ h hC hg hy)
 ·split at hr
  ·rename_i t _;obtain⟨hs,hn⟩:=m0 h hg t;split at hr
   ·cases hr
   ·cases hr
   ·cases hr;intro ρ' h';exact⟨_,_,wg h',hx,hs,hn⟩
  ·cases hr
theorem amY (h:Inv C S ρ σ own hv w0 σ0 A a w)(hC:CtxOK C σ0)(hg:holds gs ρ=true){c x y:Operand}{r:Sh×List PI}(hr:Ow C S gs dst c x y=some r){o:Oper}(ho:o.op=.pick c x y):
 dM C S ρ σ hv Φ dst a w o r:=by
 unfold Ow at hr;split at hr
 ·rename_i t;split at hr
  ·rename_i es;obtain⟨hs,_⟩:=m0 h hg t;rw[es] at hs;obtain⟨b,aQ,bf⟩:=Rep.bool_inv hs;simp only[ar] at hr;obtain⟨q1,h1,q2,h2,hr⟩:=hr;cases hb:Ty.beq q1.1 q2.1<;>simp only[hb,cond_true,cond_false] at hr
   ·cases hr
   ·cases hr;have e2:=Ty.beq_eq _ _ hb;have aj:(execOp a.eval o).run C.P w=.ok (.value (if b then a.eval x else a.eval y)) w:=by
     have:a.eval (.tmp t)=.bool b:=aQ;simp[execOp,ho,this,asBool,Sem.run,pure,bind,Sem.bind]
    refine .dat aj ?_;show Rep C.cap σ q1.1 _ (bif (ρ.r t).b then q1.2.ev ρ else q2.2.ev ρ);have eh:(ρ.r t).b=b:=by rw[bf];rfl
    cases b with
    |true=>
     simp only[eh,cond_true,if_true];exact bZ h hC (by simp only[holds,oG,eh];exact hg) h1
    |false=>
     simp only[eh,cond_false];rw[e2];exact bZ h hC (by simp only[holds,oG,eh];exact hg) h2
  ·cases hr
 ·cases hr
theorem IZ {op:BinOp}{T T':TypeId}{x y:Operand}{v v':Value}{o:Oper}(ho:o.op=.binOp op T x y T')(hv:a.eval x=v)(hv':a.eval y=v')(h1:∀u,v≠.agg u)(h2:v≠.nilIface):
 (execOp a.eval o).run C.P w=((binOp op T v v').bind fun r=>.pure (.value r)).run C.P w:=by
 have he:eqGuard op T x y v v'=.pure ():=by
  cases v<;>first|(exact absurd rfl h2)|(exact absurd rfl (h1 _))|(cases op<;>simp[eqGuard]<;>rfl)
 simp only[execOp,ho,hv,hv',he];rfl
theorem aeW {P:Program}{cap:Nat→Option CSig}{σ:Im}{ρ:Env}{x y:PE}{X Y:List D}(w:World)(hx:x.ev ρ=.agg X)(hy:y.ev ρ=.agg Y){vs us:List Value}(d:Nat):
 ∀(fs:List Field) (i:Nat) (ts:List Ty) (e:PE),uB P x y fs i ts=some e→(∀j t,ts[j]?=some t→Rep cap σ t (vs.getD (i+j) undef) (X.getD (i+j) .none)∧Rep cap σ t (us.getD (i+j) undef) (Y.getD (i+j) .none))→
  i+ts.length≤vs.length→i+ts.length≤us.length→
  ∃b,e.ev ρ=.v (.bool b)∧(Op.eqFields (d+1) vs.toArray us.toArray fs).run P w=.ok b w:=by
 intro fs
 induction fs with
 |nil=>
  intro i ts e h _ _ _;cases ts with
  |nil=>simp only[uB,aT] at h;subst h;exact⟨true,rfl,rfl⟩
  |cons t ts=>simp[uB] at h
 |cons f fs ih=>
  intro i ts e h hr l1 l2;cases ts with
  |nil=>simp[uB] at h
  |cons t ts=>
   simp only[uB] at h;cases hc:((f.name != "_")&&Nat.beq f.offset i&&nW P f.type t&&P.plainKey f.type)<;>simp only[hc,cond_true,cond_false] at h
   ·cases h
   simp only[aq,bne_iff_ne,ne_eq] at hc;obtain⟨⟨⟨hn,ho⟩,hk⟩,hp⟩:=hc;have ho:=aw ho;simp only[ar,ax] at h;obtain⟨e1,lK,r,pz,rfl⟩:=h
   obtain⟨b2,fm,aiV⟩:=ih (i+1) ts r pz (fun j t hj=>by
        have:=hr (j+1) t (by simpa using hj)
        rwa [show i+(j+1)=i+1+j by omega] at this) (by simp at l1;omega) (by simp at l2;omega)
   obtain⟨g1,g2⟩:=hr 0 t rfl;rw[ml] at g1 g2;simp only[oJ] at l1 l2;have yI:vs.toArray[f.offset]?=some (vs.getD i undef):=by rw[ho];simp[aI,show i<vs.length by omega]
   have hui:us.toArray[f.offset]?=some (us.getD i undef):=by rw[ho];simp[aI,show i<us.length by omega]
   have p1:=run_part_plain (P:=P) (w:=w) hp yI;have p2:=run_part_plain (P:=P) (w:=w) hp hui;have ex:(PE.cell x i).ev ρ=X.getD i .none:=by simp only[PE.ev,hx];rfl
   have ey:(PE.cell y i).ev ρ=Y.getD i .none:=by simp only[PE.ev,hy];rfl
   have main:∃b1,e1.ev ρ=.v (.bool b1)∧(Op.equalIn (d+1) f.type (vs.getD i undef) (us.getD i undef)).run P w=.ok b1 w:=by
        cases t with
        |int k=>
         obtain⟨n,v1,d1,_⟩:=g1.int_inv;obtain⟨m,v2,d2,_⟩:=g2.int_inv;simp only[A7,aT] at lK;subst lK;have hu:∃k',P.underlying f.type=some (.int k'):=by
          simp only[nW] at hk;split at hk
          ·exact⟨_,by assumption⟩
          ·cases hk
         obtain⟨k',hu⟩:=hu;exact⟨n==m,by simp only[PE.ev,hx,hy];show D.v (.bool (gz .eql (X.getD i .none).i (Y.getD i .none).i))=_;rw[d1,d2];rfl,by rw[v1,v2];exact run_equalIn_int w d f.type k k' n m hu⟩
        |bool=>
         obtain⟨n,v1,d1⟩:=g1.bool_inv;obtain⟨m,v2,d2⟩:=g2.bool_inv;simp only[A7,aT] at lK;subst lK;have hu:P.underlying f.type=some .bool:=by
          simp only[nW] at hk;split at hk
          ·assumption
          ·cases hk
         exact⟨n==m,by simp only[PE.ev,hx,hy];show D.v (.bool (uu .eql (X.getD i .none).b (Y.getD i .none).b))=_;rw[d1,d2];rfl,by rw[v1,v2];exact run_equalIn_bool' w d f.type n m hu⟩
        |str=>
         obtain⟨n,v1,d1,_⟩:=g1.str_inv;obtain⟨m,v2,d2,_⟩:=g2.str_inv;simp only[A7,aT] at lK;subst lK;have hu:P.underlying f.type=some .string:=by
          simp only[nW] at hk;split at hk
          ·assumption
          ·cases hk
         exact⟨n.toList==m.toList,by simp only[PE.ev,hx,hy];show D.v (.bool (uv .eql (X.getD i .none).s (Y.getD i .none).s))=_;rw[d1,d2];rfl,by rw[v1,v2];exact run_equalIn_string w d f.type n m hu⟩
        |_=>simp[A7] at lK
   obtain⟨b1,iJ,sF⟩:=main;refine⟨b1&&b2,by simp only[PE.ev,iJ,fm];rfl,?_⟩;simp only[Op.eqFields,if_pos hn,Sem.run_bind,p1,p2,sF,Result.andThen_ok];cases b1
   ·rfl
   ·simpa using aiV
theorem amL (h:Inv C S ρ σ own hv w0 σ0 A a w)(hC:CtxOK C σ0)(hg:holds gs ρ=true){op:BinOp}{T T':TypeId}{x y:Operand}{r:Sh×List PI}(hr:Og C S gs dst op T x y=some r){o:Oper}(ho:o.op=.binOp op T x y T'):
 dM C S ρ σ hv Φ dst a w o r:=by
 simp only[Og,ar] at hr;obtain⟨p,hp,q,hq,hr⟩:=hr;have aS:=bZ h hC hg hp;have dk:=bZ h hC hg hq;split at hr
 ·rename_i k k' e1 e2;rw[e1] at aS;rw[e2] at dk;obtain⟨n,aQ,bf,b1,b2⟩:=aS.int_inv;obtain⟨m,gm,dN,b3,b4⟩:=dk.int_inv;have aj:=IZ (C:=C) (w:=w) ho aQ gm (by intro u e;cases e) (by intro e;cases e);cases mI:(op==.shl||op==.shr)<;>simp only[mI,cond_true,cond_false] at hr
  ·cases sA:(k==k')<;>simp only[sA,cond_true,cond_false] at hr
   ·cases hr
   ·have LX:k=k':=by simpa using sA
    subst LX;cases Mq:(op==.quo||op==.rem)<;>simp only[Mq,cond_true,cond_false] at hr
    ·cases har:Et op<;>simp only[har,cond_true,cond_false] at hr
     ·cases lJ:xN op<;>simp only[lJ,cond_true,cond_false] at hr
      ·cases hr
      ·cases hr;refine .dat (v:=.bool (gz op n m)) ?_ ?_
       ·rw[aj];cases op<;>simp_all [xN]<;>simp[binOp,Op.intCmp,gz,Sem.run,pure,Sem.bind]
       ·simp only[PE.ev,bf,dN,D.i_int];exact .bool _
     ·cases hr;refine .dat (v:=.int k (cj op k n m)) ?_ ?_
      ·rw[aj];cases op<;>simp_all [Et]<;>simp[binOp,Op.intArith,Op.intBits,cj,Sem.run,pure,Sem.bind]
      ·simp only[PE.ev,bf,dN,D.i_int];refine .int _ _ ?_ ?_<;>(cases op<;>simp_all [Et]<;>first|exact(qd _ _).1|exact(qd _ _).2)
    ·cases hr;refine .datc hg fun hc=>⟨.int k (cj op k n m),?_,?_⟩
     ·have az:m≠0:=by simpa [PE.ev,dN,D.i_int,D.b_bool,gz,D.int] using hc
      rw[aj];rcases(by simpa using Mq:op=.quo∨op=.rem) with rfl|rfl<;>simp[binOp,Op.intDiv,cj,Sem.run,pure,Sem.bind,az]
     ·simp only[PE.ev,bf,dN,D.i_int];cases op<;>simp_all
      ·exact .int _ _ (qd _ _).1 (qd _ _).2
      ·exact .int _ _ (aa9 k ⟨b1,b2⟩).1 (aa9 k ⟨b1,b2⟩).2
  ·cases hr;refine .datc hg fun hc=>⟨.int k (cj op k n m),?_,?_⟩
   ·have az:¬m<0:=by
     have:0≤m:=by simpa [PE.ev,dN,D.i_int,D.b_bool,gz,D.int] using hc
     omega
    rw[aj];rcases(by simpa using mI:op=.shl∨op=.shr) with rfl|rfl<;>simp[binOp,Op.shift,cj,Sem.run,pure,Sem.bind,az]
   ·simp only[PE.ev,bf,dN,D.i_int];cases op<;>simp_all
    ·exact .int _ _ (qd _ _).1 (qd _ _).2
    ·exact .int _ _ (UE k _ ⟨b1,b2⟩).1 (UE k _ ⟨b1,b2⟩).2
 ·rename_i e1 e2;rw[e1] at aS;rw[e2] at dk;obtain⟨n,aQ,bf⟩:=aS.bool_inv;obtain⟨m,gm,dN⟩:=dk.bool_inv;have aj:=IZ (C:=C) (w:=w) ho aQ gm (by intro u e;cases e) (by intro e;cases e);cases dD:((op==.eql||op==.neq)&&MX C.P T)<;>simp only[dD,cond_true,cond_false] at hr
  ·cases hr
  ·cases hr;simp only[aq] at dD;obtain⟨dD,hT⟩:=dD;have yh:C.P.underlying T=some .bool:=by
        unfold MX at hT;split at hT
        ·assumption
        ·cases hT
   have heq:(Op.equal T (.bool n) (.bool m)).run C.P w=.ok (n==m) w:=by
        have:∀d,(Op.equalIn (d+1) T (.bool n) (.bool m)).run C.P w=.ok (n==m) w:=fun d=>by simp[Op.equalIn,run_underlying yh]
        exact this 9999
   refine .dat (v:=.bool (uu op n m)) ?_ ?_
   ·rw[aj];rcases(by simpa using dD:op=.eql∨op=.neq) with rfl|rfl<;>simp[binOp,uu,heq,Sem.run_bind']
   ·simp only[PE.ev,bf,dN,D.b_bool];exact .bool _
 ·rename_i e1 e2;rw[e1] at aS;rw[e2] at dk;obtain⟨n,aQ,bf,_⟩:=aS.str_inv;obtain⟨m,gm,dN,_⟩:=dk.str_inv;have aj:=IZ (C:=C) (w:=w) ho aQ gm (by intro u e;cases e) (by intro e;cases e);cases dD:xN op<;>simp only[dD,cond_true,cond_false] at hr
  ·cases hr
  ·cases hr;refine .dat (v:=.bool (uv op n m)) ?_ ?_
   ·rw[aj];cases op<;>simp_all [xN]<;>simp[binOp,Op.stringOp,uv,Sem.run,pure,Sem.bind]
   ·simp only[PE.ev,bf,dN,D.s_str];exact .bool _
 ·rename_i e e' e1 e2;rw[e1] at aS;rw[e2] at dk;split at hr
  case h_2=>cases hr
  rename_i E hT;cases dD:(op==.eql||op==.neq)<;>simp only[dD,cond_true,cond_false] at hr
  ·cases hr
  cases hr;obtain⟨n,xs,aQ,bf,air⟩:∃(n:Bool) (xs:List D),(n=true∧a.eval x=.slice none 0 0∨n=false∧∃k o m c,a.eval x=.slice (some ⟨k,o,none⟩) m c)∧p.2.ev ρ=.list xs∧n=decide (xs=[]):=by
   generalize a.eval x=vv at aS;generalize p.2.ev ρ=dd at aS;cases aS with
   |nsl0=>exact⟨true,[],.inl ⟨rfl,rfl⟩,rfl,rfl⟩
   |nsl _ k o m c xs h hx=>exact⟨false,xs,.inr ⟨rfl,k,o,m,c,rfl⟩,rfl,by simp[hx]⟩
  have gm:a.eval y=.slice none 0 0:=by
   generalize a.eval y=vv at dk;generalize q.2.ev ρ=dd at dk;cases dk;rfl
  have heq:(Op.equal T (a.eval x) (a.eval y)).run C.P w=.ok n w:=by
   have:∀d,(Op.equalIn (d+1) T (a.eval x) (a.eval y)).run C.P w=.ok n w:=fun d=>by
        rw[gm];rcases aQ with⟨rfl,h1⟩|⟨rfl,k,o,m,c,h1⟩<;>rw[h1]<;>simp[Op.equalIn,run_underlying hT]
   exact this 9999
  have aj:=IZ (C:=C) (w:=w) ho rfl rfl (by
   intro u e;rcases aQ with⟨_,h1⟩|⟨_,k,o,m,c,h1⟩<;>rw[h1] at e<;>cases e) (by
   intro e;rcases aQ with⟨_,h1⟩|⟨_,k,o,m,c,h1⟩<;>rw[h1] at e<;>cases e)
  refine .dat (v:=.bool (gz op xs.length 0)) ?_ ?_
  ·have az:∀(y:D) (ys:List D),¬((ys.length:Int)+1=0):=fun y ys=>by omega
   rw[aj,gm];rw[gm] at heq;rcases aQ with⟨_,h1⟩|⟨_,k,o,m,c,h1⟩<;>rw[h1] at heq ⊢<;>rcases(by simpa using dD:op=.eql∨op=.neq) with rfl|rfl<;>cases xs<;>simp[binOp,heq,Sem.run_bind',gz,air]<;>(try omega)
  ·simp only[PE.ev,bf,D.l_list,D.int,D.i_int];exact .bool _
 ·rename_i ts us e1 e2;rw[e1] at aS;rw[e2] at dk;cases dD:((op==.eql||op==.neq)&&Ty.beqs ts us&&K4 C.P T)<;>simp only[dD,cond_true,cond_false] at hr
  ·cases hr
  simp only[aq] at dD;obtain⟨⟨dD,vd⟩,cS⟩:=dD;have:=Ty.beqs_eq _ _ vd;subst this;simp only[K4,aq,jx] at cS;obtain⟨⟨Wc,aja⟩,ajb⟩:=cS;have BH:C.P.underlying T=some (.struct (C.P.fieldsOf T)):=by
   unfold Program.fieldsOf;split at Wc
   ·rename_i fs hu;rw[hu]
   ·cases Wc
  simp only[ax] at hr;obtain⟨e,he,rfl⟩:=hr;obtain⟨vs,ds,aQ,bf,l1,l2,aR,_⟩:=aS.agg_inv;obtain⟨zO,ds',gm,dN,l3,l4,yj,_⟩:=dk.agg_inv
  obtain⟨b,hb,aj⟩:=aeW (P:=C.P) (cap:=C.cap) (σ:=σ) (ρ:=ρ) w bf dN (vs:=vs) (us:=zO) 9998 _ 0 ts e he (fun j t hj=>by
   rw[jD];exact⟨aR j t hj,yj j t hj⟩) (by omega) (by omega)
  have heq:(Op.equalIn 10000 T (.agg vs.toArray) (.agg zO.toArray)).run C.P w=.ok b w:=by
   rw[run_equalIn_struct w 9999 T _ _ BH aja];exact aj
  have lN:=run_eqGuard_agg (P:=C.P) (w:=w) op T x y vs.toArray zO.toArray ajb
  have Vu:(execOp a.eval o).run C.P w=((binOp op T (.agg vs.toArray) (.agg zO.toArray)).run C.P w).andThen fun r w'=>.ok (.value r) w':=by
   simp only[execOp,ho,aQ,gm,Sem.run_bind,lN,Result.andThen_ok];rfl
  rcases(by simpa using dD:op=.eql∨op=.neq) with rfl|rfl
  ·refine .dat (v:=.bool b) ?_ ?_
   ·rw[Vu,run_eql_struct,heq];rfl
   ·show Rep _ _ .bool _ (PE.ev ρ e);rw[hb];exact .bool _
  ·refine .dat (v:=.bool (!b)) ?_ ?_
   ·rw[Vu,run_neq_struct,heq];rfl
   ·show Rep _ _ .bool _ (PE.ev ρ (.nt e));simp only[PE.ev,hb];exact .bool _
 ·cases hr
theorem am1 (h:Inv C S ρ σ own hv w0 σ0 A a w)(hC:CtxOK C σ0)(hg:holds gs ρ=true){op:UnOp}{T:TypeId}{x:Operand}{r:Sh×List PI}(hr:Oy C S gs dst op x=some r){o:Oper}(ho:o.op=.unOp op T x):
 dM C S ρ σ hv Φ dst a w o r:=by
 simp only[Oy,ar] at hr;obtain⟨p,hp,hr⟩:=hr;have aS:=bZ h hC hg hp;split at hr
 ·rename_i k e1;rw[e1] at aS;obtain⟨n,aQ,bf,b1,b2⟩:=aS.int_inv;cases hr;refine .dat (v:=.int k (cj .sub k 0 n)) ?_ ?_
  ·simp[execOp,ho,aQ,Op.unary,Op.intArith,cj,Sem.run,pure,bind,Sem.bind]
  ·simp only[PE.ev,bf,D.i_int];exact .int _ _ (qd _ _).1 (qd _ _).2
 ·rename_i e1;rw[e1] at aS;obtain⟨n,aQ,bf⟩:=aS.bool_inv;cases hr;refine .dat (v:=.bool (!n)) ?_ ?_
  ·simp[execOp,ho,aQ,Op.unary,Sem.run,pure,bind,Sem.bind]
  ·simp only[PE.ev,bf,D.b_bool];exact .bool _
 ·cases hr
theorem amN (h:Inv C S ρ σ own hv w0 σ0 A a w)(hC:CtxOK C σ0)(hg:holds gs ρ=true){s d:TypeId}{x:Operand}{r:Sh×List PI}(hr:Oi C S gs dst s d x=some r){o:Oper}(ho:o.op=.convert s d x):
 dM C S ρ σ hv Φ dst a w o r:=by
 simp only[Oi,ar] at hr;obtain⟨p,hp,hr⟩:=hr;have aS:=bZ h hC hg hp;split at hr
 ·rename_i k0 k k1 u1 u2 e1;rw[e1] at aS;obtain⟨n,aQ,bf,b1,b2⟩:=aS.int_inv;cases hr;refine .dat (v:=.int k (k.wrap n)) ?_ ?_
  ·simp[execOp,ho,aQ,convert,run_underlying u1,run_underlying u2,Conv.intToInt]
  ·simp only[PE.ev,bf,D.i_int];exact .int _ _ (qd _ _).1 (qd _ _).2
 ·rename_i u1 u2 e1;rw[e1] at aS;obtain⟨n,aQ,bf,b1⟩:=aS.str_inv;cases hr;refine .dat (v:=.string n) ?_ ?_
  ·simp[execOp,ho,aQ,convert,run_underlying u1,run_underlying u2]
  ·rw[bf];exact .str _ b1
 ·cases hr
end
end Cx
namespace Cx
open Go Go.RowKit
theorem sR {n:Nat}(h:n≤maxLen):IntKind.i64.min≤(n:Int)∧(n:Int)≤IntKind.i64.max:=by
 simp only[maxLen] at h;simp only[IntKind.min,IntKind.max,IntKind.signed,IntKind.bits];simp;omega
section
variable {C:Ctx} {S:St} {ρ:Env} {σ:Im} {own:Nat→Option Nat} {hv:Nat→Value} {w0:World} {σ0:Base} {A:Nat→Prop} {a:Act} {w:World} {gs:List (Nat×Bool)} {Φ:aJ} {dst:Nat}
def JQ (C:Ctx)(σ:Im)(w:World)(B:Nat)(t:Ty)(v:Value)(d:D):Prop:=
 Rep C.cap σ t v d∨
 (∃T e cells xs,t=.slice e.rol∧d=.list xs∧w.ownsRow B T e.size v xs.length cells∧dT C.cap σ e cells xs)∨
 (∃k arr clock es kt et,t=.map kt et∧v=.map (some k)∧w.heap[k]?=some (.map arr clock)∧d=.map es∧es.length=arr.size∧es.length≤maxLen∧
    ∀(i:Nat) (e:MapEntry) (p:D×D),arr[i]?=some e→es[i]?=some p→Rep C.cap σ kt e.key p.1∧Rep C.cap σ et e.val p.2)
theorem SA (h:Inv C S ρ σ own hv w0 σ0 A a w)(hC:CtxOK C σ0)(hg:holds gs ρ=true){x:Operand}{r:Ty×PE}(hu:view C S gs x=some r):JQ C σ w w0.heap.size r.1 (a.eval x) (r.2.ev ρ):=by
 unfold view at hu;split at hu
 ·rename_i r' uY;cases hu;exact .inl (bZ h hC hg uY)
 ·split at hu
  ·rename_i t _;obtain⟨hs,_⟩:=m0 h hg t;split at hu
   ·rename_i j ver e;rw[e] at hs;cases hb:Nat.beq ver (S.ver j)<;>simp only[hb,cond_true,cond_false] at hu
    ·cases hu
    ·have dv:=aw hb;have ho:=h.objs j;have cf:a.eval (.tmp t)=hv j:=hs.2 dv;split at hu
     ·rename_i T e eo;rw[eo] at ho;cases hu;obtain⟨cells,xs,h1,h2,h3,h4⟩:=ho;rw[cf];exact .inr (.inl ⟨T,e,cells,xs,rfl,h1,h2,h3⟩)
     ·rename_i kt et eo;rw[eo] at ho;cases hu;obtain⟨k,arr,clock,es,h1,h2,h3,h4,h5,⟨hx,_⟩,h6⟩:=ho;rw[cf];exact .inr (.inr ⟨k,arr,clock,es,kt,et,rfl,h1,h3,h4,h5,hx,h6⟩)
     ·cases hu
   ·cases hu
  ·cases hu
theorem vK {w:World}{B e size n:Nat}{v:Value}{cells:List Value}(h:w.ownsRow B e size v n cells):∃b c,v=.slice b n c∧n≤maxLen∧n≤c:=by
 rcases h.2 with⟨rfl,rfl⟩|⟨g,cap,cur,rfl,h1,h2,h3,h4,h5⟩
 ·exact⟨none,0,rfl,by decide,aU _⟩
 ·exact⟨_,cap,rfl,gy h3 h4,h3⟩
theorem P8 {b:Builtin}{args:Array Operand}{ts:Array TypeId}{o:Oper}(ho:o.op=.call {callee:=.builtin b,args:=args,argTypes:=ts}):
 ∃cs,(execOp a.eval o).run C.P w=(builtin b ts o.type cs (args.map a.eval)).run C.P w:=
 ⟨_,by simp only[execOp,ho,resolve,invoke];rfl⟩
theorem amU (h:Inv C S ρ σ own hv w0 σ0 A a w)(hC:CtxOK C σ0)(hg:holds gs ρ=true){T:TypeId}{x:Operand}{r:Sh×List PI}(hr:Ot C S gs dst T x=some r){o:Oper}
 (ho:o.op=.call {callee:=.builtin .len,args:=#[x],argTypes:=#[T]}):dM C S ρ σ hv Φ dst a w o r:=by
 simp only[Ot,ar] at hr;obtain⟨p,hp,hr⟩:=hr;have aS:=SA h hC hg hp;obtain⟨cs,aj⟩:=P8 (C:=C) (w:=w) (a:=a) ho;split at hr
 ·rename_i e T' e1 e2;rw[e1] at aS;cases hr;have hx:∃b n c xs,a.eval x=.slice b n c∧p.2.ev ρ=.list xs∧xs.length=n∧n≤maxLen:=by
   rcases aS with aS|⟨T,e,cells,xs,ht,hd,bt,fI⟩|⟨k,arr,clock,es,kt,et,ht,_⟩
   ·obtain⟨xs,hd,⟨⟨p0,aQ⟩,rfl⟩|⟨k,o,c,aQ,h1,h2,_⟩⟩:=aS.slice_inv
    ·exact⟨p0,0,0,[],aQ,hd,rfl,by decide⟩
    ·exact⟨_,_,c,xs,aQ,hd,rfl,by omega⟩
   ·obtain⟨b,c,aQ,h1,_⟩:=vK bt;exact⟨b,_,c,xs,aQ,hd,rfl,h1⟩
   ·cases ht
  obtain⟨b,n,c,xs,aQ,hd,hl,hm⟩:=hx;refine .dat (v:=.int .i64 n) ?_ ?_
  ·rw[aj];simp[builtin,Builtin.len_,aQ,run_underlying e2,goInt]
  ·simp only[PE.ev,hd,D.l_list,hl];exact .int _ _ (sR hm).1 (sR hm).2
 ·rename_i e T' e1 e2;rw[e1] at aS;cases hr;rcases aS with aS|⟨T,e,cells,xs,ht,_⟩|⟨k,arr,clock,es,kt,et,ht,_⟩
  ·generalize ve:a.eval x=v at aS;generalize By:p.2.ev ρ=d at aS;cases aS;refine .dat (v:=.int .i64 0) ?_ ?_
   ·rw[aj];simp[builtin,Builtin.len_,ve,run_underlying e2,goInt]
   ·simp only[PE.ev,By,D.l_list];exact .int _ _ (by decide) (by decide)
  ·cases ht
  ·cases ht
 ·rename_i e1 e2;rw[e1] at aS;cases hr;rcases aS with aS|⟨T,e,cells,xs,ht,_⟩|⟨k,arr,clock,es,kt,et,ht,_⟩
  ·obtain⟨n,aQ,bf,hm⟩:=aS.str_inv;refine .dat (v:=.int .i64 n.size) ?_ ?_
   ·rw[aj];simp[builtin,Builtin.len_,aQ,run_underlying e2,goInt]
   ·simp only[PE.ev,bf,D.s_str];exact .int _ _ (sR hm).1 (sR hm).2
  ·cases ht
  ·cases ht
 ·rename_i k0 e0 a0 b0 e1 e2;rw[e1] at aS;cases hr;rcases aS with aS|⟨T,e,cells,xs,ht,_⟩|⟨k,arr,clock,es,kt,et,ht,aQ,hb,bf,hl,hx,_⟩
  ·generalize ve:a.eval x=v at aS;generalize By:p.2.ev ρ=d at aS;cases aS with
   |mapnil=>
    refine .dat (v:=.int .i64 0) ?_ ?_
    ·rw[aj];simp[builtin,Builtin.len_,ve,run_underlying e2,goInt]
    ·simp only[PE.ev,By,D.m];exact .int _ _ (by decide) (by decide)
   |map kt et r ij es hm hl hx hk _=>
    obtain⟨_,arr,clock,hb,gR⟩:=(h.ok.m _ _ hm).resolve_right (fun e=>CC hl hk e.1);have hn:arr.size=es.length:=by rw[hl,←gR];simp[entriesOf]
    refine .dat (v:=.int .i64 arr.size) ?_ ?_
    ·rw[aj];simp[builtin,Builtin.len_,ve,run_underlying e2,goInt,getObj,Sem.run,hb]
    ·simp only[PE.ev,By,D.m,hn];exact .int _ _ (sR hx).1 (sR hx).2
  ·cases ht
  ·refine .dat (v:=.int .i64 arr.size) ?_ ?_
   ·rw[aj];simp[builtin,Builtin.len_,aQ,run_underlying e2,goInt,getObj,Sem.run,hb]
   ·simp only[PE.ev,bf,D.m,hl];exact .int _ _ (sR (hl▸hx)).1 (sR (hl▸hx)).2
 ·cases hr
theorem Zj (h:Inv C S ρ σ own hv w0 σ0 A a w)(hC:CtxOK C σ0)(hg:holds gs ρ=true){mx:Bool}{x y:Operand}{ts:Array TypeId}{r:Sh×List PI}(hr:HQ C S gs dst mx x y=some r){o:Oper}
 (ho:o.op=.call {callee:=.builtin (bif mx then .max else .min),args:=#[x,y],argTypes:=ts}):dM C S ρ σ hv Φ dst a w o r:=by
 simp only[HQ,ar] at hr;obtain⟨p,hp,q,hq,hr⟩:=hr;have aS:=bZ h hC hg hp;have dk:=bZ h hC hg hq;obtain⟨cs,aj⟩:=P8 (C:=C) (w:=w) (a:=a) ho;split at hr
 ·rename_i k k' e1 e2;rw[e1] at aS;rw[e2] at dk;obtain⟨n,aQ,bf,b1,b2⟩:=aS.int_inv;obtain⟨m,gm,dN,b3,b4⟩:=dk.int_inv;cases sA:(k==k')<;>simp only[sA,cond_true,cond_false] at hr
  ·cases hr
  ·have LX:k=k':=by simpa using sA
   subst LX;cases hr;cases mx with
   |true=>
    refine .dat (v:=.int k (if m>n then m else n)) ?_ ?_
    ·rw[aj];simp[builtin,Builtin.max_,Builtin.max2,aQ,gm]
    ·simp only[cond_true,PE.ev,bf,dN,D.i_int];by_cases af:m>n<;>simp[af]<;>constructor<;>assumption
   |false=>
    refine .dat (v:=.int k (if m<n then m else n)) ?_ ?_
    ·rw[aj];simp[builtin,Builtin.min_,Builtin.min2,aQ,gm]
    ·simp only[cond_false,PE.ev,bf,dN,D.i_int];by_cases af:m<n<;>simp[af]<;>constructor<;>assumption
 ·cases hr
theorem amO (h:Inv C S ρ σ own hv w0 σ0 A a w)(hC:CtxOK C σ0)(hg:holds gs ρ=true){x:Operand}{i:Nat}{r:Sh×List PI}(hr:Oj C S gs dst x i=some r){o:Oper}(ho:o.op=.extract x i):
 dM C S ρ σ hv Φ dst a w o r:=by
 simp only[Oj,ar] at hr;obtain⟨p,hp,hr⟩:=hr;have aS:=bZ h hC hg hp;split at hr
 ·rename_i ts e1;rw[e1] at aS;simp only[ax] at hr;obtain⟨t,ht,rfl⟩:=hr;obtain⟨vs,ds,aQ,bf,l1,l2,aR⟩:=aS.tup_inv;have hi:i<vs.length:=by rw[l1];exact(ed.1 ht).1
  refine .dat (v:=vs.getD i undef) ?_ ?_
  ·obtain⟨u,hu⟩:∃u,vs[i]?=some u:=⟨_,be hi⟩
   have lN:vs.getD i undef=u:=by rw[aI,hu];rfl
   rw[lN];simp[execOp,ho,aQ,Instr.extract,hu]
  ·simp only[PE.ev,bf];exact aR i t ht
 ·cases hr
end
end Cx
namespace Cx
open Go Go.RowKit
theorem sN {P:Program}{T:TypeId}{ag:Bool}(h:nV P T=some ag)(w:World):(isAgg T).run P w=.ok ag w:=by
 unfold nV at h;split at h
 ·rename_i fs hu;cases h;simp[isAgg,run_underlying hu]
 ·rename_i n e hu;cases h;simp[isAgg,run_underlying hu]
 ·rename_i d h1 h2 hu;cases h;cases d<;>simp_all [isAgg,run_underlying hu]
 ·cases h
theorem rQ (k o n:Nat):(⟨k,o,none⟩:Addr).add n=⟨k,o+n,none⟩:=by
 unfold Addr.add;split<;>simp_all
theorem I1 {P:Program}{T:TypeId}{inf:TypeInfo}{ag:Bool}{w:World}{k o:Nat}{cs:List Value}(hi:P.info? T=some inf)(ha:nV P T=some ag)(hl:cs.length=inf.size)
 (h1:ag=false→cs.length=1) (hc:∀j u,cs[j]?=some u→w.cell? ⟨k,o+j,none⟩=some u):(loadVar T ⟨k,o,none⟩).run P w=.ok (rowOf ag cs) w:=by
 cases ag with
 |true=>
  have:=run_loadCells_list (P:=P) w ⟨k,o,none⟩ cs (fun j v hv=>by rw[rQ];exact hc j v hv);rw[hl] at this;simp[loadVar,sN ha,Go.sizeOf,run_typeInfo w hi,this,rowOf]
 |false=>
  obtain⟨u,hu⟩:∃u,cs=[u]:=by
   have:=h1 rfl
   match cs,this with
   |[u],_=>exact⟨u,rfl⟩
  subst hu;have h0:=hc 0 u rfl;simp only[ml] at h0;simp[loadVar,sN ha,rowOf,run_load,h0]
section
variable {C:Ctx} {S:St} {ρ:Env} {σ:Im} {own:Nat→Option Nat} {hv:Nat→Value} {w0:World} {σ0:Base} {A:Nat→Prop} {a:Act} {w:World} {gs:List (Nat×Bool)} {Φ:aJ} {dst:Nat}
theorem tA {o:Oper}{T:TypeId}{x:Operand}{v:Value}{k off:Nat}(ho:o.op=.load T x)(hx:a.eval x=.pointer (some ⟨k,off,none⟩))(hl:(loadVar T ⟨k,off,none⟩).run C.P w=.ok v w):
 (execOp a.eval o).run C.P w=.ok (.value v) w:=by
 simp[execOp,ho,Instr.loadAt,hx,Instr.sureAddr,hl]
theorem qL {α:Type}{l:List α}{i:Nat}{x d:α}(h:l[i]?=some x):l.getD i d=x:=by
 rw[aI,h];rfl
theorem HV {cap:Nat→Option CSig}{ts:List Ty}{vs:List Value}{ds:List D}{ag:Bool}{n off:Nat}{ty:Ty}(hp:tc ag n ts off=some ty)
 (h1:vs.length=ts.length) (h2:ds.length=ts.length) (hr:∀(i:Nat) (t:Ty),ts[i]?=some t→Rep cap σ t (vs.getD i undef) (ds.getD i .none)) (ho:∀(i:Nat) (t:Ty),ts[i]?=some t→t.one=true):
 Rep cap σ ty (rowOf ag ((vs.drop off).take n)) (bif ag then .agg ((ds.drop off).take n) else ds.getD off .none)∧((vs.drop off).take n).length=n∧(ag=false→n=1):=by
 unfold tc at hp;cases hle:Nat.ble (off+n) ts.length<;>simp only[hle,cond_true,cond_false] at hp
 ·cases hp
 ·have BQ:=j3 hle;have hlen:((vs.drop off).take n).length=n:=by simp;omega
  cases ag with
  |true=>
   simp only[cond_true] at hp;cases hp;refine⟨?_,hlen,fun e=>by cases e⟩;simp only[rowOf,if_true,cond_true];refine .agg _ _ _ (by simp;omega) (by simp;omega) (fun i t hi=>?_) (fun i t hi=>?_)
   ·simp only[ga,gw] at hi;split at hi
    ·rename_i cv;have:=hr (off+i) t hi;simpa [aI,ga,gw,cv] using this
    ·cases hi
   ·simp only[ga,gw] at hi;split at hi
    ·exact ho _ t hi
    ·cases hi
  |false=>
   simp only[cond_false] at hp;cases hn:Nat.beq n 1<;>simp only[hn,cond_true,cond_false] at hp
   ·cases hp
   ·have kf:=aw hn;subst kf;refine⟨?_,hlen,fun _=>rfl⟩;have:=hr off ty hp;have af:off<vs.length:=by omega
    simpa [rowOf,aI,ga,gw] using this
theorem HU {ag:Bool}{n:Nat}{e:PE}{off:Nat}{ds:List D}(h:e.ev ρ=.agg ds):(y5 ag n e off).ev ρ=bif ag then .agg ((ds.drop off).take n) else ds.getD off .none:=by
 cases ag<;>simp[y5,PE.ev,h,D.cells,D.c]
theorem Inv.cell (h:Inv C S ρ σ own hv w0 σ0 A a w){k o:Nat}{u:Value}(hc:σ.c k o=some u):w.cell? ⟨k,o,none⟩=some u:=h.ok.c _ _ _ hc
theorem Rep.rowOf {cap:Nat→Option CSig}{t:Ty}{v:Value}{d:D}(h:Rep cap σ t v d):v=Cx.rowOf t.rowT v.cells.toList:=by
 cases h<;>simp[Cx.rowOf,Ty.rowT,Value.cells]
theorem Rep.cells1 {cap:Nat→Option CSig}{t:Ty}{v:Value}{d:D}(h:Rep cap σ t v d)(ht:t.rowT=false):v.cells=#[v]:=by
 cases h<;>simp_all [Ty.rowT,Value.cells]
theorem amV (h:Inv C S ρ σ own hv w0 σ0 A a w){T:TypeId}{x:Operand}{inf:TypeInfo}{ag:Bool}(hi:C.P.info? T=some inf)(ha:nV C.P T=some ag){o:Oper}(ho:o.op=.load T x)
 {ty:Ty} {e:PE} (hr:Rep C.cap σ (.ref ty) (a.eval x) (e.ev ρ)) (hs:Nat.beq inf.size ty.size=true) (hag:(ag==ty.rowT)=true):
 dM C S ρ σ hv Φ dst a w o (.dat ty,[.setR dst (.deref e)]):=by
 obtain⟨k,off,v,y,aQ,bf,bE,iK⟩:=hr.ref_inv;have jM:=aw hs;have Ve:ag=ty.rowT:=by simpa using hag
 have hz:=bE.size;have lT:=bE.rowOf;refine .dat (v:=v) (tA ho aQ ?_) ?_
 ·rw[lT,←Ve];refine I1 hi ha (by simp[hz,jM]) (fun e=>?_) (fun j u hu=>?_)
  ·subst e;simp[bE.cells1 Ve.symm]
  ·exact h.cell (iK j u (by simpa using hu))
 ·simp only[PE.ev,bf,D.deref];exact bE
theorem KC {w:World}{k:Nat}{cs:Array Value}{T:TypeId}{fr:Nat×Nat}(hb:w.heap[k]?=some (.cells cs T fr)){i:Nat}(hi:i<cs.size):w.cell? ⟨k,i,none⟩=some (cs.getD i undef):=by
 simp[World.cell?,hb,fi,iY hi]
theorem ya (cs:Array Value)(i:Nat):cs.toList.getD i undef=cs.getD i undef:=by
 simp[aI,fi]
theorem ab3 {b:PE}{cs:Array Value}{ds:List D}(hd:b.ev ρ=.agg ds):∀(shs:List Sh) (i:Nat) (l:List AgC),Er S shs=some l→(∀m s,shs[m]?=some s→aF C S ρ σ hv s (cs.getD (i+m) undef) (ds.getD (i+m) .none))→
 l.length=shs.length∧(PE.evc ρ (qu b l i)).length=l.length∧∀(m:Nat) (c:AgC),l[m]?=some c→zS C S σ hv c (cs.getD (i+m) undef) ((PE.evc ρ (qu b l i)).getD m .none)
 |[],i,l,hl,_=>by simp only[Er,aT] at hl;subst hl;exact⟨rfl,rfl,fun m c hm=>by simp at hm⟩
 |s::r,i,l,hl,aR=>by
  simp only[Er,ar] at hl;obtain⟨x,hx,hl⟩:=hl
  obtain⟨g1,g2,g3⟩:=ab3 hd r (i+1) x hx fun m s hm=>by
   have:=aR (m+1) s (by simpa using hm)
   rwa [show i+(m+1)=i+1+m by omega] at this
  have h0:=aR 0 s rfl;rw[ml] at h0;split at hl
  ·rename_i t;cases dj:t.one<;>simp only[dj,cond_true,cond_false] at hl
   ·cases hl
   cases hl;have gO:Rep C.cap σ t (cs.getD i undef) (ds.getD i .none):=h0;have e:PE.evc ρ (qu b (.dat t::x) i)=ds.getD i .none::PE.evc ρ (qu b x (i+1)):=by
        simp only[qu,PE.evc,PE.ev,hd,D.c];have:=gO.dcells dj;simp only[D.cells] at this ⊢;rw[this];rfl
   rw[e];refine⟨by simp[g1],by simp[g2],fun m c hm=>?_⟩;cases m with
   |zero=>simp at hm;subst hm;exact⟨dj,gO⟩
   |succ m=>simp at hm;have:=g3 m c hm;rw[show i+1+m=i+(m+1) by omega] at this;simpa using this
  ·rename_i j ver;cases hb:Nat.beq ver (S.ver j)<;>simp only[hb,cond_true,cond_false] at hl
   ·cases hl
   cases hl;have e:PE.evc ρ (qu b (.obj j ver::x) i)=.v (.bool false)::PE.evc ρ (qu b x (i+1)):=rfl;rw[e];refine⟨by simp[g1],by simp[g2],fun m c hm=>?_⟩;cases m with
   |zero=>simp at hm;subst hm;exact h0
   |succ m=>simp at hm;have:=g3 m c hm;rw[show i+1+m=i+(m+1) by omega] at this;simpa using this
  ·cases hl
theorem HP (h:Inv C S ρ σ own hv w0 σ0 A a w)(hC:CtxOK C σ0)(hg:holds gs ρ=true){T:TypeId}{x:Operand}{r:Sh×List PI}(hr:CJ C S gs dst T x=some r){o:Oper}(ho:o.op=.load T x):
 dM C S ρ σ hv Φ dst a w o r:=by
 unfold CJ at hr;split at hr
 case h_2=>cases hr
 rename_i inf ag hi ha;have dX:aF C S ρ σ hv (gM S gs x) (a.eval x) ((tu x).ev ρ):=by
  cases x with
  |tmp t=>exact(m0 h hg t).1
  |_=>trivial
 split at hr
 ·
  rename_i j ver off es;rw[es] at dX;cases hb:Nat.beq ver (S.ver j)<;>simp only[hb,cond_true,cond_false] at hr
  ·cases hr
  have dv:=aw hb;obtain⟨k,dZ,fl⟩:=dX.2 dv;have aX:=h.objs j;split at hr
  ·rename_i bag shs eo;rw[eo] at aX;obtain⟨k',cs,T',ds,h1,h2,h3,h4,h5,h6,h7⟩:=aX;rw[dZ] at h1;cases h1;cases ag with
   |true=>
    simp only[cond_true] at hr;cases hle:Nat.ble (off+inf.size) shs.length<;>simp only[hle,cond_true,cond_false] at hr
    ·cases hr
    have BQ:=j3 hle;have hlen:((shs.drop off).take inf.size).length=inf.size:=by simp;omega
    have da:∀m u,((cs.toList.drop off).take inf.size)[m]?=some u→w.cell? ⟨k,off+m,none⟩=some u:=fun m u hu=>by
     simp only[ga,gw] at hu;split at hu
     ·rename_i hm;have:=KC h3 (i:=off+m) (by omega);rw[this,←ya];exact congrArg some (qL hu)
     ·cases hu
    have aiW:=tA ho fl (I1 hi ha (by simp;omega) (fun e=>by cases e) da);simp only[ax] at hr;obtain⟨p,hp,rfl⟩:=hr
    obtain⟨l1,es,⟨he,_⟩,l2,bE⟩:=KH (b:=.o j) h (cs:=cs.toList) h5 _ off p (fun m s hm=>by
     simp only[ga,gw] at hm;split at hm
     ·have:=(h7 (off+m) s hm).2;rw[ya];exact this
     ·cases hm) hp
    refine .dat (v:=rowOf true ((cs.toList.drop off).take inf.size)) aiW ?_
    ·simp only[PE.ev,rowOf,if_true,he];refine .agg _ _ _ (by simp;omega) (by omega) (fun m t hm=>?_) (fun m t hm=>(bE m t hm).1);have qY:m<inf.size:=by have:=(ed.1 hm).1;omega
     have:=(bE m t hm).2;simpa [aI,ga,gw,qY] using this
   |false=>
    simp only[cond_false] at hr;split at hr
    ·rename_i ty hs;cases dj:ty.one<;>simp only[dj,cond_true,cond_false] at hr
     ·cases hr
     cases hr;have nN:=(h7 off _ hs).2;have af:off<shs.length:=(ed.1 hs).1;have uV:(loadVar T ⟨k,off,none⟩).run C.P w=.ok (cs.getD off undef) w:=by
      simp[loadVar,sN ha,run_load,KC h3 (i:=off) (by omega)]
     refine .dat (v:=cs.getD off undef) (tA ho fl uV) ?_;simp only[PE.ev,h5,D.c,D.cells];exact nN
    ·rename_i j' m8 hs;cases hr;have nN:=(h7 off _ hs).2;have af:off<shs.length:=(ed.1 hs).1;have uV:(loadVar T ⟨k,off,none⟩).run C.P w=.ok (cs.getD off undef) w:=by
      simp[loadVar,sN ha,run_load,KC h3 (i:=off) (by omega)]
     intro ρ' aj;exact⟨_,_,wg aj,tA ho fl uV,nN,fun _ _ e=>by cases e⟩
    ·cases hr
  ·rename_i ts eo;rw[eo] at aX;obtain⟨k',v,h1,h2,h3⟩:=aX;rw[dZ] at h1;cases h1;simp only[ax] at hr;obtain⟨ty,aV,rfl⟩:=hr;obtain⟨vs,ds,rfl,hd,l1,l2,aR,dj⟩:=h2.agg_inv;obtain⟨bE,hlen,kf⟩:=HV aV l1 l2 aR dj;refine .dat (tA ho fl (I1 hi ha hlen (fun e=>by rw[hlen];exact kf e) (fun m u hu=>h.cell ?_))) (by rw[HU (e:=.o j) hd];exact bE);simp only[ga,gw] at hu;split at hu
   ·exact h3 (off+m) u (by simpa [Value.cells] using hu)
   ·cases hu
  ·rename_i ty az eo;rw[eo] at aX;obtain⟨k',v,h1,h2,h3⟩:=aX;rw[dZ] at h1;cases h1;cases hc:(!ag&&ty.one&&Nat.beq off 0)<;>simp only[hc,cond_true,cond_false] at hr
   ·cases hr
   cases hr;simp only[aq,jx] at hc;have gU:=aw hc.2;subst gU;have uV:(loadVar T ⟨k,0,none⟩).run C.P w=.ok v w:=by
        have:=h.cell (h3 0 v (by simp[(h2.oneCell hc.1.2).1]));rw[hc.1.1] at ha;simp[loadVar,sN ha,run_load,this]
   exact .dat (tA ho fl uV) h2
  ·cases hr
 ·
  rename_i j ver size off es;rw[es] at dX;cases hb:Nat.beq ver (S.ver j)<;>simp only[hb,cond_true,cond_false] at hr
  ·cases hr
  have dv:=aw hb;obtain⟨k,n,c,ik,i,dZ,sr,cv,fl⟩:=dX.2 dv;have aX:=h.objs j;split at hr
  ·rename_i T' ts eo;rw[eo] at aX;obtain⟨cells,xs,h1,h2,⟨vs,h3,h4⟩,h5⟩:=aX;cases aN:Nat.beq size ts.length<;>simp only[aN,cond_true,cond_false] at hr
   ·cases hr
   have sI:=aw aN;simp only[ax] at hr;obtain⟨ty,aV,rfl⟩:=hr;rw[dZ] at h2;have aW:=h2.cells (g:=k) rfl;obtain⟨b,c',e1,BR,BS⟩:=vK h2;cases e1;obtain⟨y,hy⟩:∃y,xs[i]?=some y:=⟨_,be cv⟩
   have G3:=h3 i y hy;obtain⟨us,ds,yI,hd,l1,l2,aR,dj⟩:=G3.agg_inv;obtain⟨bE,hlen,kf⟩:=HV aV l1 l2 aR dj;have aiv:(PE.nth (.o j) (tu x)).ev ρ=.agg ds:=by
        simp only[PE.ev,h1,D.l_list,sr,D.i_int,tQ];rw[qL hy,hd]
   refine .dat (tA ho fl (I1 hi ha hlen (fun e=>by rw[hlen];exact kf e) (fun m u hu=>?_))) (by rw[HU aiv];exact bE);simp only[ga,gw] at hu;split at hu
   ·have:=h4 i (off+m) u (by omega) (by rw[yI];simpa [Value.cells] using hu);have:=aW _ _ this;rw[rQ] at this;simpa [Ty.size,sI,tW] using this
   ·cases hu
  ·rename_i T' e az eo;rw[eo] at aX;obtain⟨cells,xs,h1,h2,⟨vs,h3,h4⟩,h5⟩:=aX;cases hc:(!ag&&e.one&&Nat.beq off 0&&Nat.beq size 1)<;>simp only[hc,cond_true,cond_false] at hr
   ·cases hr
   cases hr;simp only[aq,jx] at hc;have gU:=aw hc.1.2;have aN:=aw hc.2;subst gU;subst aN;rw[dZ] at h2;have aW:=h2.cells (g:=k) rfl;obtain⟨b,c',e1,BR,BS⟩:=vK h2;cases e1;obtain⟨y,hy⟩:∃y,xs[i]?=some y:=⟨_,be cv⟩
   have G3:=h3 i y hy;have uV:(loadVar T ⟨k,i*1+0,none⟩).run C.P w=.ok (vs i) w:=by
        have h6:=h4 i 0 (vs i) cv (by simp[(G3.oneCell hc.1.1.2).1]);have:=aW _ _ h6;rw[rQ] at this;have BD:e.size=1:=by cases e<;>simp_all [Ty.size,Ty.one]
        rw[hc.1.1.1] at ha;rw[BD] at this;simp only[jD,ml,Nat.mul_one] at this;simp[loadVar,sN ha,run_load,this]
   refine .dat (tA ho fl uV) ?_;simp only[PE.ev,h1,D.l_list,sr,D.i_int,tQ];rw[qL hy];exact G3
  ·cases hr
 ·simp only[ar] at hr;obtain⟨p,hp,hr⟩:=hr;have aS:=bZ h hC hg hp;split at hr
  ·rename_i ty e1;rw[e1] at aS;cases hc:(Nat.beq inf.size ty.size&&(ag==ty.rowT))<;>simp only[hc,cond_true,cond_false] at hr
   ·cases hr
   cases hr;simp only[aq] at hc;exact amV h hi ha ho aS hc.1 hc.2
  ·cases hr
end
end Cx
namespace Cx
open Go Go.RowKit
section
variable {C:Ctx} {S:St} {ρ:Env} {σ:Im} {own:Nat→Option Nat} {hv:Nat→Value} {w0:World} {σ0:Base} {A:Nat→Prop} {a:Act} {w:World} {gs:List (Nat×Bool)} {Φ:aJ} {dst:Nat}
theorem tB (h:Inv C S ρ σ own hv w0 σ0 A a w)(hg:holds gs ρ=true)(x:Operand):aF C S ρ σ hv (gM S gs x) (a.eval x) ((tu x).ev ρ)∧∀bJ s,gM S gs x≠.opt bJ s:=by
 cases x with
 |tmp t=>exact m0 h hg t
 |_=>exact⟨trivial,fun _ _ e=>by cases e⟩
theorem UF {P:Program}{T:TypeId}{i:Nat}{f:Field}(h:Ba P T i=some f):∃fs,P.underlying T=some (.struct fs)∧fs[i]?=some f:=by
 unfold Ba at h;split at h
 ·rename_i fs hu;exact⟨fs,hu,h⟩
 ·cases h
theorem P9 {o:Oper}{T:TypeId}{x:Operand}{i:Nat}{f:Field}{inf:TypeInfo}{k off:Nat}(ho:o.op=.fieldAddr T x i)(hf:Ba C.P T i=some f)(hi:C.P.info? f.type=some inf)(hn:Nat.beq inf.size 0=false)
 (hx:a.eval x=.pointer (some ⟨k,off,none⟩)):(execOp a.eval o).run C.P w=.ok (.value (.pointer (some ⟨k,off+f.offset,none⟩))) w:=by
 obtain⟨fs,hu,su⟩:=UF hf;have ke:inf.size≠0:=by intro e;simp[e] at hn
 simp[execOp,ho,Instr.fieldAt,run_underlying hu,su,hx,Instr.sureAddr,fieldPlace,Go.sizeOf,run_typeInfo w hi,ke,rQ]
theorem amP (h:Inv C S ρ σ own hv w0 σ0 A a w)(hC:CtxOK C σ0)(hg:holds gs ρ=true){T:TypeId}{x:Operand}{i:Nat}{r:Sh×List PI}(hr:Om C S gs dst T x i=some r){o:Oper}(ho:o.op=.fieldAddr T x i):
 dM C S ρ σ hv Φ dst a w o r:=by
 simp only[Om,ar] at hr;obtain⟨f,hf,hr⟩:=hr;obtain⟨dX,eG⟩:=tB h hg x;split at hr
 case h_2=>cases hr
 rename_i inf ag hi ha;cases hn:Nat.beq inf.size 0<;>simp only[hn,cond_true,cond_false] at hr
 case true=>cases hr
 split at hr
 ·rename_i j ver size off es;cases hb:Nat.beq ver (S.ver j)<;>simp only[hb,cond_true,cond_false] at hr
  ·cases hr
  cases hr;rw[es] at dX;intro ρ' aj;obtain⟨k,n,c,ik,idx,dZ,sr,cv,fl⟩:=dX.2 (aw hb);exact⟨_,_,wg aj,P9 ho hf hi hn fl,⟨dX.1,fun _=>⟨k,n,c,ik,idx,dZ,sr,cv,by rw[tW]⟩⟩,fun _ _ e=>by cases e⟩
 ·split at hr
  ·rename_i ts e hu;have aS:=bZ h hC hg hu;simp only[ax] at hr;obtain⟨ty,aV,rfl⟩:=hr;obtain⟨k,off,v,y,aQ,bf,bE,iK⟩:=Rep.ref_inv aS;obtain⟨vs,ds,rfl,rfl,l1,l2,aR,dj⟩:=bE.agg_inv;obtain⟨px,hlen,kf⟩:=HV aV l1 l2 aR dj;refine .dat (P9 ho hf hi hn aQ) ?_;have hde:(PE.deref e).ev ρ=.agg ds:=by simp only[PE.ev,bf,D.deref]
   simp only[PE.ev];rw[HU hde];refine .ref ty k (off+f.offset) _ _ px (fun j u hu=>?_);have jN:((vs.drop f.offset).take inf.size)[j]?=some u:=by
        cases ag with
        |true=>simpa [rowOf,Value.cells] using hu
        |false=>
         have:=kf rfl;rw[this] at hlen ⊢;obtain⟨q,hq⟩:∃q,(vs.drop f.offset).take 1=[q]:=by
          match(vs.drop f.offset).take 1,hlen with
          |[q],_=>exact⟨q,rfl⟩
         rw[this] at px hu;rw[hq] at px hu ⊢;simp only[rowOf,qg] at px hu;have sE:ty.rowT=false:=by
          unfold tc at aV;cases hle:Nat.ble (f.offset+inf.size) ts.length<;>simp only[hle,cond_true,cond_false] at aV
          ·cases aV
          ·cases hb:Nat.beq inf.size 1<;>simp only[hb,cond_true,cond_false] at aV
           ·cases aV
           ·have:=dj _ _ aV;cases ty<;>simp_all [Ty.one,Ty.rowT]
         rw[px.cells1 sE] at hu;simpa using hu
   simp only[ga,gw] at jN;split at jN
   ·have:=iK (f.offset+j) u (by simpa [Value.cells] using jN)
    rwa [←tW] at this
   ·cases jN
  ·split at hr
   ·rename_i j ver off es;cases hb:Nat.beq ver (S.ver j)<;>simp only[hb,cond_true,cond_false] at hr
    ·cases hr
    cases hr;rw[es] at dX;intro ρ' aj;obtain⟨k,dZ,fl⟩:=dX.2 (aw hb);exact⟨_,_,wg aj,P9 ho hf hi hn fl,⟨dX.1,fun _=>⟨k,dZ,rfl⟩⟩,fun _ _ e=>by cases e⟩
   ·cases hr
theorem amQ (h:Inv C S ρ σ own hv w0 σ0 A a w)(hC:CtxOK C σ0)(hg:holds gs ρ=true){T:TypeId}{x:Operand}{i:Nat}{r:Sh×List PI}(hr:Ol C S gs dst T x i=some r){o:Oper}(ho:o.op=.field T x i):
 dM C S ρ σ hv Φ dst a w o r:=by
 simp only[Ol,ar] at hr;obtain⟨f,hf,hr⟩:=hr;split at hr
 case h_2=>cases hr
 rename_i inf ag hi ha;split at hr
 case h_2=>cases hr
 rename_i ts e hu;have aS:=bZ h hC hg hu;simp only[ax] at hr;obtain⟨ty,aV,rfl⟩:=hr;obtain⟨vs,ds,aQ,bf,l1,l2,aR,dj⟩:=Rep.agg_inv aS;obtain⟨px,hlen,kf⟩:=HV aV l1 l2 aR dj;obtain⟨fs,jN,su⟩:=UF hf;have hle:f.offset+inf.size≤ts.length:=by
  unfold tc at aV;cases hle:Nat.ble (f.offset+inf.size) ts.length<;>simp only[hle,cond_true,cond_false] at aV
  ·cases aV
  ·exact j3 hle
 refine .dat (v:=rowOf ag ((vs.drop f.offset).take inf.size)) ?_ (by rw[HU bf];exact px);cases ag with
 |true=>
  simp only[execOp,ho,Instr.field,aQ,asAgg,part];simp[run_underlying jN,su,sN ha,Go.sizeOf,run_typeInfo w hi,rowOf]
 |false=>
  have hn:=kf rfl;have af:f.offset<vs.length:=by omega
  simp only[execOp,ho,Instr.field,aQ,asAgg,part];simp[run_underlying jN,su,sN ha,rowOf,hn,be af,aI,ga,gw]
theorem aaM {o:Oper}{T e:TypeId}{x i:Operand}{inf:TypeInfo}{k off n c idx:Nat}{ik:IntKind}(ho:o.op=.indexAddr T x i)(hT:C.P.underlying T=some (.slice e))(hi:C.P.info? e=some inf)
 (hx:a.eval x=.slice (some ⟨k,off,none⟩) n c) (ahX:a.eval i=.int ik idx) (af:idx<n):(execOp a.eval o).run C.P w=.ok (.value (.pointer (some ⟨k,off+idx*inf.size,none⟩))) w:=by
 simp[execOp,ho,Instr.indexAt,run_underlying hT,hx,ahX,asIntOf,af,Go.sizeOf,run_typeInfo w hi,rQ]
theorem I6 {P:Program}{T:TypeId}{t:Ty}(h:p8 P T t=true):∃inf,P.info? T=some inf∧inf.size=t.size:=by
 unfold p8 at h;split at h
 ·rename_i i hi;exact⟨i,hi,aw h⟩
 ·cases h
theorem amS (h:Inv C S ρ σ own hv w0 σ0 A a w)(hC:CtxOK C σ0)(hg:holds gs ρ=true){T:TypeId}{x i:Operand}{r:Sh×List PI}(hr:Oq C S gs dst T x i=some r){o:Oper}(ho:o.op=.indexAddr T x i):
 dM C S ρ σ hv Φ dst a w o r:=by
 unfold Oq at hr;split at hr
 case h_2=>cases hr
 rename_i e hT;simp only[ar] at hr;obtain⟨p,hp,hr⟩:=hr;have aS:=bZ h hC hg hp;split at hr
 case h_2=>cases hr
 rename_i ik e1;rw[e1] at aS;obtain⟨idx,aQ,bf,b1,b2⟩:=aS.int_inv;split at hr
 ·rename_i t pe hu;have cT:=bZ h hC hg hu;cases aN:p8 C.P e t<;>simp only[aN,cond_true,cond_false] at hr
  ·cases hr
  cases hr;obtain⟨inf,hi,hs⟩:=I6 aN;obtain⟨xs,hd,sn⟩:=Rep.slice_inv cT;refine .datc hg fun hc=>?_;simp only[PE.ev,hd,bf,D.l_list,D.i_int,D.b_bool,decide_eq_true_eq] at hc;rcases sn with⟨_,rfl⟩|⟨k,off,c,sJ,h1,h2,vs,h3,h4⟩
  ·simp at hc;omega
  ·obtain⟨m,rfl⟩:=mh hc.1;have af:m<xs.length:=by omega
   refine⟨_,aaM ho hT hi sJ aQ af,?_⟩;obtain⟨y,hy⟩:∃y,xs[m]?=some y:=⟨_,be af⟩
   simp only[PE.ev,hd,bf,D.l_list,D.i_int,tQ,qL hy];exact .ref t.unf k _ (vs m) y (h3 m y hy) (fun j u hu=>by rw[hs];exact h4 m j u af hu)
 ·cases hr
 ·obtain⟨dX,eG⟩:=tB h hg x;split at hr
  ·rename_i j ver es;rw[es] at dX;cases hb:Nat.beq ver (S.ver j)<;>simp only[hb,cond_true,cond_false] at hr
   ·cases hr
   have dv:=aw hb;have aX:=h.objs j;have cf:=dX.2 dv;split at hr
   ·rename_i T' t eo;rw[eo] at aX;cases aN:p8 C.P e t<;>simp only[aN,cond_true,cond_false] at hr
    ·cases hr
    cases hr;obtain⟨inf,hi,hs⟩:=I6 aN;obtain⟨cells,xs,h1,h2,⟨vs,h3,h4⟩,h5⟩:=aX;intro ρ' aj;obtain⟨hc,hρ⟩:=Qa hg aj;simp only[PE.ev,h1,bf,D.l_list,D.i_int,D.b_bool,decide_eq_true_eq] at hc;obtain⟨m,rfl⟩:=mh hc.1;have af:m<xs.length:=by omega
    rcases h2.2 with⟨_,e0⟩|⟨g,cap,cur,dZ,_⟩
    ·omega
    ·refine⟨_,_,hρ,aaM ho hT hi (cf.trans dZ) aQ af,⟨by omega,fun _=>⟨g,xs.length,cap,ik,m,dZ,bf,af,?_⟩⟩,fun _ _ e=>by cases e⟩;rw[hs];simp
   ·cases hr
  ·cases hr
theorem amT (h:Inv C S ρ σ own hv w0 σ0 A a w)(hC:CtxOK C σ0)(hg:holds gs ρ=true){T:TypeId}{x i:Operand}{r:Sh×List PI}(hr:Oo C S gs dst T x i=some r){o:Oper}(ho:o.op=.index T x i):
 dM C S ρ σ hv Φ dst a w o r:=by
 unfold Oo at hr;split at hr
 case h_2=>cases hr
 rename_i hT;simp only[ar] at hr;obtain⟨p,hp,q,hq,hr⟩:=hr;have aS:=bZ h hC hg hp;have dk:=bZ h hC hg hq;split at hr
 case h_2=>cases hr
 rename_i ik e1 e2;rw[e1] at aS;rw[e2] at dk;obtain⟨idx,aQ,bf,b1,b2⟩:=aS.int_inv;obtain⟨s,gm,dN,_⟩:=dk.str_inv;cases hr;refine .datc hg fun hc=>?_;simp only[PE.ev,dN,bf,D.s_str,D.i_int,D.b_bool,decide_eq_true_eq] at hc;obtain⟨m,rfl⟩:=mh hc.1;have af:m<s.size:=by omega
 refine⟨.int .u8 (s.data.getD m 0).toNat,?_,?_⟩
 ·have:s[m]?=some (s.data.getD m 0):=by
   rw[getElem?_pos s m af];simp[ByteArray.getElem_eq_getElem_data,fi,iY (show m<s.data.size from af)]
  simp[execOp,ho,Instr.index,run_underlying hT,aQ,gm,asIntOf,this]
 ·simp only[PE.ev,dN,bf,D.s_str,D.i_int,tQ];refine .int _ _ ?_ ?_
  ·simp only[IntKind.min,IntKind.signed];simp
  ·simp only[IntKind.max,IntKind.signed,IntKind.bits];have:=UInt8.toNat_lt (s.data.getD m 0);simp at this ⊢;omega
end
end Cx
namespace Cx
open Go Go.RowKit
section
variable {C:Ctx} {S:St} {ρ:Env} {σ:Im} {own:Nat→Option Nat} {hv:Nat→Value} {w0:World} {σ0:Base} {A:Nat→Prop} {a:Act} {w:World} {gs:List (Nat×Bool)} {Φ:aJ} {dst:Nat}
theorem ar0 (h:Inv C S ρ σ own hv w0 σ0 A a w)(hC:CtxOK C σ0)(hg:holds gs ρ=true){lo:Option Operand}{l:Ty×PE}{k:IntKind}(hl:Sy C S gs lo=some l)(hk:l.1=.int k):
 ∃n,l.2.ev ρ=.v (.int k n)∧((lo=none∧n=0)∨∃x,lo=some x∧a.eval x=.int k n):=by
 cases lo with
 |none=>simp[Sy] at hl;subst hl;simp at hk;subst hk;exact⟨0,rfl,.inl ⟨rfl,rfl⟩⟩
 |some x=>
  have:=bZ h hC hg hl;rw[hk] at this;obtain⟨n,h1,h2,_⟩:=this.int_inv;exact⟨n,h2,.inr ⟨x,rfl,h1⟩⟩
theorem arZ (h:Inv C S ρ σ own hv w0 σ0 A a w)(hC:CtxOK C σ0)(hg:holds gs ρ=true){e:PE}{hi:Option Operand}{l:Ty×PE}{k:IntKind}(hl:Sw C S gs e hi=some l)(hk:l.1=.int k):
 ∃n,l.2.ev ρ=.v (.int k n)∧((hi=none∧n=(e.ev ρ).l.length)∨∃x,hi=some x∧a.eval x=.int k n):=by
 cases hi with
 |none=>simp[Sw] at hl;subst hl;simp at hk;subst hk;exact⟨_,rfl,.inl ⟨rfl,rfl⟩⟩
 |some x=>
  have:=bZ h hC hg hl;rw[hk] at this;obtain⟨n,h1,h2,_⟩:=this.int_inv;exact⟨n,h2,.inr ⟨x,rfl,h1⟩⟩
theorem run_sliceBound {P:Program}{x:Value}{y i:Nat}{k:IntKind}{code:BoundsCode}{w:World}(hx:x=.int k i)(h:i≤y):(Instr.sliceBound x y code).run P w=.ok i w:=by
 subst hx;simp[Instr.sliceBound,asIntOf,h]
theorem am0 (h:Inv C S ρ σ own hv w0 σ0 A a w)(hC:CtxOK C σ0)(hg:holds gs ρ=true){T:TypeId}{x:Operand}{lo hi mx:Option Operand}{r:Sh×List PI}(hr:Ox C S gs dst T x lo hi mx=some r){o:Oper}(ho:o.op=.slice T x lo hi mx):
 dM C S ρ σ hv Φ dst a w o r:=by
 unfold Ox at hr;split at hr
 case h_3=>cases hr
 case h_2=>
  rename_i n e hT;split at hr
  case h_2=>cases hr
  simp only[ar] at hr;obtain⟨p,hp,hr⟩:=hr;have aS:=bZ h hC hg hp;split at hr
  case h_2=>cases hr
  rename_i t ts e1;cases hc:(Nat.beq n (ts.length+1)&&ts.all (Ty.beq t)&&t.one&&p8 C.P e t&&Nat.ble n maxLen)<;>simp only[hc,cond_true,cond_false] at hr
  ·cases hr
  cases hr;simp only[aq] at hc;obtain⟨⟨⟨⟨c1,c2⟩,c3⟩,c4⟩,c5⟩:=hc;have hn:=aw c1;have hm:=j3 c5;obtain⟨inf,mE,hs⟩:=I6 c4;rw[e1] at aS;obtain⟨k,off,x0,y,sJ,hd,hr0,iK⟩:=aS.ref_inv;obtain⟨vs,ds,rfl,rfl,l1,l2,fI,_⟩:=hr0.agg_inv
  have aR:∀(i:Nat),i<n→(t::ts)[i]?=some t:=fun i hi=>by
   cases i with
   |zero=>rfl
   |succ i=>
    have af:i<ts.length:=by omega
    rw[SW,be af];rw[Ty.beq_eq _ _ (df.1 c2 _ (cM af))]
  have LZ:vs.length=n:=by rw[l1,hn];rfl
  have VK:ds.length=n:=by rw[l2,hn];rfl
  have dj:t.size=1:=by cases t<;>simp_all [Ty.one,Ty.size]
  refine dM.dat (v:=.slice (some ⟨k,off,none⟩) n n) ?_ ?_
  ·have:Addr.add ⟨k,off,none⟩ 0=⟨k,off,none⟩:=by simp[Addr.add]
   simp[execOp,ho,Instr.sliceAt,run_underlying hT,sJ,Instr.sureAddr,Instr.sliceBounds,Go.sizeOf,run_typeInfo w mE,this]
  ·have aic:(PE.lst ((List.range n).map fun i=>.cell (.deref p.2) i)).ev ρ=.list ds:=by
        simp only[PE.ev]
        congr 1
        have bK:∀l:List PE,PE.evs ρ l=l.map fun e=>e.ev ρ:=fun l=>by induction l with|nil=>rfl|cons e l ih=>simp[PE.evs,ih]
        rw[bK,Ac];apply Ec;intro i;rw[cl];by_cases hi:i<n
        ·rw[oI hi,be (by omega)];simp only[jE,Function.comp,PE.ev,hd,D.deref,D.c,D.cells];rw[aI,be (by omega)];rfl
        ·rw[ls (by simp;omega),ls (by omega)];rfl
   rw[aic];refine .slice t k off n n ds (fun i=>vs.getD i undef) VK (aU _) hm (fun i x hx=>?_) (fun i j u hi hu=>?_)
   ·have af:i<n:=by rw[←VK];exact(ed.1 hx).1
    have:=fI i t (aR i af);rw[qL hx] at this;exact this.unf
   ·have h1:=(fI i t (aR i hi)).oneCell c3;rw[h1.1] at hu;cases j with
    |zero=>
     simp at hu;have:=iK i (vs.getD i undef) (by
      simp only[Value.cells];rw[Ef,be (by omega),aI,be (by omega)];rfl)
     rw[dj,←hu];simpa using this
    |succ j=>simp at hu
 rename_i e hT;simp only[ar] at hr;obtain⟨p,hp,hr⟩:=hr;have aS:=bZ h hC hg hp;split at hr
 case h_2=>cases hr
 rename_i t e1;rw[e1] at aS;simp only[ar] at hr;obtain⟨l,hl,u,hu,hr⟩:=hr;split at hr
 case h_2=>cases hr
 rename_i k1 k2 e2 e3;cases aN:p8 C.P e t<;>simp only[aN,cond_true,cond_false] at hr
 ·cases hr
 cases hr;obtain⟨inf,mE,hs⟩:=I6 aN;obtain⟨n1,bf,uU⟩:=ar0 h hC hg hl e2;obtain⟨n2,dN,LU⟩:=arZ h hC hg hu e3;obtain⟨xs,hd,sn⟩:=Rep.slice_inv aS;refine .datc hg fun hc=>?_;simp only[PE.ev,hd,bf,dN,D.l_list,D.i_int,D.b_bool,decide_eq_true_eq] at hc;obtain⟨m1,rfl⟩:=mh hc.1;obtain⟨m2,rfl⟩:=mh (show 0≤n2 by omega);have uG:m1≤m2:=by omega
 have h2l:m2≤xs.length:=by omega
 have Vo:∀c,xs.length≤c→(Instr.sliceBounds true xs.length c (lo.map a.eval) (hi.map a.eval) none).run C.P w=.ok (m1,m2,c) w:=by
  intro c gC
  have hh:∀code,(match hi.map a.eval with|some v=>Instr.sliceBound v c code|none=>(pure xs.length:Sem Nat)).run C.P w=.ok m2 w:=by
   intro code;rcases LU with⟨rfl,e⟩|⟨y,rfl,e⟩
   ·rw[hd,D.l_list] at e;simp;omega
   ·simp only[jE];exact run_sliceBound e (by omega)
  have LY:∀code,(match lo.map a.eval with|some v=>Instr.sliceBound v m2 code|none=>(pure 0:Sem Nat)).run C.P w=.ok m1 w:=by
   intro code;rcases uU with⟨rfl,e⟩|⟨y,rfl,e⟩
   ·simp;omega
   ·simp only[jE];exact run_sliceBound e uG
  have VC:=hh .sliceAcap;have VM:=LY .sliceB;unfold Instr.sliceBounds;cases hi<;>cases lo<;>simp at VC VM ⊢<;>simp[VC,VM]
 rcases sn with⟨⟨p0,sJ⟩,rfl⟩|⟨k,off,c,sJ,h1,h2,vs,h3,h4⟩
 ·have:m2=0:=by simpa using h2l
  have:m1=0:=by omega
  subst_vars
  refine⟨.slice p0 0 0,?_,?_⟩
  ·have hb:=Vo 0 (aU _);simp only[wN] at hb;cases p0 with
   |none=>simp[execOp,ho,Instr.sliceAt,Instr.slice,run_underlying hT,sJ,hb,Go.sizeOf,run_typeInfo w mE]
   |some a0=>simp[execOp,ho,Instr.sliceAt,Instr.slice,run_underlying hT,sJ,hb,Go.sizeOf,run_typeInfo w mE]
  ·simp only[PE.ev,hd,bf,dN,D.l_list,D.i_int];cases p0 with
   |none=>exact .nil t
   |some a0=>exact .emp t a0
 ·refine⟨.slice (some (if c=m1 then⟨k,off,none⟩ else⟨k,off+m1*inf.size,none⟩)) (m2-m1) (c-m1),?_,?_⟩
  ·have hb:=Vo c h1;simp only[execOp,ho,Option.map_none,Instr.sliceAt,run_underlying hT,sJ];simp[run_underlying hT,Instr.slice,hb,Go.sizeOf,run_typeInfo w mE,rQ];split<;>simp
  ·simp only[PE.ev,hd,bf,dN,D.l_list,D.i_int,tQ];have hlen:((xs.take m2).drop m1).length=m2-m1:=by simp;omega
   have fI:∀(i:Nat) (y:D),((xs.take m2).drop m1)[i]?=some y→xs[m1+i]?=some y:=by
        intro i y hy;simp only[gw,ga] at hy;split at hy
        ·exact hy
        ·cases hy
   have iK:∀(i j:Nat) (v:Value),i<m2-m1→(vs (m1+i)).cells[j]?=some v→σ.c k (off+m1*inf.size+i*t.size+j)=some v:=by
        intro i j v hi hj;have:=h4 (m1+i) j v (by omega) hj;rw[nk] at this;rw[hs]
        rwa [←tW] at this
   split
   ·rename_i lJ;refine .slice t k off (m2-m1) (c-m1) _ (fun i=>vs (m1+i)) hlen (by omega) (by omega) (fun i y hy=>h3 _ _ (fI i y hy)) (fun i j v hi hj=>by omega)
   ·exact .slice t k (off+m1*inf.size) (m2-m1) (c-m1) _ (fun i=>vs (m1+i)) hlen (by omega) (by omega) (fun i y hy=>h3 _ _ (fI i y hy)) iK
theorem abj (h:Inv C S ρ σ own hv w0 σ0 A a w)(hC:CtxOK C σ0)(hg:holds gs ρ=true):∀(xs:List Operand) (r:List Ty×List PE),oD C S gs xs=some r→
 r.1.length=xs.length∧r.2.length=xs.length∧∀(i:Nat) (t:Ty),r.1[i]?=some t→Rep C.cap σ t ((xs.map a.eval).getD i undef) ((PE.evs ρ r.2).getD i .none):=by
 intro xs
 induction xs with
 |nil=>intro r hr;simp[oD] at hr;subst hr;exact⟨rfl,rfl,by simp⟩
 |cons x xs ih=>
  intro r hr;simp only[oD,ar,ax] at hr;obtain⟨p,hp,q,hq,rfl⟩:=hr;obtain⟨l1,l2,aR⟩:=ih q hq;refine⟨by simp[l1],by simp[l2],fun i t hi=>?_⟩;cases i with
  |zero=>simp at hi;subst hi;simpa [PE.evs] using bZ h hC hg hp
  |succ i=>simp at hi;simpa [PE.evs] using aR i t hi
theorem amR (h:Inv C S ρ σ own hv w0 σ0 A a w)(hC:CtxOK C σ0)(hg:holds gs ρ=true){fn:Fn}{first caps:Array Operand}{r:Sh×List PI}(hr:On C S gs dst fn first caps=some r){o:Oper}(ho:o.op=.makeFunc fn first caps):
 dM C S ρ σ hv Φ dst a w o r:=by
 unfold On at hr;split at hr
 case h_2=>cases hr
 rename_i f BG;have LN:first=#[]:=by simpa using BG
 subst LN;simp only[ar] at hr;obtain⟨cs,da,p,hp,hr⟩:=hr;cases hb:Ty.subs p.1 cs.caps<;>simp only[hb,cond_true,cond_false] at hr
 ·cases hr
 cases hr;obtain⟨l1,l2,aR⟩:=abj h hC hg _ _ hp;have hl:=Ty.subs_len _ _ hb;refine .dat (v:=.func (.func f) #[] (caps.map a.eval)) ?_ ?_
 ·simp[execOp,ho,Instr.makeFunc]
 ·simp only[PE.ev];have:caps.map a.eval=(caps.toList.map a.eval).toArray:=by apply tN;rw[wE]
  rw[this];have e1:(caps.toList.map a.eval).length=cs.caps.length:=by rw[eN];omega
  have e2:(PE.evs ρ p.2).length=cs.caps.length:=by rw[PE.evs_eq,eN];omega
  refine .fn f cs _ _ da e1 e2 (fun i t hi=>?_);obtain⟨s,hs,cS⟩:=Ty.subs_get _ _ hb i t hi;exact(aR i s hs).sub cS
theorem amX (h:Inv C S ρ σ own hv w0 σ0 A a w)(hC:CtxOK C σ0)(hg:holds gs ρ=true){x:Operand}{r:Sh×List PI}(hr:Ov C S gs dst x=some r){o:Oper}(ho:o.op=.nilCheck x):
 dM C S ρ σ hv Φ dst a w o r:=by
 have aj:∀k off,a.eval x=.pointer (some ⟨k,off,none⟩)→(execOp a.eval o).run C.P w=.ok (.value (a.eval x)) w:=by
  intro k off e;simp[execOp,ho,e]
 unfold Ov at hr;split at hr
 ·rename_i t e hu;cases hr;have aS:=bZ h hC hg hu;obtain⟨k,off,v,y,aQ,bf,bE,iK⟩:=Rep.ref_inv aS;exact .dat (aj k off aQ) aS
 ·split at hr
  ·rename_i t _;obtain⟨hs,eG⟩:=m0 h hg t;split at hr
   ·rename_i j ver off es;rw[es] at hs;cases hb:Nat.beq ver (S.ver j)<;>simp only[hb,cond_true,cond_false] at hr
    ·cases hr
    cases hr;obtain⟨k,dZ,fl⟩:=hs.2 (aw hb);intro ρ' uY;exact⟨_,_,wg uY,aj k off fl,hs,fun _ _ e=>by cases e⟩
   ·rename_i j ver sz off es;rw[es] at hs;cases hb:Nat.beq ver (S.ver j)<;>simp only[hb,cond_true,cond_false] at hr
    ·cases hr
    cases hr;have dE:=hs;obtain⟨k,n,c,ik,i,dZ,sr,cv,fl⟩:=hs.2 (aw hb);intro ρ' uY;exact⟨_,_,wg uY,aj _ _ fl,dE,fun _ _ e=>by cases e⟩
   ·cases hr
  ·cases hr
theorem abn {cap:Nat→Option CSig}{t:Ty}{z:Ty×D}{v:Value}(h:oE t=some z)(hz:wC t v=true):Rep cap σ z.1 v z.2∧z.1.one=true∧Ty.sub z.1 t=true:=by
 unfold wC at hz;split at hz
 ·simp at hz;obtain⟨rfl,rfl⟩:=hz;simp[oE] at h;subst h;exact⟨.int _ 0 (by rename_i k;cases k<;>decide) (by rename_i k;cases k<;>decide),rfl,by simp[Ty.sub,Ty.beq]⟩
 ·simp at hz;subst hz;simp[oE] at h;subst h;exact⟨.bool false,rfl,rfl⟩
 ·rename_i s;have:s=ByteArray.empty:=by
   have:s.size=0:=by simpa using hz
   cases s with|mk d=>simp[ByteArray.size] at this;subst this;rfl
  subst this;simp[oE] at h;subst h;exact⟨.str _ (by decide),rfl,rfl⟩
 ·simp[oE] at h;subst h;exact⟨.nils _,rfl,rfl⟩
 ·simp[oE] at h;subst h;refine⟨.mapnil _ _,rfl,?_⟩;simp only[Ty.sub];exact Ty.beq_refl _
 ·simp[oE] at h;subst h;exact⟨.fnnil _ _,rfl,by simp only[Ty.sub];exact Ty.beq_refl _⟩
 ·cases hz
end
end Cx
namespace Cx
open Go Go.RowKit
theorem mapM_some {α β:Type}(f:α→Option β):∀(l:List α) (r:List β),l.mapM f=some r→r.length=l.length∧∀(i:Nat) (x:α),l[i]?=some x→∃y,r[i]?=some y∧f x=some y
 |[],r,h=>by simp at h;subst h;exact⟨rfl,by simp⟩
 |x::l,r,h=>by
  simp only[S5,Option.bind_eq_bind,ar] at h;obtain⟨y,hy,ys,vg,h⟩:=h;cases h;obtain⟨h1,h2⟩:=mapM_some f l ys vg;refine⟨by simp[h1],fun i z hi=>?_⟩;cases i with
  |zero=>simp at hi;subst hi;exact⟨y,rfl,hy⟩
  |succ i=>simp at hi;simpa using h2 i z hi
theorem SF:∀(ts:List Ty) (vs:List Value),zQ ts vs=true→vs.length=ts.length∧∀(i:Nat) (t:Ty),ts[i]?=some t→∃v,vs[i]?=some v∧wC t v=true
 |[],vs,h=>by cases vs<;>simp_all [zQ]
 |t::ts,vs,h=>by
  cases vs with
  |nil=>simp[zQ] at h
  |cons v vs=>
   simp only[zQ,aq] at h;obtain⟨h1,h2⟩:=SF ts vs h.2;refine⟨by simp[h1],fun i u hi=>?_⟩;cases i with
   |zero=>simp at hi;subst hi;exact⟨v,rfl,h.1⟩
   |succ i=>simp at hi;simpa using h2 i u hi
theorem wD {cap:Nat→Option CSig}{σ:Im}{t:Ty}{z:Ty×D}{v:Value}(h:m9 t=some z)(hz:iu t v=true):Rep cap σ z.1 v z.2∧Ty.sub z.1 t=true∧z.1.one=t.one:=by
 cases t with
 |agg ts=>
  simp only[m9,ax] at h;obtain⟨zs,q9,rfl⟩:=h;cases v with
  |agg vs=>
   simp only[iu] at hz;obtain⟨l1,h1⟩:=SF ts vs.toList hz;obtain⟨l2,h2⟩:=mapM_some _ _ _ q9;have key:∀(i:Nat) (t:Ty),ts[i]?=some t→∃y v,zs[i]?=some y∧vs.toList[i]?=some v∧Rep cap σ y.1 v y.2∧y.1.one=true∧Ty.sub y.1 t=true:=by
      intro i t hi;obtain⟨y,hy,Cl⟩:=h2 i t hi;obtain⟨v,hv,gm⟩:=h1 i t hi;obtain⟨g1,g2,g3⟩:=abn (cap:=cap) (σ:=σ) Cl gm;exact⟨y,v,hy,hv,g1,g2,g3⟩
   have bT:∀(ts:List Ty) (zs:List (Ty×D)),zs.length=ts.length→(∀(i:Nat) (t:Ty),ts[i]?=some t→∃y,zs[i]?=some y∧Ty.sub y.1 t=true)→Ty.subs (zs.map (·.1)) ts=true:=by
      intro ts
      induction ts with
      |nil=>intro zs hl _;cases zs<;>simp_all [Ty.subs]
      |cons t ts ih=>
       intro zs hl hh;cases zs with
       |nil=>simp at hl
       |cons z zs=>
        simp only[eB,Ty.subs,aq];refine⟨?_,ih zs (by simpa using hl) fun i u hu=>by simpa using hh (i+1) u (by simpa using hu)⟩;obtain⟨y,hy,Cl⟩:=hh 0 t rfl;simp at hy;subst hy;exact Cl
   refine⟨?_,?_,rfl⟩
   ·have:vs=vs.toList.toArray:=by simp
    rw[this];refine .agg _ _ _ (by rw[eN];omega) (by simp) (fun i t hi=>?_) (fun i t hi=>?_)
    ·simp only[cl,ax] at hi;obtain⟨q,hq,rfl⟩:=hi;obtain⟨t',MC⟩:∃t',ts[i]?=some t':=⟨_,be (by have:=(ed.1 hq).1;omega)⟩
     obtain⟨y,v,hy,hv,g1,g2,g3⟩:=key i t' MC;rw[hq] at hy;cases hy;rw[qL hv,qL (show(zs.map (·.2))[i]?=some q.2 by simp[hq])];exact g1
    ·simp only[cl,ax] at hi;obtain⟨q,hq,rfl⟩:=hi;obtain⟨t',MC⟩:∃t',ts[i]?=some t':=⟨_,be (by have:=(ed.1 hq).1;omega)⟩
     obtain⟨y,v,hy,hv,g1,g2,g3⟩:=key i t' MC;rw[hq] at hy;cases hy;exact g2
   ·simp only[Ty.sub];exact bT ts zs l2 fun i t hi=>by obtain⟨y,v,hy,hv,g1,g2,g3⟩:=key i t hi;exact⟨y,hy,g3⟩
  |_=>simp[iu] at hz
 |_=>
  obtain⟨g1,g2,g3⟩:=abn (cap:=cap) (σ:=σ) (by simpa [m9] using h) (by simpa [iu] using hz);exact⟨g1,g3,(Ty.sub_one _ _ g3).1⟩
theorem acK {a b:ByteArray}(h:(a==b)=true):a=b:=by
 cases a with|mk x=>cases b with|mk y=>
 have:(x==y)=true:=h;rw[eq_of_beq this]
theorem acL (a:ByteArray):(a==a)=true:=by
 cases a with|mk x=>
 show(x==x)=true;simp
theorem M3 {P:Program}{K:TypeId}{kt:Ty}(hk:nW P K kt=true):
 (∃k k',kt=.int k∧P.underlying K=some (.int k'))∨(kt=.str∧P.underlying K=some .string)∨(kt=.bool∧P.underlying K=some .bool):=by
 unfold nW at hk;split at hk
 ·split at hk
  ·exact .inl ⟨_,_,rfl,by assumption⟩
  ·cases hk
 ·split at hk
  ·exact .inr (.inl ⟨rfl,by assumption⟩)
  ·cases hk
 ·split at hk
  ·exact .inr (.inr ⟨rfl,by assumption⟩)
  ·cases hk
 ·cases hk
theorem afn {cap:Nat→Option CSig}{σ:Im}{P:Program}{K:TypeId}{kt:Ty}{desc:TypeDesc}(hk:nW P K kt=true)(hu:P.underlying K=some desc){v:Value}{d:D}(hv:Rep cap σ kt v d):
 ∀(es:List MapEntry) (ds:List (D×D)) (i:Nat),ds.length=es.length→(∀(j:Nat) (e:MapEntry) (p:D×D),es[j]?=some e→ds[j]?=some p→Rep cap σ kt e.key p.1)→
  (Instr.findNow desc v es i=some none∧∀(j:Nat) (p:D×D),ds[j]?=some p→dQ d p.1=false)∨
  ∃j e p,es[j]?=some e∧ds[j]?=some p∧Instr.findNow desc v es i=some (some (i+j,e.val))∧dQ d p.1=true∧Instr.sameBits 10000 e.key v=true∧∀m q,m<j→ds[m]?=some q→dQ d q.1=false:=by
 have dj:∀(v':Value) (d':D),Rep cap σ kt v' d'→Instr.sameNow desc v v'=some (dQ d d')∧(dQ d d'=true→Instr.sameBits 10000 v' v=true):=by
  intro v' d' h';rcases M3 hk with⟨k,k',rfl,jN⟩|⟨rfl,jN⟩|⟨rfl,jN⟩
  ·rw[hu] at jN;cases jN;obtain⟨n,rfl,rfl,_⟩:=hv.int_inv;obtain⟨m,rfl,rfl,_⟩:=h'.int_inv;refine⟨by simp[Instr.sameNow,dQ,D.cells,pH,rf],fun e=>?_⟩;have:n=m:=by simpa [dQ,D.cells,pH,rf] using e
   subst this;simp[Instr.sameBits]
  ·rw[hu] at jN;cases jN;obtain⟨n,rfl,rfl,_⟩:=hv.str_inv;obtain⟨m,rfl,rfl,_⟩:=h'.str_inv;refine⟨by simp[Instr.sameNow,dQ,D.cells,pH,rf],fun e=>?_⟩;have:n=m:=acK (by simpa [dQ,D.cells,pH,rf] using e);subst this;simpa [Instr.sameBits] using acL n
  ·rw[hu] at jN;cases jN;obtain⟨n,rfl,rfl⟩:=hv.bool_inv;obtain⟨m,rfl,rfl⟩:=h'.bool_inv;refine⟨by simp[Instr.sameNow,dQ,D.cells,pH,rf],fun e=>?_⟩;have:n=m:=by simpa [dQ,D.cells,pH,rf] using e
   subst this;simp[Instr.sameBits]
 intro es
 induction es with
 |nil=>intro ds i hl _;left;exact⟨rfl,by cases ds<;>simp_all⟩
 |cons e es ih=>
  intro ds i hl aR;cases ds with
  |nil=>simp at hl
  |cons p ds=>
   obtain⟨hs,hb⟩:=dj e.key p.1 (aR 0 e p rfl rfl);cases lO:dQ d p.1 with
   |true=>
    right;rw[lO] at hs;exact⟨0,e,p,rfl,rfl,by simp[Instr.findNow,hs],lO,hb lO,fun m q hm=>by omega⟩
   |false=>
    rw[lO] at hs;rcases ih ds (i+1) (by simpa using hl) (fun j e' p' he hp=>aR (j+1) e' p' (by simpa using he) (by simpa using hp)) with⟨h1,h2⟩|⟨j,e',p',h1,h2,h3,h4,h5,h6⟩
    ·left;refine⟨by simp[Instr.findNow,hs,h1],fun j q hq=>?_⟩;cases j with
     |zero=>simp at hq;subst hq;exact lO
     |succ j=>exact h2 j q (by simpa using hq)
    ·right;refine⟨j+1,e',p',by simpa using h1,by simpa using h2,?_,h4,h5,fun m q hm hq=>?_⟩
     ·simp[Instr.findNow,hs,h3];omega
     ·cases m with
      |zero=>simp at hq;subst hq;exact lO
      |succ m=>exact h6 m q (by omega) (by simpa using hq)
theorem Nr {d:D}:∀{ds:List (D×D)},(∀(j:Nat) (p:D×D),ds[j]?=some p→dQ d p.1=false)→gq d ds=none
 |[],_=>rfl
 |p::ds,h=>by simp only[gq,h 0 p rfl];exact Nr fun j q hq=>h (j+1) q (by simpa using hq)
theorem Ns {d:D}:∀{ds:List (D×D)} {j:Nat} {p:D×D},ds[j]?=some p→dQ d p.1=true→(∀(m:Nat) (q:D×D),m<j→ds[m]?=some q→dQ d q.1=false)→gq d ds=some p.2
 |[],j,p,hp,_,_=>by simp at hp
 |x::ds,0,p,hp,hk,_=>by simp at hp;subst hp;simp[gq,hk]
 |x::ds,j+1,p,hp,hk,hm=>by
  simp only[gq,hm 0 x (by omega) rfl];exact Ns (j:=j) (by simpa using hp) hk fun m q af hq=>hm (m+1) q (by omega) (by simpa using hq)
theorem OO {d v:D}:∀{ds:List (D×D)},(∀(j:Nat) (p:D×D),ds[j]?=some p→dQ d p.1=false)→eu d v ds=ds++[(d,v)]
 |[],_=>rfl
 |p::ds,h=>by simp only[eu,h 0 p rfl,wG,if_false,Eb];rw[OO fun j q hq=>h (j+1) q (by simpa using hq)]
theorem OP {d v:D}:∀{ds:List (D×D)} {j:Nat} {p:D×D},ds[j]?=some p→dQ d p.1=true→(∀(m:Nat) (q:D×D),m<j→ds[m]?=some q→dQ d q.1=false)→eu d v ds=ds.set j (d,v)
 |[],j,p,hp,_,_=>by simp at hp
 |x::ds,0,p,hp,hk,_=>by simp at hp;subst hp;simp[eu,hk]
 |x::ds,j+1,p,hp,hk,hm=>by
  simp only[eu,hm 0 x (by omega) rfl,wG,if_false,List.set_cons_succ];rw[OP (j:=j) (by simpa using hp) hk fun m q af hq=>hm (m+1) q (by omega) (by simpa using hq)]
theorem WO {P:Program}{K:TypeId}{kt:Ty}(hk:yQ P K kt=true):
 ∃k k' e q i,kt=.agg [.int k,.int k']∧P.underlying K=some (.array 2 e)∧P.underlying e=some (.int q)∧P.plainKey e=true∧P.info? e=some i∧P.cellsOf e=1:=by
 unfold yQ at hk;split at hk
 case h_2=>cases hk
 rename_i k k';split at hk
 case h_2=>cases hk
 rename_i n e hu;simp only[aq] at hk;obtain⟨⟨⟨h1,h2⟩,h3⟩,h4⟩:=hk;have hn:=aw h1;subst hn;split at h2
 case h_2=>cases h2
 rename_i q hq;split at h4
 case h_2=>cases h4
 rename_i i hi;exact⟨k,k',e,q,i,rfl,hu,hq,h3,hi,aw h4⟩
theorem Rep.pair_inv {cap:Nat→Option CSig}{σ:Im}{k k':IntKind}{v:Value}{d:D}(h:Rep cap σ (.agg [.int k,.int k']) v d):∃a b,v=.agg #[.int k a,.int k' b]∧d=.agg [.v (.int k a),.v (.int k' b)]:=by
 generalize ht:Ty.agg [.int k,.int k']=t at h;cases h with
 |agg ts vs ds h1 h2 h ho=>
  cases ht;obtain⟨x,y,rfl⟩:∃x y,vs=[x,y]:=by
   match vs,h1 with
   |[x,y],_=>exact⟨x,y,rfl⟩
  obtain⟨p,q,rfl⟩:∃x y,ds=[x,y]:=by
   match ds,h2 with
   |[x,y],_=>exact⟨x,y,rfl⟩
  obtain⟨a,e1,e2,_⟩:=(h 0 _ rfl).int_inv;obtain⟨b,e3,e4,_⟩:=(h 1 _ rfl).int_inv;simp at e1 e2 e3 e4;subst e1 e2 e3 e4;exact⟨a,b,rfl,rfl⟩
 |_=>cases ht
theorem aoP {P:Program}{K e:TypeId}{q:IntKind}{i:TypeInfo}(hu:P.underlying K=some (.array 2 e))(hq:P.underlying e=some (.int q))(hp:P.plainKey e=true)(hi:P.info? e=some i)(hc:P.cellsOf e=1)(k k':IntKind)(a b c d:Int)(w:World):
 (Op.equal K (.agg #[.int k a,.int k' b]) (.agg #[.int k c,.int k' d])).run P w=.ok (a==c&&b==d) w:=by
 unfold Op.equal;show(Op.equalIn (9999+1) K _ _).run P w=_;rw[run_equalIn_array w 9999 _ _ hu hi,hc];have e0:List.range 2=[0,1]:=rfl;have p0:∀(x y:Value) (w:World),(part e #[x,y] 0).run P w=.ok x w:=fun x y w=>run_part_plain w hp rfl;have p1:∀(x y:Value) (w:World),(part e #[x,y] 1).run P w=.ok y w:=fun x y w=>run_part_plain w hp rfl;have q0:∀(k:IntKind) (a b:Int) (w:World),(Op.equalIn 9999 e (.int k a) (.int k b)).run P w=.ok (a==b) w:=fun k a b w=>run_equalIn_int w 9998 e k q a b hq;rw[e0];simp only[Op.eqItems,Sem.run_bind,Nat.zero_mul,Nat.one_mul,p0,p1,Result.andThen_ok,q0];cases a==c
 ·simp
 ·simp only[Bool.not_true,wG,if_false,Sem.run_bind,p1,Result.andThen_ok,q0];cases b==d<;>simp
theorem WN {P:Program}{K:TypeId}{kt:Ty}(hk:sP P K kt=true):nW P K kt=true∨yQ P K kt=true:=by
 unfold sP at hk;simpa using hk
theorem adn {cap:Nat→Option CSig}{σ:Im}{P:Program}{K:TypeId}{kt:Ty}(hk:yQ P K kt=true){v:Value}{d:D}(hv:Rep cap σ kt v d){w:World}{b:Bool}:(Instr.checkKey b 10000 K v).run P w=.ok () w:=by
 obtain⟨k,k',e,q,i,rfl,hu,hq,hp,hi,hc⟩:=WO hk;obtain⟨x,y,rfl,_⟩:=hv.pair_inv;have p0:∀(x y:Value) (w:World),(part e #[x,y] 0).run P w=.ok x w:=fun x y w=>run_part_plain w hp rfl;have p1:∀(x y:Value) (w:World),(part e #[x,y] 1).run P w=.ok y w:=fun x y w=>run_part_plain w hp rfl
 have c0:∀(m:Nat) (k:IntKind) (n:Int) (w:World),(Instr.checkKey b (m+1) e (.int k n)).run P w=.ok () w:=fun m k n w=>by
  simp[Instr.checkKey,run_underlying hq]
 have s0:∀w:World,(Go.sizeOf e).run P w=Result.ok 1 w:=fun w=>by rw[run_sizeOf w hi,hc]
 have main:∀m,(Instr.checkKey b (m+1+1) K (.agg #[.int k x,.int k' y])).run P w=.ok () w:=by
  intro m;rw[Instr.checkKey];simp only[Sem.run_bind,run_underlying hu,Result.andThen_ok,Std.Legacy.Range.forIn_eq_forIn_range',Std.Legacy.Range.size,Nat.sub_zero,Nat.add_one_sub_one,Nat.div_one];simp[List.range',s0,p0,p1,c0,Sem.run_bind,Result.andThen_ok]
 exact main 9998
theorem T2 {cap:Nat→Option CSig}{σ:Im}{P:Program}{K:TypeId}{kt:Ty}(hk:sP P K kt=true){v:Value}{d:D}(hv:Rep cap σ kt v d){w:World}{b:Bool}:(Instr.checkKey b 10000 K v).run P w=.ok () w:=by
 rcases WN hk with hk|hk
 case inr=>exact adn hk hv
 have:∀n,(Instr.checkKey b (n+1) K v).run P w=.ok () w:=by
  intro n;rcases M3 hk with⟨k,k',rfl,hu⟩|⟨rfl,hu⟩|⟨rfl,hu⟩<;>cases v<;>simp[Instr.checkKey,run_underlying hu]
 exact this 9999
section
variable {C:Ctx} {S:St} {ρ:Env} {σ:Im} {own:Nat→Option Nat} {hv:Nat→Value} {w0:World} {σ0:Base} {A:Nat→Prop} {a:Act} {w:World} {gs:List (Nat×Bool)} {Φ:aJ} {dst:Nat}
theorem aj0 {P:Program}{K:TypeId}{kt:Ty}(hk:nW P K kt=true):∃desc,P.underlying K=some desc:=by
 rcases M3 hk with⟨k,k',rfl,hu⟩|⟨rfl,hu⟩|⟨rfl,hu⟩<;>exact⟨_,hu⟩
theorem aoQ {cap:Nat→Option CSig}{P:Program}{K:TypeId}{kt et:Ty}(hk:yQ P K kt=true){v:Value}{d:D}(hv:Rep cap σ kt v d)(arr:Array MapEntry)(ds:List (D×D))(hl:ds.length=arr.size)
 (aR:∀(j:Nat) (e:MapEntry) (p:D×D),arr[j]?=some e→ds[j]?=some p→Rep cap σ kt e.key p.1∧Rep cap σ et e.val p.2) (w:World):
 ((Instr.findKey K v arr.toList).run P w=.ok none w∧gq d ds=none∧∀u,eu d u ds=ds++[(d,u)])∨
 ∃j e p,arr[j]?=some e∧ds[j]?=some p∧(Instr.findKey K v arr.toList).run P w=.ok (some (j,e.val)) w∧gq d ds=some p.2∧(∀u,eu d u ds=ds.set j (d,u))∧Instr.sameBits 10000 e.key v=true:=by
 obtain⟨k,k',e,q,i,rfl,hu,hq,hp,hi,hc⟩:=WO hk;have dj:∀(v':Value) (d':D),Rep cap σ (.agg [.int k,.int k']) v' d'→(Op.equal K v v').run P w=.ok (dQ d d') w∧(dQ d d'=true→Instr.sameBits 10000 v' v=true)∧Instr.sameNow (.array 2 e) v v'=none:=by
  intro v' d' h';obtain⟨a,b,rfl,rfl⟩:=hv.pair_inv;obtain⟨a',b',rfl,rfl⟩:=h'.pair_inv;refine⟨?_,fun he=>?_,rfl⟩
  ·rw[aoP hu hq hp hi hc];simp[dQ,D.cells,pH,rf]
  ·have:a=a'∧b=b':=by simpa [dQ,D.cells,pH,rf] using he
   obtain⟨rfl,rfl⟩:=this;simp[Instr.sameBits]
 have ask:∀(es:List MapEntry) (ds:List (D×D)) (i:Nat),ds.length=es.length→(∀(j:Nat) (e:MapEntry) (p:D×D),es[j]?=some e→ds[j]?=some p→Rep cap σ (.agg [.int k,.int k']) e.key p.1)→
  ((Instr.findAsking K v es i).run P w=.ok none w∧∀(j:Nat) (p:D×D),ds[j]?=some p→dQ d p.1=false)∨
  ∃j e p,es[j]?=some e∧ds[j]?=some p∧(Instr.findAsking K v es i).run P w=.ok (some (i+j,e.val)) w∧dQ d p.1=true∧Instr.sameBits 10000 e.key v=true∧∀m q,m<j→ds[m]?=some q→dQ d q.1=false:=by
  intro es
  induction es with
  |nil=>intro ds i hl _;left;exact⟨by simp[Instr.findAsking],by cases ds<;>simp_all⟩
  |cons en es ih=>
   intro ds i hl aR;cases ds with
   |nil=>simp at hl
   |cons p ds=>
    obtain⟨hs,hb,_⟩:=dj en.key p.1 (aR 0 en p rfl rfl);cases lO:dQ d p.1 with
    |true=>
     right;rw[lO] at hs;exact⟨0,en,p,rfl,rfl,by simp[Instr.findAsking,hs],lO,hb lO,fun m q hm=>by omega⟩
    |false=>
     rw[lO] at hs;rcases ih ds (i+1) (by simpa using hl) (fun j e' p' he hp=>aR (j+1) e' p' (by simpa using he) (by simpa using hp)) with⟨h1,h2⟩|⟨j,e',p',h1,h2,h3,h4,h5,h6⟩
     ·left;refine⟨by simp[Instr.findAsking,hs,h1],fun j q hq=>?_⟩;cases j with
      |zero=>simp at hq;subst hq;exact lO
      |succ j=>exact h2 j q (by simpa using hq)
     ·right;refine⟨j+1,e',p',by simpa using h1,by simpa using h2,?_,h4,h5,fun m q hm hq=>?_⟩
      ·simp[Instr.findAsking,hs,h3];omega
      ·cases m with
       |zero=>simp at hq;subst hq;exact lO
       |succ m=>exact h6 m q (by omega) (by simpa using hq)
 have gS:(Instr.findKey K v arr.toList).run P w=(Instr.findAsking K v arr.toList 0).run P w:=by
  cases gR:arr.toList with
  |nil=>simp[Instr.findKey,run_underlying hu,Instr.findNow,Instr.findAsking]
  |cons en es=>
   obtain⟨p,B2⟩:∃p,ds[0]?=some p:=by
        have:0<ds.length:=by rw[hl];have:=congrArg List.length gR;simp at this;omega
        exact⟨_,be this⟩
   have LL:arr[0]?=some en:=by rw[←zU,gR];rfl
   have:=(dj en.key p.1 (aR 0 en p LL B2).1).2.2;simp[Instr.findKey,run_underlying hu,Instr.findNow,this]
 rw[gS];rcases ask arr.toList ds 0 (by simpa using hl) (fun j e p he hp=>(aR j e p (by simpa using he) hp).1) with⟨h1,h2⟩|⟨j,e,p,h1,h2,h3,h4,h5,h6⟩
 ·left;exact⟨h1,Nr h2,fun u=>OO h2⟩
 ·right;simp only[jD] at h3;exact⟨j,e,p,by simpa using h1,h2,h3,Ns h2 h4 h6,fun u=>OP h2 h4 h6,h5⟩
theorem run_findKey {cap:Nat→Option CSig}{P:Program}{K:TypeId}{kt et:Ty}(mF:sP P K kt=true){v:Value}{d:D}(hv:Rep cap σ kt v d)(arr:Array MapEntry)(ds:List (D×D))(hl:ds.length=arr.size)
 (aR:∀(j:Nat) (e:MapEntry) (p:D×D),arr[j]?=some e→ds[j]?=some p→Rep cap σ kt e.key p.1∧Rep cap σ et e.val p.2) (w:World):
 ((Instr.findKey K v arr.toList).run P w=.ok none w∧gq d ds=none∧∀u,eu d u ds=ds++[(d,u)])∨
 ∃j e p,arr[j]?=some e∧ds[j]?=some p∧(Instr.findKey K v arr.toList).run P w=.ok (some (j,e.val)) w∧gq d ds=some p.2∧(∀u,eu d u ds=ds.set j (d,u))∧Instr.sameBits 10000 e.key v=true:=by
 rcases WN mF with hk|hk
 case inr=>exact aoQ hk hv arr ds hl aR w
 obtain⟨desc,hu⟩:=aj0 hk;rcases afn hk hu hv arr.toList ds 0 (by simpa using hl) (fun j e p he hp=>(aR j e p (by simpa using he) hp).1) with⟨h1,h2⟩|⟨j,e,p,h1,h2,h3,h4,h5,h6⟩
 ·left;exact⟨by simp[Instr.findKey,run_underlying hu,h1],Nr h2,fun u=>OO h2⟩
 ·right;refine⟨j,e,p,by simpa using h1,h2,?_,Ns h2 h4 h6,fun u=>OP h2 h4 h6,h5⟩;simp only[jD] at h3;simp[Instr.findKey,run_underlying hu,h3]
theorem amW (h:Inv C S ρ σ own hv w0 σ0 A a w)(hC:CtxOK C σ0)(hg:holds gs ρ=true){T:TypeId}{m k:Operand}{ok:Bool}{r:Sh×List PI}(hr:Ou C S gs dst T m k ok=some r){o:Oper}(ho:o.op=.lookup T m k ok):
 dM C S ρ σ hv Φ dst a w o r:=by
 unfold Ou at hr;split at hr
 case h_2=>cases hr
 rename_i K E hT;simp only[ar] at hr;obtain⟨p,hp,q,hq,hr⟩:=hr;have aS:=SA h hC hg hp;have dk:=bZ h hC hg hq;split at hr
 case h_2=>cases hr
 rename_i kt et e1;rw[e1] at aS;split at hr
 case h_2=>cases hr
 rename_i z inf hz mE;cases hc:(Ty.beq q.1 kt&&sP C.P K kt&&Ty.sub z.1 et&&rJ inf et)<;>simp only[hc,cond_true,cond_false] at hr
 ·cases hr
 simp only[aq] at hc;obtain⟨⟨⟨GN,BO⟩,bT⟩,hzero⟩:=hc;rw[Ty.beq_eq _ _ GN] at dk;obtain⟨v0,nU,Cn⟩:∃v0,inf.zero=some v0∧Rep C.cap σ et v0 z.2:=by
  unfold rJ at hzero;split at hzero
  ·rename_i v0 e0;exact⟨v0,e0,(wD hz hzero).1.sub bT⟩
  ·cases hzero
 have ahH:∃(arr:Array MapEntry) (ds:List (D×D)),(p.2.ev ρ).m=ds∧ds.length=arr.size∧
  (∀(j:Nat) (e:MapEntry) (p:D×D),arr[j]?=some e→ds[j]?=some p→Rep C.cap σ kt e.key p.1∧Rep C.cap σ et e.val p.2)∧
  ((a.eval m=.map none∧arr=#[])∨∃g clock,a.eval m=.map (some g)∧w.heap[g]?=some (.map arr clock)):=by
  rcases aS with aS|⟨T',e,cells,xs,ht,_⟩|⟨g,arr,clock,es,kt',et',ht,Wj,hb,hd,hl,hx,aR⟩
  ·generalize ve:a.eval m=v at aS;generalize By:p.2.ev ρ=d at aS;cases aS with
   |mapnil=>exact⟨#[],[],by simp[D.m],rfl,by simp,.inl ⟨rfl,rfl⟩⟩
   |map kt et r ij es hm hl hx hk he=>
    obtain⟨_,arr,clock,hb,gR⟩:=(h.ok.m _ _ hm).resolve_right (fun e=>CC hl hk e.1);have hn:es.length=arr.size:=by rw[hl,←gR];simp[entriesOf]
    refine⟨arr,es,by simp[D.m],hn,fun j e p hj hp=>?_,.inr ⟨r,clock,rfl,hb⟩⟩;have:ij[j]?=some (e.key,e.val):=by rw[←gR];simp[entriesOf,hj]
    exact⟨hk j _ p this hp,he j _ p this hp⟩
  ·cases ht
  ·cases ht;exact⟨arr,es,by rw[hd];rfl,hl,aR,.inr ⟨g,clock,Wj,hb⟩⟩
 obtain⟨arr,ds,hd,hl,aR,cf⟩:=ahH;have nO:∀b,(Instr.checkKey b 10000 K (a.eval k)).run C.P w=.ok () w:=fun b=>T2 (cap:=C.cap) (σ:=σ) BO dk;have L3:∃u b x,(Instr.lookup T (a.eval m) (a.eval k) ok).run C.P w=.ok (if ok then .tuple #[u,.bool b] else u) w∧(gq (q.2.ev ρ) (p.2.ev ρ).m).getD z.2=x∧(gq (q.2.ev ρ) (p.2.ev ρ).m).isSome=b∧Rep C.cap σ et u x:=by
  rw[hd];rcases run_findKey BO dk arr ds hl aR w with⟨h1,h2,_⟩|⟨j,e,x,h1,h2,h3,h4,_,_⟩
  ·refine⟨v0,false,z.2,?_,by rw[h2];rfl,by rw[h2];rfl,Cn⟩;rcases cf with⟨em,rfl⟩|⟨g,clock,em,hb⟩
   ·simp only[List.toList_toArray] at h1;cases ok<;>simp[Instr.lookup,run_underlying hT,em,nO,h1,zeroValue,run_typeInfo w mE,nU]
   ·cases ok<;>simp[Instr.lookup,run_underlying hT,em,getObj,Sem.run,hb,nO,h1,zeroValue,run_typeInfo w mE,nU]
  ·refine⟨e.val,true,x.2,?_,by rw[h4];rfl,by rw[h4];rfl,(aR j e x h1 h2).2⟩;rcases cf with⟨em,rfl⟩|⟨g,clock,em,hb⟩
   ·simp at h1
   ·cases ok<;>simp[Instr.lookup,run_underlying hT,em,getObj,Sem.run,hb,nO,h3]
 obtain⟨u,b,x,aj,mJ,hx2,bE⟩:=L3;cases ok with
 |true=>
  simp only[cond_true] at hr;cases hr;refine .dat (v:=.tuple #[u,.bool b]) (by simp[execOp,ho,aj]) ?_;simp only[PE.ev,PE.evs,mJ,hx2];refine .tup [et,.bool] [u,.bool b] [x,.v (.bool b)] rfl rfl (fun i t hi=>?_)
  match i,hi with
  |0,hi=>simp at hi;subst hi;exact bE
  |1,hi=>simp at hi;subst hi;exact .bool b
  |i+2,hi=>simp at hi
 |false=>
  simp only[cond_false] at hr;cases hr;refine .dat (v:=u) (by simp[execOp,ho,aj]) ?_;simp only[PE.ev,mJ];exact bE
end
end Cx
namespace Cx
open Go Go.RowKit
theorem UO (off:Nat):∀(l:List Value) (s:Nat) (cells:Array Value),off+s+l.length≤cells.size→
 ((l.zipIdx s).foldl (fun cs (x:Value×Nat)=>cs.setIfInBounds (off+x.2) x.1) cells).size=cells.size∧
 ∀p,((l.zipIdx s).foldl (fun cs (x:Value×Nat)=>cs.setIfInBounds (off+x.2) x.1) cells)[p]?=if off+s≤p∧p<off+s+l.length then l[p-(off+s)]? else cells[p]?
 |[],s,cells,_=>by
  refine⟨rfl,fun p=>?_⟩;have:¬(off+s≤p∧p<off+s+0):=by omega
  simp only[List.zipIdx_nil,List.foldl_nil,wN];rw[if_neg this]
 |v::l,s,cells,h=>by
  simp only[oJ] at h;obtain⟨h1,h2⟩:=UO off l (s+1) (cells.setIfInBounds (off+s) v) (by simp;omega);simp only[List.zipIdx_cons,Ee];refine⟨by rw[h1];simp,fun p=>?_⟩;rw[h2 p];by_cases hp:p=off+s
  ·subst hp;have c1:¬(off+(s+1)≤off+s∧off+s<off+(s+1)+l.length):=by omega
   have c2:off+s≤off+s∧off+s<off+s+(v::l).length:=by simp
   rw[if_neg c1,if_pos c2,zT,if_pos rfl,if_pos (by omega)];simp
  ·by_cases hc:off+(s+1)≤p∧p<off+(s+1)+l.length
   ·have c2:off+s≤p∧p<off+s+(v::l).length:=by simp only[oJ];omega
    rw[if_pos hc,if_pos c2];rw[show p-(off+s)=(p-(off+(s+1)))+1 by omega];simp
   ·have c2:¬(off+s≤p∧p<off+s+(v::l).length):=by simp only[oJ];omega
    rw[if_neg hc,if_neg c2,zT];rw[if_neg (by omega)]
theorem K9 (place:Nat→Option (Nat×Nat)):∀(parts:List (Nat×Value)) (cells:Array Value),
 (∀p,p∈parts→∃o,place p.1=some (o,p.2.cells.size)∧o+p.2.cells.size≤cells.size)→
 (∀i j oi si oj sj,i≠j→place i=some (oi,si)→place j=some (oj,sj)→oi+si≤oj∨oj+sj≤oi)→(parts.map (·.1)).Nodup→
 ∃dh,Instr.fill place cells parts=some dh∧dh.size=cells.size∧
  (∀i v o,(i,v)∈parts→place i=some (o,v.cells.size)→∀m,m<v.cells.size→dh[o+m]?=v.cells[m]?)∧
  (∀i o s,i∉parts.map (·.1)→place i=some (o,s)→∀m,m<s→dh[o+m]?=cells[o+m]?)
 |[],cells,_,_,_=>⟨cells,rfl,rfl,by simp,fun _ _ _ _ _ _ _=>rfl⟩
 |(i,v)::parts,cells,h,yp,bm=>by
  obtain⟨o,hp,hle⟩:=h (i,v) (eC ..);simp only at hp hle;obtain⟨g1,g2⟩:=UO o v.cells.toList 0 cells (by simp;omega);simp only[eB,nj] at bm
  have hz:v.cells.zipIdx.foldl (fun cs (x:Value×Nat)=>cs.setIfInBounds (o+x.2) x.1) cells=(v.cells.toList.zipIdx 0).foldl (fun cs (x:Value×Nat)=>cs.setIfInBounds (o+x.2) x.1) cells:=by
    rw[←Array.foldl_toList];simp
  generalize Vp:(v.cells.toList.zipIdx 0).foldl (fun cs (x:Value×Nat)=>cs.setIfInBounds (o+x.2) x.1) cells=c1 at g1 g2 hz
  obtain⟨dh,k1,k2,k3,k4⟩:=K9 place parts c1 (fun p hm=>by
    obtain⟨o',h1,h2⟩:=h p (ef _ hm);exact⟨o',h1,by rw[g1];exact h2⟩) yp bm.2
  refine⟨dh,?_,k2.trans g1,?_,?_⟩
  ·simp only[Instr.fill,hp];have:¬((v.cells.size≠v.cells.size||decide (o+v.cells.size>cells.size))=true):=by simp;omega
   rw[if_neg this];rw[←k1,←hz]
  ·intro j u o' hm yE m af;rcases cG.1 hm with e|eF
   ·cases e;rw[hp] at yE;cases yE;rw[k4 i o v.cells.size bm.1 hp m af,g2];rw[if_pos (by simp;omega)];simp
   ·exact k3 j u o' eF yE m af
  ·intro j o' s' pv yE m af;simp only[eB,cG,not_or] at pv;rw[k4 j o' s' pv.2 yE m af,g2];have:=yp i j o v.cells.size o' s' (fun e=>pv.1 e.symm) hp yE;rw[if_neg (by simp;omega)]
section
variable {C:Ctx} {S:St} {ρ:Env} {σ:Im} {own:Nat→Option Nat} {hv:Nat→Value} {w0:World} {σ0:Base} {A:Nat→Prop} {a:Act} {w:World} {gs:List (Nat×Bool)} {Φ:aJ} {dst:Nat}
theorem Rep.flat {cap:Nat→Option CSig}{t:Ty}{v:Value}{d:D}(h:Rep cap σ t v d)(ht:t.rowT=true∨t.one=true):
 t.flat.length=t.size∧d.cells.length=t.size∧∀(m:Nat) (tm:Ty),t.flat[m]?=some tm→tm.one=true∧Rep cap σ tm (v.cells.getD m undef) (d.cells.getD m .none):=by
 cases h with
 |agg ts vs ds h1 h2 h ho=>
  refine⟨rfl,by simp[D.cells,Ty.size,h2],fun m tm hm=>⟨ho m tm hm,?_⟩⟩;have:=h m tm hm;simpa [Value.cells,D.cells,fi,aI] using this
 |tup ts vs ds h1 h2 h=>simp[Ty.rowT,Ty.one] at ht
 |_=>
  refine⟨rfl,rfl,fun m tm hm=>?_⟩
  match m,hm with
  |0,hm=>
   simp only[Ty.flat,JD,aT] at hm;subst hm;refine⟨rfl,?_⟩;simp only[Value.cells,D.cells,qg];constructor<;>assumption
  |m+1,hm=>simp[Ty.flat] at hm
theorem oa:∀{l:List Nat},iS l=true→l.Nodup
 |[],_=>List.nodup_nil
 |a::r,h=>by
  simp only[iS,aq,jx] at h;refine nj.2 ⟨fun hm=>?_,oa h.2⟩;have:=List.any_eq_false.1 h.1 a hm;simp at this
def Laid (P:Program):List Field→Nat→Prop
 |[],_=>True
 |f::fs,off=>f.offset=off∧∃inf,P.info? f.type=some inf∧Laid P fs (off+inf.size)
theorem Laid.get {P:Program}:∀{fs:List Field} {off:Nat},Laid P fs off→∀(i:Nat) (f:Field),fs[i]?=some f→∃inf,P.info? f.type=some inf∧off≤f.offset∧
 ∀(j:Nat) (g:Field),i<j→fs[j]?=some g→f.offset+inf.size≤g.offset
 |[],_,_,i,f,hi=>by simp at hi
 |f0::fs,off,h,i,f,hi=>by
  obtain⟨h1,inf,h2,h3⟩:=h;cases i with
  |zero=>
   simp at hi;subst hi;refine⟨inf,h2,by omega,fun j g hj hg=>?_⟩;cases j with
   |zero=>omega
   |succ j=>obtain⟨_,_,h4,_⟩:=h3.get j g (by simpa using hg);omega
  |succ i=>
   simp at hi;obtain⟨ajK,k1,k2,k3⟩:=h3.get i f hi;refine⟨ajK,k1,by omega,fun j g hj hg=>?_⟩;cases j with
   |zero=>omega
   |succ j=>exact k3 j g (by omega) (by simpa using hg)
theorem ac2 {zs:List Value}{parts:List (Nat×Operand)}:∀(fs:List Field) (i off:Nat) (r:List Ty×List PE),lC C S gs zs parts fs i off=some r→Laid C.P fs off:=by
 intro fs
 induction fs with
 |nil=>intro i off r _;trivial
 |cons f fs ih=>
  intro i off r h;simp only[lC] at h;split at h
  case h_2=>cases h
  rename_i inf ft hi ht;cases hc:(Nat.beq f.offset off&&Nat.beq inf.size ft.size)<;>simp only[hc,cond_true,cond_false] at h
  ·cases h
  simp only[aq] at hc;simp only[ar] at h;obtain⟨q,hq,_⟩:=h;exact⟨aw hc.1,inf,hi,ih _ _ _ hq⟩
theorem TL {zs:List Value}{parts:List (Nat×Operand)}:∀(fs:List Field) (i off:Nat) (r:List Ty×List PE),lC C S gs zs parts fs i off=some r→off≤zs.length:=by
 intro fs
 induction fs with
 |nil=>intro i off r h;simp only[lC] at h;cases hb:Nat.beq off zs.length<;>simp[hb] at h;exact Nat.le_of_eq (aw hb)
 |cons f fs ih=>
  intro i off r h;simp only[lC] at h;split at h
  case h_2=>cases h
  rename_i inf ft hi ht;cases hc:(Nat.beq f.offset off&&Nat.beq inf.size ft.size)<;>simp only[hc,cond_true,cond_false] at h
  ·cases h
  simp only[ar] at h;obtain⟨q,hq,_⟩:=h;have:=ih _ _ _ hq;omega
theorem ac1 {zs:List Value}{parts:List (Nat×Operand)}:∀(fs:List Field) (i off:Nat) (r:List Ty×List PE),lC C S gs zs parts fs i off=some r→
 ∃ft:List Ty×List PE,r=ft∧(∀(m:Nat) (f:Field) (inf:TypeInfo),fs[m]?=some f→C.P.info? f.type=some inf→f.offset+inf.size≤zs.length)∧(∀(m:Nat) (x:Nat×Operand) (f:Field) (inf:TypeInfo),fs[m]?=some f→C.P.info? f.type=some inf→parts.find? (fun p=>Nat.beq p.1 (i+m))=some x→∃y ft,use C S gs x.2=some y∧Ty.sub y.1 ft=true∧ft.size=inf.size)∧off+r.1.length=zs.length:=by
 intro fs
 induction fs with
 |nil=>intro i off r h;simp only[lC] at h;cases hb:Nat.beq off zs.length<;>simp[hb] at h;subst h;exact⟨_,rfl,by simp,by simp,by simpa using aw hb⟩
 |cons f fs ih=>
  intro i off r h;simp only[lC] at h;split at h
  case h_2=>cases h
  rename_i inf ft hi ht;cases hc:(Nat.beq f.offset off&&Nat.beq inf.size ft.size)<;>simp only[hc,cond_true,cond_false] at h
  ·cases h
  simp only[aq] at hc;have gU:=aw hc.1;have aN:=aw hc.2;simp only[ar] at h;obtain⟨q,hq,h⟩:=h;have hle:=TL _ _ _ _ hq;obtain⟨_,rfl,k1,k2,k3⟩:=ih _ _ _ hq;have e1:∀(m:Nat) (g:Field) (ig:TypeInfo),(f::fs)[m]?=some g→C.P.info? g.type=some ig→g.offset+ig.size≤zs.length:=by
   intro m g ig hm fo;cases m with
   |zero=>simp at hm;subst hm;rw[hi] at fo;cases fo;omega
   |succ m=>exact k1 m g ig (by simpa using hm) fo
  have UN:∀t:Ty,t.flat.length=t.size:=fun t=>by cases t<;>simp[Ty.flat,Ty.size]
  split at h
  ·rename_i x hx;simp only[ar] at h;obtain⟨y,hy,h⟩:=h;cases hs:(Ty.sub y.1 ft&&(y.1.rowT||y.1.one))<;>simp only[hs,cond_true,cond_false] at h
   ·cases h
   cases h;simp only[aq] at hs;refine⟨_,rfl,e1,fun m x' g ig hm fo hf=>?_,?_⟩
   ·cases m with
    |zero=>
     simp at hm;subst hm;rw[hi] at fo;cases fo;simp only[ml] at hf;rw[hx] at hf;cases hf;exact⟨y,ft,hy,hs.1,aN.symm⟩
    |succ m=>exact k2 m x' g ig (by simpa using hm) fo (by rwa [show i+(m+1)=i+1+m by omega] at hf)
   ·have:=(Ty.sub_one _ _ hs.1).2;simp only[lu,UN];omega
  ·rename_i hx;cases kR:iu ft (rowOf ft.rowT ((zs.drop off).take inf.size))<;>simp only[kR,cond_true,cond_false] at h
   ·cases h
   simp only[ax] at h;obtain⟨z,hz,rfl⟩:=h;have cq:=(wD (cap:=C.cap) (σ:=⟨fun _ _=>none,fun _=>none⟩) hz kR).2.1;refine⟨_,rfl,e1,fun m x' g ig hm fo hf=>?_,?_⟩
   ·cases m with
    |zero=>simp only[ml] at hf;rw[hx] at hf;cases hf
    |succ m=>exact k2 m x' g ig (by simpa using hm) fo (by rwa [show i+(m+1)=i+1+m by omega] at hf)
   ·have:=(Ty.sub_one _ _ cq).2;simp only[lu,UN];omega
theorem ac3 (h:Inv C S ρ σ own hv w0 σ0 A a w)(hC:CtxOK C σ0)(hg:holds gs ρ=true){zs:List Value}{parts:List (Nat×Operand)}(cells:Array Value):
 ∀(fs:List Field) (i off:Nat) (r:List Ty×List PE),lC C S gs zs parts fs i off=some r→
  (∀(m:Nat) (f:Field) (inf:TypeInfo),fs[m]?=some f→C.P.info? f.type=some inf→
        (∀x,parts.find? (fun p=>Nat.beq p.1 (i+m))=some x→∀q,q<inf.size→cells[f.offset+q]?=(a.eval x.2).cells[q]?)∧
        (parts.find? (fun p=>Nat.beq p.1 (i+m))=none→∀q,q<inf.size→cells[f.offset+q]?=zs[f.offset+q]?))→
  (PE.evc ρ r.2).length=r.1.length∧∀(m:Nat) (t:Ty),r.1[m]?=some t→t.one=true∧Rep C.cap σ t (cells.getD (off+m) undef) ((PE.evc ρ r.2).getD m .none):=by
 intro fs
 induction fs with
 |nil=>intro i off r hr _;simp only[lC] at hr;cases hb:Nat.beq off zs.length<;>simp[hb] at hr;subst hr;simp[PE.evc]
 |cons f fs ih=>
  intro i off r hr aR;simp only[lC] at hr;split at hr
  case h_2=>cases hr
  rename_i inf ft hi ht;cases hc:(Nat.beq f.offset off&&Nat.beq inf.size ft.size)<;>simp only[hc,cond_true,cond_false] at hr
  ·cases hr
  simp only[aq] at hc;have gU:=aw hc.1;have aN:=aw hc.2;simp only[ar] at hr;obtain⟨q,hq,hr⟩:=hr
  obtain⟨l1,sD⟩:=ih (i+1) (off+inf.size) q hq (fun m g ajL hm fo=>by
   have:=aR (m+1) g ajL (by simpa using hm) fo
   rwa [show i+(m+1)=i+1+m by omega] at this)
  obtain⟨hp,hn⟩:=aR 0 f inf rfl hi;have join:∀(t:Ty) (v:Value) (d:D) (pe:PE),Rep C.cap σ t v d→(t.rowT=true∨t.one=true)→pe.ev ρ=d→t.size=inf.size→(∀m,m<inf.size→cells[f.offset+m]?=v.cells[m]?)→
        (PE.evc ρ (pe::q.2)).length=(t.flat++q.1).length∧∀(m:Nat) (t':Ty),(t.flat++q.1)[m]?=some t'→t'.one=true∧Rep C.cap σ t' (cells.getD (off+m) undef) ((PE.evc ρ (pe::q.2)).getD m .none):=by
   intro t v d pe bE gl sB vd aW;obtain⟨f1,f2,f3⟩:=bE.flat gl;simp only[PE.evc,sB];refine⟨by simp[f1,f2,l1],fun m t' hm=>?_⟩;rw[kD] at hm;split at hm
   ·rename_i af;obtain⟨g1,g2⟩:=f3 m t' hm;refine⟨g1,?_⟩;have e1:cells.getD (off+m) undef=v.cells.getD m undef:=by
     rw[fi,fi,←gU,aW m (by omega)]
    have e2:(d.cells++PE.evc ρ q.2).getD m .none=d.cells.getD m .none:=by
     rw[aI,aI,mi (by omega)]
    rw[e1,e2];exact g2
   ·rename_i gk;obtain⟨g1,g2⟩:=sD _ t' hm;refine⟨g1,?_⟩;have e1:off+inf.size+(m-t.flat.length)=off+m:=by omega
    have e2:(d.cells++PE.evc ρ q.2).getD m .none=(PE.evc ρ q.2).getD (m-t.flat.length) .none:=by
     rw[aI,aI,mj (by omega)];rw[f1,←f2]
    rw[e1] at g2;rw[e2];exact g2
  simp only[ml] at hp hn;split at hr
  ·rename_i x hx;simp only[ar] at hr;obtain⟨y,hy,hr⟩:=hr;cases hs:(Ty.sub y.1 ft&&(y.1.rowT||y.1.one))<;>simp only[hs,cond_true,cond_false] at hr
   ·cases hr
   cases hr;simp only[aq,jy] at hs;exact join y.1 _ _ y.2 (bZ h hC hg hy) hs.2 rfl (by rw[(Ty.sub_one _ _ hs.1).2,aN]) (hp x hx)
  ·rename_i hx;cases kR:iu ft (rowOf ft.rowT ((zs.drop off).take inf.size))<;>simp only[kR,cond_true,cond_false] at hr
   ·cases hr
   simp only[ax] at hr;obtain⟨z,hz,rfl⟩:=hr;obtain⟨k1,k2,k3⟩:=wD (cap:=C.cap) (σ:=σ) hz kR;have GQ:(rowOf ft.rowT ((zs.drop off).take inf.size)).cells.size=inf.size:=by rw[k1.size,(Ty.sub_one _ _ k2).2,aN]
   refine join z.1 _ z.2 (.con z.2) k1 ?_ rfl (by rw[(Ty.sub_one _ _ k2).2,aN]) (fun m hm=>?_)
   ·cases ft<;>simp[m9,oE] at hz<;>first|(subst hz;simp[Ty.one])|(obtain⟨_,_,rfl⟩:=hz;simp[Ty.rowT])
   ·rw[hn hx m hm,gU];cases sE:ft.rowT with
    |true=>simp[rowOf,Value.cells,ga,gw,hm]
    |false=>
     rw[sE] at GQ k1;have h1:(z.1).rowT=false:=by
       have:=(Ty.sub_one _ _ k2)
       cases ft<;>simp[Ty.rowT] at sE<;>simp[m9,oE] at hz<;>subst hz<;>rfl
     rw[k1.cells1 h1] at GQ ⊢;simp at GQ;have hm0:m=0:=by omega
     subst hm0;have:∃u,zs[off]?=some u:=⟨_,be (show off<zs.length by have:=TL _ _ _ _ hq;omega)⟩
     simp[rowOf,aI,ga,gw,←GQ];obtain⟨u,hu⟩:=this;simp[hu]
theorem WQ {P:Program}:∀(fs:List Field) (off:Nat),Laid P fs off→
 ∃l:List (Nat×Nat),fs.mapM (fun f=>(P.info? f.type).map fun i=>(f.offset,i.size))=some l∧l.length=fs.length∧
  ∀(i:Nat) (f:Field) (inf:TypeInfo),fs[i]?=some f→P.info? f.type=some inf→l[i]?=some (f.offset,inf.size)
 |[],_,_=>⟨[],rfl,rfl,by simp⟩
 |f::fs,off,h=>by
  obtain⟨h1,inf,h2,h3⟩:=h;obtain⟨l,k1,k2,k3⟩:=WQ fs _ h3;refine⟨(f.offset,inf.size)::l,?_,by simp[k2],fun i g ig hi fo=>?_⟩
  ·simp[S5,h2,k1]
  ·cases i with
   |zero=>simp at hi;subst hi;rw[h2] at fo;cases fo;rfl
   |succ i=>simp at hi;simpa using k3 i g ig hi fo
theorem UH {parts:List (Nat×Operand)}(bm:(parts.map (·.1)).Nodup){i:Nat}{x:Operand}(h:(i,x)∈parts):parts.find? (fun p=>Nat.beq p.1 i)=some (i,x):=by
 induction parts with
 |nil=>cases h
 |cons p ps ih=>
  simp only[eB,nj] at bm;rcases cG.1 h with e|hm
  ·subst e;simp
  ·have:¬p.1=i:=fun e=>bm.1 (e▸List.mem_map_of_mem (f:=(·.1)) hm);rw[List.find?_cons_of_neg (by simpa using this)];exact ih bm.2 hm
theorem amM (h:Inv C S ρ σ own hv w0 σ0 A a w)(hC:CtxOK C σ0)(hg:holds gs ρ=true){T:TypeId}{ps:Array (Nat×Operand)}{r:Sh×List PI}(hr:Oh C S gs dst T ps.toList=some r){o:Oper}(ho:o.op=.build T ps):
 dM C S ρ σ hv Φ dst a w o r:=by
 unfold Oh at hr;split at hr
 case h_3=>cases hr
 case h_2=>
  rename_i n e inf hT mE;split at hr
  case h_2=>cases hr
  rename_i zs ie hz hie;split at hr
  case h_2=>cases hr
  rename_i x y q5;simp only[ar] at hr;obtain⟨p,hp,q,hq,hr⟩:=hr;split at hr
  case h_2=>cases hr
  rename_i k k' hk bL;cases hc:(Nat.beq n 2&&Nat.beq zs.size 2&&Nat.beq ie.size 1)<;>simp only[hc,cond_true,cond_false] at hr
  ·cases hr
  cases hr;simp only[aq] at hc;obtain⟨⟨c1,c2⟩,c3⟩:=hc;have c1:=aw c1;have c2:=aw c2;have c3:=aw c3;subst c1;have hx:=bZ h hC hg hp;have hy:=bZ h hC hg hq;rw[hk] at hx;rw[bL] at hy;obtain⟨a1,KV,ea2,_⟩:=hx.int_inv;obtain⟨b1,KW,eb2,_⟩:=hy.int_inv;have aiL:ps=#[(0,x),(1,y)]:=by rw[←rK];exact q5
  obtain⟨z0,z1,rfl⟩:∃z0 z1,zs=#[z0,z1]:=by
   match zs,c2 with
   |⟨[z0,z1]⟩,_=>exact⟨z0,z1,rfl⟩
  have LA:C.P.built T [(0,a.eval x),(1,a.eval y)]=some #[a.eval x,a.eval y]:=by
   rw[KV,KW];simp only[Program.built,mE,hT,hz,hie,c3];simp[Instr.fill,Value.cells]
  have aj:(execOp a.eval o).run C.P w=.ok (.value (.agg #[a.eval x,a.eval y])) w:=by
   have:=run_build (P:=C.P) w T (ps.map fun(x:Nat×Operand)=>(x.1,a.eval x.2)) #[a.eval x,a.eval y] (by rw[aiL];simpa using LA);simp[execOp,ho,this]
  refine .dat aj ?_;have e1:(PE.mk [p.2,q.2]).ev ρ=.agg [p.2.ev ρ,q.2.ev ρ]:=by simp[PE.ev,PE.evc,ea2,eb2,D.cells]
  rw[e1];refine .agg _ [a.eval x,a.eval y] _ rfl rfl (fun i t hi=>?_) (fun i t hi=>?_)
  ·match i,hi with
   |0,hi=>simp at hi;subst hi;rw[hk];simpa using hx
   |1,hi=>simp at hi;subst hi;rw[bL];simpa using hy
   |i+2,hi=>simp at hi
  ·match i,hi with
   |0,hi=>simp at hi;subst hi;rw[hk];rfl
   |1,hi=>simp at hi;subst hi;rw[bL];rfl
   |i+2,hi=>simp at hi
 rename_i fs inf hT mE;split at hr
 case h_2=>cases hr
 rename_i zs hz;cases hc:(iS (ps.toList.map (·.1))&&ps.toList.all (fun p=>Nat.blt p.1 fs.size))<;>simp only[hc,cond_true,cond_false] at hr
 ·cases hr
 simp only[aq] at hc;obtain⟨bm,af⟩:=hc;simp only[ax] at hr;obtain⟨q,hq,rfl⟩:=hr;have GO:=ac2 _ _ _ _ hq;have kP:=oa bm;obtain⟨_,rfl,cv,ajt,LM⟩:=ac1 _ _ _ _ hq;obtain⟨pl,eI,axo,B5⟩:=WQ _ _ GO
 have jO:∀p,p∈(ps.toList.map fun(x:Nat×Operand)=>(x.1,a.eval x.2))→∃o,pl.toArray[p.1]?=some (o,p.2.cells.size)∧o+p.2.cells.size≤zs.size:=by
  intro p hp;obtain⟨x,hx,rfl⟩:=cZ.1 hp;have vf:x.1<fs.toList.length:=by
   have:=df.1 af x hx;have h2:x.1<fs.size:=by simpa [oK] using this
   simpa using h2
  obtain⟨f,hf⟩:∃f,fs.toList[x.1]?=some f:=⟨_,be vf⟩
  obtain⟨ig,fo,_,_⟩:=GO.get _ _ hf;have BF:=UH kP (i:=x.1) (x:=x.2) hx;obtain⟨y,ft,hy,bT,aN⟩:=ajt x.1 (x.1,x.2) f ig hf fo (by simpa using BF);have sG:=(bZ h hC hg hy).size;rw[(Ty.sub_one _ _ bT).2,aN] at sG;simp only;refine⟨f.offset,?_,?_⟩
  ·rw[sG];simpa using B5 x.1 f ig hf fo
  ·rw[sG];simpa using cv x.1 f ig hf fo
 have yp:∀(i j oi si oj sj:Nat),i≠j→pl.toArray[i]?=some (oi,si)→pl.toArray[j]?=some (oj,sj)→oi+si≤oj∨oj+sj≤oi:=by
  intro i j oi si oj sj az hi hj;simp only[Ef] at hi hj;obtain⟨f,hf⟩:∃f,fs.toList[i]?=some f:=⟨_,be (by have:=(ed.1 hi).1;omega)⟩
  obtain⟨g,yu⟩:∃g,fs.toList[j]?=some g:=⟨_,be (by have:=(ed.1 hj).1;omega)⟩
  obtain⟨ig,fo,_,aie⟩:=GO.get _ _ hf;obtain⟨jg,hjg,_,aif⟩:=GO.get _ _ yu;rw[B5 i f ig hf fo] at hi;rw[B5 j g jg yu hjg] at hj;cases hi;cases hj;rcases JL i j with af|gk
  ·exact .inl (aie j g af yu)
  ·exact .inr (aif i f (by omega) hf)
 obtain⟨dh,f1,f2,f3,f4⟩:=K9 (pl.toArray[·]?) (ps.toList.map fun(x:Nat×Operand)=>(x.1,a.eval x.2)) zs jO yp (by simpa [D9] using kP)
 have LA:C.P.built T (ps.toList.map fun(x:Nat×Operand)=>(x.1,a.eval x.2))=some dh:=by
  simp only[Program.built,mE,hT,hz,eI];exact f1
 have aj:(execOp a.eval o).run C.P w=.ok (.value (.agg dh)) w:=by
  have:=run_build (P:=C.P) w T (ps.map fun(x:Nat×Operand)=>(x.1,a.eval x.2)) dh (by rw[wE];exact LA);simp[execOp,ho,this]
 refine .dat aj ?_;have uN:∀(m:Nat) (f:Field) (ig:TypeInfo),fs.toList[m]?=some f→C.P.info? f.type=some ig→
  (∀x,ps.toList.find? (fun p=>Nat.beq p.1 (0+m))=some x→∀q,q<ig.size→dh[f.offset+q]?=(a.eval x.2).cells[q]?)∧
  (ps.toList.find? (fun p=>Nat.beq p.1 (0+m))=none→∀q,q<ig.size→dh[f.offset+q]?=zs.toList[f.offset+q]?):=by
  intro m f ig hm fo;refine⟨fun x hx p hp=>?_,fun hx p hp=>?_⟩
  ·have mJ:x.1=m:=by have:=z7 hx;simpa using this
   have yM:(x.1,a.eval x.2)∈(ps.toList.map fun(x:Nat×Operand)=>(x.1,a.eval x.2)):=cZ.2 ⟨x,tT hx,rfl⟩;obtain⟨o',gT,hle⟩:=jO _ yM;simp only at gT hle;have V2:=B5 m f ig hm fo;simp only[Ef,mJ] at gT;rw[V2] at gT;simp only[aT,mm] at gT;obtain⟨e1,e2⟩:=gT;exact f3 x.1 (a.eval x.2) f.offset yM (by simp[mJ,V2,←e2]) p (by omega)
  ·have pv:m∉(ps.toList.map fun(x:Nat×Operand)=>(x.1,a.eval x.2)).map (·.1):=by
        intro cQ;simp only[Ac,cZ,D9] at cQ;obtain⟨x,yM,e⟩:=cQ;have:=tR.1 hx x yM;simp[e] at this
   rw[f4 m f.offset ig.size pv (by simpa using B5 m f ig hm fo) p hp];simp
 obtain⟨l1,aR⟩:=ac3 h hC hg dh _ _ _ _ hq uN
 ·simp only[PE.ev];have:dh=dh.toList.toArray:=by simp
  rw[this];have hlen:dh.toList.length=q.1.length:=by simp[f2] at LM ⊢;omega
  refine .agg _ _ _ hlen l1 (fun i t hi=>?_) (fun i t hi=>(aR i t hi).1);have:=(aR i t hi).2;simpa [fi,aI] using this
end
end Cx
