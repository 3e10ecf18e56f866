/-
  Shared texts of this claim.
-/
import Derived.Test.YtbemlocmcgcbdaaGreatDoorKAA
import Derived.ChangeKeysEq
import Derived.Laws.Tables
set_option linter.defProp false
set_option linter.unusedSimpArgs false
set_option linter.unusedVariables false
namespace Cx
open Go Go.RowKit
def Rep.int_inv {cap:Nat->Option CSig}{V:Im}{k:IntKind}{v:Value}{d:D}(h:Rep cap V (.int k) v d):∃n,v=.int k n/\d=.v (.int k n)/\k.min<=n/\n<=k.max:=by
 cases h with
 |int k n h1 h2=>exact⟨n,rfl,rfl,h1,h2⟩
def Rep.bool_inv {cap:Nat->Option CSig}{V:Im}{v:Value}{d:D}(h:Rep cap V .bool v d):∃b,v=.bool b/\d=.v (.bool b):=by
 cases h with
 |bool b=>exact⟨b,rfl,rfl⟩
def Rep.str_inv {cap:Nat->Option CSig}{V:Im}{v:Value}{d:D}(h:Rep cap V .str v d):∃s,v=.string s/\d=.v (.string s)/\s.size<=maxLen:=by
 cases h with
 |str s h=>exact⟨s,rfl,rfl,h⟩
def Rep.slice_inv {cap:Nat->Option CSig}{V:Im}{e:Ty}{v:Value}{d:D}(h:Rep cap V (.slice e) v d):∃xs,d=.list xs/\
 (((∃p,v=.slice p 0 0)/\xs=[])\/∃k o c,v=.slice (some ⟨k,o,none⟩) xs.length c/\xs.length<=c/\c<=maxLen/\
   ∃vs:Nat->Value,(∀(i:Nat) (x:D),xs[i]?=some x->Rep cap V e.unf (vs i) x)/\∀(i j:Nat) (u:Value),i<xs.length->(vs i).cells[j]?=some u->V.c k (o+i*e.size+j)=some u):=by
 cases h with
 |nil e=>exact⟨[],rfl,.inl ⟨⟨_,rfl⟩,rfl⟩⟩
 |emp e a=>exact⟨[],rfl,.inl ⟨⟨_,rfl⟩,rfl⟩⟩
 |slice e k o n c xs vs hn hc hm h hv hz=>subst hn;exact⟨xs,rfl,.inr ⟨k,o,c,rfl,hc,hm,vs,h,hv⟩⟩
def Rep.slice_inv' {cap:Nat->Option CSig}{V:Im}{e:Ty}{v:Value}{d:D}(h:Rep cap V (.slice e) v d):∃xs,d=.list xs/\
 (((∃p,v=.slice p 0 0)/\xs=[])\/∃k o c,v=.slice (some ⟨k,o,none⟩) xs.length c/\xs.length<=c/\c<=maxLen/\(e=.int .i64->V.m k=some mB)/\
   ∃vs:Nat->Value,(∀(i:Nat) (x:D),xs[i]?=some x->Rep cap V e.unf (vs i) x)/\∀(i j:Nat) (u:Value),i<xs.length->(vs i).cells[j]?=some u->V.c k (o+i*e.size+j)=some u):=by
 cases h with
 |nil e=>exact⟨[],rfl,.inl ⟨⟨_,rfl⟩,rfl⟩⟩
 |emp e a=>exact⟨[],rfl,.inl ⟨⟨_,rfl⟩,rfl⟩⟩
 |slice e k o n c xs vs hn hc hm h hv hz=>subst hn;exact⟨xs,rfl,.inr ⟨k,o,c,rfl,hc,hm,hz,vs,h,hv⟩⟩
def Rep.ref_inv {cap:Nat->Option CSig}{V:Im}{t:Ty}{v:Value}{d:D}(h:Rep cap V (.ref t) v d):∃k o x y,v=.pointer (some ⟨k,o,none⟩)/\d=.ref y/\Rep cap V t x y/\∀(j:Nat) (u:Value),x.cells[j]?=some u->V.c k (o+j)=some u:=by
 cases h with
 |ref t k o x y h hv=>exact⟨k,o,x,y,rfl,rfl,h,hv⟩
def Rep.agg_inv {cap:Nat->Option CSig}{V:Im}{ts:List Ty}{v:Value}{d:D}(h:Rep cap V (.agg ts) v d):∃(vs:List Value) (ds:List D),v=.agg vs.toArray/\d=.agg ds/\vs.length=ts.length/\ds.length=ts.length/\
 (∀(i:Nat) (t:Ty),ts[i]?=some t->Rep cap V t (vs.getD i undef) (ds.getD i .none))/\∀(i:Nat) (t:Ty),ts[i]?=some t->t.one=true:=by
 cases h with
 |agg ts vs ds h1 h2 h ho=>exact⟨vs,ds,rfl,rfl,h1,h2,h,ho⟩
def Rep.tup_inv {cap:Nat->Option CSig}{V:Im}{ts:List Ty}{v:Value}{d:D}(h:Rep cap V (.tup ts) v d):∃(vs:List Value) (ds:List D),v=.tuple vs.toArray/\d=.tup ds/\vs.length=ts.length/\ds.length=ts.length/\
 (∀(i:Nat) (t:Ty),ts[i]?=some t->Rep cap V t (vs.getD i undef) (ds.getD i .none)):=by
 cases h with
 |tup ts vs ds h1 h2 h=>exact⟨vs,ds,rfl,rfl,h1,h2,h⟩
def uf (k:IntKind)(n:Int):k.min<=k.wrap n/\k.wrap n<=k.max:=by
 cases k<;>simp only[IntKind.min,IntKind.max,IntKind.wrap,IntKind.signed,IntKind.bits]<;>simp<;>(try split)<;>omega
def aks (k:IntKind){a b:Int}(ha:k.min<=a/\a<=k.max):k.min<=a.tmod b/\a.tmod b<=k.max:=by
 have h1:k.min<=0:=by cases k<;>decide
 have h2:0<=k.max:=by cases k<;>decide
 have hn:(a.tmod b).natAbs<=a.natAbs:=by rw[Int.natAbs_tmod];exact Nat.mod_le _ _
 rcases Int.le_total 0 a with h|h
 .have:=Int.tmod_nonneg b h;omega
 .have:a.tmod b<=0:=by
   have:=Int.tmod_nonneg b (a:=-a) (by omega);rw[Int.neg_tmod] at this;omega
  omega
def adb (k:IntKind){a:Int}(n:Nat)(ha:k.min<=a/\a<=k.max):k.min<=a.fdiv (2^n)/\a.fdiv (2^n)<=k.max:=by
 have h1:k.min<=0:=by cases k<;>decide
 have h2:0<=k.max:=by cases k<;>decide
 have hp:(0:Int)<2^n:=Int.pow_pos (by decide);rw[ak6 _ (by omega)];rcases Int.le_total 0 a with h|h
 .have h3:=Pw h (by omega:(0:Int)<=2^n);have h4:=Int.ediv_le_self (b:=2^n) h;omega
 .have h3:a/2^n<=0:=by
   have:=Pv hp h;simpa using this
  have h4:a<=a/2^n:=by
   rw[Int.le_ediv_iff_mul_le hp];have:a*2^n<=a*1:=Int.mul_le_mul_of_nonpos_left h (by omega);omega
  omega
section
variable {C:Ctx} {S:St} {O:Env} {V:Im} {own:Nat->Option Nat} {hv:Nat->Value} {w0:World} {σ0:Base} {A:Nat->Prop} {a:Act} {w:World} {gs:List (Nat×Bool)} {Z:aO} {dst:Nat}
def xq {e:PE}{O':Env}(h:PI.runs Z [.setR dst e] O=some O'):O'=O.setR dst (e.ev O):=by
 simp[PI.runs,PI.run] at h;exact h.symm
def XC (hg:holds gs O=true){c e:PE}{O':Env}(h:PI.runs Z [sI gs c,.setR dst e] O=some O'):(c.ev O).b=true/\O'=O.setR dst (e.ev O):=by
 simp only[PI.runs,PI.run,sI] at h;cases eF:gs with
 |nil=>
  subst eF;simp only at h;cases hb:(c.ev O).b<;>simp[hb] at h;exact⟨rfl,h.symm⟩
 |cons g r=>
  rw[eF] at h;simp only at h;rw[eF] at hg;cases hb:(c.ev O).b
  .simp[PE.ev,hg,hb,D.b_bool] at h
  .simp[PE.ev,hg,hb,D.b_bool] at h;exact⟨rfl,h.symm⟩
def eK (C:Ctx)(S:St)(O:Env)(V:Im)(hv:Nat->Value)(Z:aO)(dst:Nat)(a:Act)(w:World)(o:Oper)(r:Sh×List PI):Prop:=
 ∀O',PI.runs Z r.2 O=some O'->∃v d,O'=O.setR dst d/\(execOp a.eval o).run C.P w=.ok (.value v) w/\aG C S O V hv r.1 v d/\∀gs s,r.1≠.opt gs s
def eK.dat {o:Oper}{t:Ty}{e:PE}{v:Value}(hx:(execOp a.eval o).run C.P w=.ok (.value v) w)(hr:Rep C.cap V t v (e.ev O)):
 eK C S O V hv Z dst a w o (.dat t,[.setR dst e]):=by
 intro O' h;exact⟨v,e.ev O,xq h,hx,hr,λ_ _ e=>by cases e⟩
def eK.datc (hg:holds gs O=true){o:Oper}{t:Ty}{c e:PE}(hx:(c.ev O).b=true->∃v,(execOp a.eval o).run C.P w=.ok (.value v) w/\Rep C.cap V t v (e.ev O)):
 eK C S O V hv Z dst a w o (.dat t,[sI gs c,.setR dst e]):=by
 intro O' h;obtain⟨hb,he⟩:=XC hg h;obtain⟨v,h1,h2⟩:=hx hb;exact⟨v,e.ev O,he,h1,h2,λ_ _ e=>by cases e⟩
def aiu (h:Inv C S O V own hv w0 σ0 A a w)(hC:CtxOK C σ0)(hg:holds gs O=true){x:Operand}{r:Sh×List PI}(hr:z7 C S gs dst x=some r){o:Oper}(ho:o.op=.move x\/o.op=.assign x):
 eK C S O V hv Z dst a w o r:=by
 have hx:(execOp a.eval o).run C.P w=.ok (.value (a.eval x)) w:=by rcases ho with ho|ho<;>simp[execOp,ho,Sem.run,pure]
 unfold z7 at hr;split at hr
 .rename_i y hy;cases hr;exact .dat hx (cu h hC hg hy)
 .split at hr
  .rename_i t _;obtain⟨hs,hn⟩:=sd h hg t;split at hr
   .cases hr
   .cases hr
   .cases hr;intro O' h';exact⟨_,_,xq h',hx,hs,hn⟩
  .cases hr
def axT (h:Inv C S O V own hv w0 σ0 A a w)(hC:CtxOK C σ0)(hg:holds gs O=true){c x y:Operand}{r:Sh×List PI}(hr:VD C S gs dst c x y=some r){o:Oper}(ho:o.op=.pick c x y):
 eK C S O V hv Z dst a w o r:=by
 unfold VD at hr;split at hr
 .rename_i t;split at hr
  .rename_i es;obtain⟨hs,_⟩:=sd h hg t;rw[es] at hs;obtain⟨b,aL,bu⟩:=Rep.bool_inv hs;simp only[az] at hr;obtain⟨q1,h1,q2,h2,hr⟩:=hr;cases hb:Ty.beq q1.1 q2.1<;>simp only[hb,zyy,zyx] at hr
   .cases hr
   .cases hr;have e2:=Ty.beq_eq _ _ hb;have aq:(execOp a.eval o).run C.P w=.ok (.value (if b then a.eval x else a.eval y)) w:=by
     have:a.eval (.tmp t)=.bool b:=aL;simp[execOp,ho,this,asBool,Sem.run,pure,bind,Sem.bind]
    refine .dat aq ?_;show Rep C.cap V q1.1 _ (bif (O.r t).b then q1.2.ev O else q2.2.ev O);have fE:(O.r t).b=b:=by rw[bu];rfl
    cases b with
    |true=>
     simp only[fE,zyy,if_true];exact cu h hC (by simp only[holds,sv,fE];exact hg) h1
    |false=>
     simp only[fE,zyx];rw[e2];exact cu h hC (by simp only[holds,sv,fE];exact hg) h2
  .cases hr
 .cases hr
def OH {op:BinOp}{T T':TypeId}{x y:Operand}{v v':Value}{o:Oper}(ho:o.op=.binOp op T x y T')(hv:a.eval x=v)(hv':a.eval y=v')(h1:∀u,v≠.agg u)(h2:v≠.nilIface):
 (execOp a.eval o).run C.P w=((binOp op T v v').bind λr=>.pure (.value r)).run C.P w:=by
 have he:eqGuard op T x y v v'=.pure ():=by
  cases v<;>first|(exact absurd rfl h2)|(exact absurd rfl (h1 _))|(cases op<;>simp[eqGuard]<;>rfl)
 simp only[execOp,ho,hv,hv',he];rfl
def ac3 {P:Program}{cap:Nat->Option CSig}{V:Im}{O:Env}{x y:PE}(w:World)(d:Nat){t:Ty}{T:TypeId}{v u:Value}{e:PE}(hk:np P T t=true)(he:yR t x y=some e)(g1:Rep cap V t v (x.ev O))(g2:Rep cap V t u (y.ev O)):
 ∃b,e.ev O=.v (.bool b)/\(Op.equalIn (d+1) T v u).run P w=.ok b w:=by
 cases t with
 |int k=>
  obtain⟨n,v1,d1,_⟩:=g1.int_inv;obtain⟨m,v2,d2,_⟩:=g2.int_inv;simp only[yR,bj] at he;subst he;have hu:∃k',P.underlying T=some (.int k'):=by
   simp only[np] at hk;split at hk
   .exact⟨_,by assumption⟩
   .cases hk
  obtain⟨k',hu⟩:=hu;exact⟨n==m,by simp only[PE.ev,d1,d2];rfl,by rw[v1,v2];exact run_equalIn_int w d T k k' n m hu⟩
 |bool=>
  obtain⟨n,v1,d1⟩:=g1.bool_inv;obtain⟨m,v2,d2⟩:=g2.bool_inv;simp only[yR,bj] at he;subst he;have hu:P.underlying T=some .bool:=by
   simp only[np] at hk;split at hk
   .assumption
   .cases hk
  exact⟨n==m,by simp only[PE.ev,d1,d2];rfl,by rw[v1,v2];exact run_equalIn_bool' w d T n m hu⟩
 |str=>
  obtain⟨n,v1,d1,_⟩:=g1.str_inv;obtain⟨m,v2,d2,_⟩:=g2.str_inv;simp only[yR,bj] at he;subst he;have hu:P.underlying T=some .string:=by
   simp only[np] at hk;split at hk
   .assumption
   .cases hk
  exact⟨n.toList==m.toList,by simp only[PE.ev,d1,d2];rfl,by rw[v1,v2];exact run_equalIn_string w d T n m hu⟩
 |_=>simp[yR] at he
def aH7 {P:Program}{cap:Nat->Option CSig}{V:Im}{O:Env}{x y:PE}{X Y:List D}(w:World)(hx:x.ev O=.agg X)(hy:y.ev O=.agg Y){vs us:List Value}(b d:Nat):
 ∀(fs:List Field) (i:Nat) (ts:List Ty) (e:PE),yP P x y b fs i ts=some e->(∀j t,ts[j]?=some t->Rep cap V t (vs.getD (i+j) undef) (X.getD (b+i+j) .none)/\Rep cap V t (us.getD (i+j) undef) (Y.getD (b+i+j) .none))->
  i+ts.length<=vs.length->i+ts.length<=us.length->
  ∃b,e.ev O=.v (.bool b)/\(Op.eqFields (d+1) vs.toArray us.toArray fs).run P w=.ok b w:=by
 intro fs
 induction fs with
 |nil=>
  intro i ts e h _ _ _;cases ts with
  |nil=>simp only[yP,bj] at h;subst h;exact⟨true,rfl,rfl⟩
  |cons t ts=>simp[yP] at h
 |cons f fs ih=>
  intro i ts e h hr l1 l2;cases ts with
  |nil=>simp[yP] at h
  |cons t ts=>
   simp only[yP] at h;cases hc:((f.name != "_")&&Nat.beq f.offset i&&np P f.type t&&P.plainKey f.type)<;>simp only[hc,zyy,zyx] at h
   .cases h
   simp only[au,bne_iff_ne,ne_eq] at hc;obtain⟨⟨⟨hn,ho⟩,hk⟩,hp⟩:=hc;have ho:=aD ho;simp only[az,aB] at h;obtain⟨e1,uN,r,ng,rfl⟩:=h
   obtain⟨b2,dA,Td⟩:=ih (i+1) ts r ng (λj t hj=>by
        have:=hr (j+1) t (by simpa using hj)
        rwa [show i+(j+1)=i+1+j by omega,show b+i+(j+1)=b+(i+1)+j by omega] at this) (by simp at l1;omega) (by simp at l2;omega)
   obtain⟨g1,g2⟩:=hr 0 t rfl;rw[l9,l9] at g1 g2;simp only[px] at l1 l2;have wF:vs.toArray[f.offset]?=some (vs.getD i undef):=by rw[ho];simp[aH,show i<vs.length by omega]
   have Tn:us.toArray[f.offset]?=some (us.getD i undef):=by rw[ho];simp[aH,show i<us.length by omega]
   have p1:=run_part_plain (P:=P) (w:=w) hp wF;have p2:=run_part_plain (P:=P) (w:=w) hp Tn;have ex:(PE.cell x (b+i)).ev O=X.getD (b+i) .none:=by simp only[PE.ev,hx];rfl
   have ey:(PE.cell y (b+i)).ev O=Y.getD (b+i) .none:=by simp only[PE.ev,hy];rfl
   obtain⟨b1,jN,tz⟩:=ac3 (P:=P) w d (O:=O) hk uN (by rw[ex];exact g1) (by rw[ey];exact g2);refine⟨b1&&b2,by simp only[PE.ev,jN,dA];rfl,?_⟩;simp only[Op.eqFields,if_pos hn,Sem.run_bind,p1,p2,tz,Result.andThen_ok];cases b1
   .rfl
   .simpa using Td
def ao1 {P:Program}{cap:Nat->Option CSig}{V:Im}{O:Env}{x y:PE}{X Y:List D}(w:World)(hx:x.ev O=.agg X)(hy:y.ev O=.agg Y){vs us:List Value}(d:Nat):
 ∀(fs:List Field) (i:Nat) (ts:List Ty) (e:PE),yQ P x y fs i ts=some e->(∀j t,ts[j]?=some t->Rep cap V t (vs.getD (i+j) undef) (X.getD (i+j) .none)/\Rep cap V t (us.getD (i+j) undef) (Y.getD (i+j) .none))->
  i+ts.length<=vs.length->i+ts.length<=us.length->
  ∃b,e.ev O=.v (.bool b)/\(Op.eqFields (d+2) vs.toArray us.toArray fs).run P w=.ok b w:=by
 intro fs
 induction fs with
 |nil=>
  intro i ts e h _ _ _;cases ts with
  |nil=>simp only[yQ,bj] at h;subst h;exact⟨true,rfl,rfl⟩
  |cons t ts=>simp[yQ] at h
 |cons f fs ih=>
  intro i ts e h hr l1 l2;unfold yQ at h;split at h
  .rename_i n cg;cases cg
  .split at h
   .rename_i t ts;cases hc:((f.name != "_")&&Nat.beq f.offset i&&np P f.type t&&P.plainKey f.type)<;>simp only[hc,zyy,zyx] at h
    .cases h
    simp only[au,bne_iff_ne,ne_eq] at hc;obtain⟨⟨⟨hn,ho⟩,hk⟩,hp⟩:=hc;have ho:=aD ho;simp only[az,aB] at h;obtain⟨e1,uN,r,ng,rfl⟩:=h
    obtain⟨b2,dA,Td⟩:=ih (i+1) ts r ng (λj t hj=>by
     have:=hr (j+1) t (by simpa using hj)
     rwa [show i+(j+1)=i+1+j by omega] at this) (by simp at l1;omega) (by simp at l2;omega)
    obtain⟨g1,g2⟩:=hr 0 t rfl;rw[l9] at g1 g2;simp only[px] at l1 l2;have wF:vs.toArray[f.offset]?=some (vs.getD i undef):=by rw[ho];simp[aH,show i<vs.length by omega]
    have Tn:us.toArray[f.offset]?=some (us.getD i undef):=by rw[ho];simp[aH,show i<us.length by omega]
    have p1:=run_part_plain (P:=P) (w:=w) hp wF;have p2:=run_part_plain (P:=P) (w:=w) hp Tn;have ex:(PE.cell x i).ev O=X.getD i .none:=by simp only[PE.ev,hx];rfl
    have ey:(PE.cell y i).ev O=Y.getD i .none:=by simp only[PE.ev,hy];rfl
    obtain⟨b1,jN,tz⟩:=ac3 (P:=P) w (d+1) (O:=O) hk uN (by rw[ex];exact g1) (by rw[ey];exact g2);refine⟨b1&&b2,by simp only[PE.ev,jN,dA];rfl,?_⟩;simp only[Op.eqFields,if_pos hn,Sem.run_bind,p1,p2,tz,Result.andThen_ok];cases b1
    .rfl
    .simpa using Td
   .cases h
def axG (h:Inv C S O V own hv w0 σ0 A a w)(hC:CtxOK C σ0)(hg:holds gs O=true){op:BinOp}{T T':TypeId}{x y:Operand}{r:Sh×List PI}(hr:Vr C S gs dst op T x y=some r){o:Oper}(ho:o.op=.binOp op T x y T'):
 eK C S O V hv Z dst a w o r:=by
 simp only[Vr,az] at hr;obtain⟨p,hp,q,hq,hr⟩:=hr;have aW:=cu h hC hg hp;have dE:=cu h hC hg hq;split at hr
 .rename_i k k' e1 e2;rw[e1] at aW;rw[e2] at dE;obtain⟨n,aL,bu,b1,b2⟩:=aW.int_inv;obtain⟨m,iL,dv,b3,b4⟩:=dE.int_inv;have aq:=OH (C:=C) (w:=w) ho aL iL (by intro u e;cases e) (by intro e;cases e);cases oL:(op==.shl||op==.shr)<;>simp only[oL,zyy,zyx] at hr
  .cases wh:(k==k')<;>simp only[wh,zyy,zyx] at hr
   .cases hr
   .have Sm:k=k':=by simpa using wh
    subst Sm;cases zn:(op==.quo||op==.rem)<;>simp only[zn,zyy,zyx] at hr
    .cases har:Jz op<;>simp only[har,zyy,zyx] at hr
     .cases oz:Cg op<;>simp only[oz,zyy,zyx] at hr
      .cases hr
      .cases hr;refine .dat (v:=.bool (jJ op n m)) ?_ ?_
       .rw[aq];cases op<;>simp_all [Cg]<;>simp[binOp,Op.intCmp,jJ,Sem.run,pure,Sem.bind]
       .simp only[PE.ev,bu,dv,D.i_int];exact .bool _
     .cases hr;refine .dat (v:=.int k (bS op k n m)) ?_ ?_
      .rw[aq];cases op<;>simp_all [Jz]<;>simp[binOp,Op.intArith,Op.intBits,bS,Sem.run,pure,Sem.bind]
      .simp only[PE.ev,bu,dv,D.i_int];refine .int _ _ ?_ ?_<;>(cases op<;>simp_all [Jz]<;>first|exact(uf _ _).1|exact(uf _ _).2)
    .cases hr;refine .datc hg λhc=>⟨.int k (bS op k n m),?_,?_⟩
     .have ay:m≠0:=by simpa [PE.ev,dv,D.i_int,D.b_bool,jJ,D.int] using hc
      rw[aq];rcases(by simpa using zn:op=.quo\/op=.rem) with rfl|rfl<;>simp[binOp,Op.intDiv,bS,Sem.run,pure,Sem.bind,ay]
     .simp only[PE.ev,bu,dv,D.i_int];cases op<;>simp_all
      .exact .int _ _ (uf _ _).1 (uf _ _).2
      .exact .int _ _ (aks k ⟨b1,b2⟩).1 (aks k ⟨b1,b2⟩).2
  .cases hr;refine .datc hg λhc=>⟨.int k (bS op k n m),?_,?_⟩
   .have ay:¬m<0:=by
     have:0<=m:=by simpa [PE.ev,dv,D.i_int,D.b_bool,jJ,D.int] using hc
     omega
    rw[aq];rcases(by simpa using oL:op=.shl\/op=.shr) with rfl|rfl<;>simp[binOp,Op.shift,bS,Sem.run,pure,Sem.bind,ay]
   .simp only[PE.ev,bu,dv,D.i_int];cases op<;>simp_all
    .exact .int _ _ (uf _ _).1 (uf _ _).2
    .exact .int _ _ (adb k _ ⟨b1,b2⟩).1 (adb k _ ⟨b1,b2⟩).2
 .rename_i e1 e2;rw[e1] at aW;rw[e2] at dE;obtain⟨n,aL,bu⟩:=aW.bool_inv;obtain⟨m,iL,dv⟩:=dE.bool_inv;have aq:=OH (C:=C) (w:=w) ho aL iL (by intro u e;cases e) (by intro e;cases e);cases eG:((op==.eql||op==.neq)&&TG C.P T)<;>simp only[eG,zyy,zyx] at hr
  .cases hr
  .cases hr;simp only[au] at eG;obtain⟨eG,hT⟩:=eG;have CA:C.P.underlying T=some .bool:=by
        unfold TG at hT;split at hT
        .assumption
        .cases hT
   have heq:(Op.equal T (.bool n) (.bool m)).run C.P w=.ok (n==m) w:=by
        have:∀d,(Op.equalIn (d+1) T (.bool n) (.bool m)).run C.P w=.ok (n==m) w:=λd=>by simp[Op.equalIn,run_underlying CA]
        exact this 9999
   refine .dat (v:=.bool (Cf op n m)) ?_ ?_
   .rw[aq];rcases(by simpa using eG:op=.eql\/op=.neq) with rfl|rfl<;>simp[binOp,Cf,heq,Sem.run_bind']
   .simp only[PE.ev,bu,dv,D.b_bool];exact .bool _
 .rename_i e1 e2;rw[e1] at aW;rw[e2] at dE;obtain⟨n,aL,bu,_⟩:=aW.str_inv;obtain⟨m,iL,dv,_⟩:=dE.str_inv;have aq:=OH (C:=C) (w:=w) ho aL iL (by intro u e;cases e) (by intro e;cases e);cases eG:Cg op<;>simp only[eG,zyy,zyx] at hr
  .cases hr
  .cases hr;refine .dat (v:=.bool (Ch op n m)) ?_ ?_
   .rw[aq];cases op<;>simp_all [Cg]<;>simp[binOp,Op.stringOp,Ch,Sem.run,pure,Sem.bind]
   .simp only[PE.ev,bu,dv,D.s_str];exact .bool _
 .rename_i e e' e1 e2;rw[e1] at aW;rw[e2] at dE;split at hr
  case h_2=>cases hr
  rename_i E hT;cases eG:(op==.eql||op==.neq)<;>simp only[eG,zyy,zyx] at hr
  .cases hr
  cases hr;obtain⟨n,xs,aL,bu,asO⟩:∃(n:Bool) (xs:List D),(n=true/\a.eval x=.slice none 0 0\/n=false/\∃k o m c,a.eval x=.slice (some ⟨k,o,none⟩) m c)/\p.2.ev O=.list xs/\n=decide (xs=[]):=by
   generalize a.eval x=vv at aW;generalize p.2.ev O=dd at aW;cases aW with
   |nsl0=>exact⟨true,[],.inl ⟨rfl,rfl⟩,rfl,rfl⟩
   |nsl _ k o m c xs h hx=>exact⟨false,xs,.inr ⟨rfl,k,o,m,c,rfl⟩,rfl,by simp[hx]⟩
  have iL:a.eval y=.slice none 0 0:=by
   generalize a.eval y=vv at dE;generalize q.2.ev O=dd at dE;cases dE;rfl
  have heq:(Op.equal T (a.eval x) (a.eval y)).run C.P w=.ok n w:=by
   have:∀d,(Op.equalIn (d+1) T (a.eval x) (a.eval y)).run C.P w=.ok n w:=λd=>by
        rw[iL];rcases aL with⟨rfl,h1⟩|⟨rfl,k,o,m,c,h1⟩<;>rw[h1]<;>simp[Op.equalIn,run_underlying hT]
   exact this 9999
  have aq:=OH (C:=C) (w:=w) ho rfl rfl (by
   intro u e;rcases aL with⟨_,h1⟩|⟨_,k,o,m,c,h1⟩<;>rw[h1] at e<;>cases e) (by
   intro e;rcases aL with⟨_,h1⟩|⟨_,k,o,m,c,h1⟩<;>rw[h1] at e<;>cases e)
  refine .dat (v:=.bool (jJ op xs.length 0)) ?_ ?_
  .have ay:∀(y:D) (ys:List D),¬((ys.length:Int)+1=0):=λy ys=>by omega
   rw[aq,iL];rw[iL] at heq;rcases aL with⟨_,h1⟩|⟨_,k,o,m,c,h1⟩<;>rw[h1] at heq ⊢<;>rcases(by simpa using eG:op=.eql\/op=.neq) with rfl|rfl<;>cases xs<;>simp[binOp,heq,Sem.run_bind',jJ,asO]<;>(try omega)
  .simp only[PE.ev,bu,D.l_list,D.int,D.i_int];exact .bool _
 .rename_i ts us e1 e2;rw[e1] at aW;rw[e2] at dE;cases eG:((op==.eql||op==.neq)&&Ty.beqs ts us&&Rp C.P T)<;>simp only[eG,zyy,zyx] at hr
  .cases hr
  simp only[au] at eG;obtain⟨⟨eG,C0⟩,cX⟩:=eG;have:=Ty.beqs_eq _ _ C0;subst this;simp only[Rp,au,l6] at cX;obtain⟨⟨aeX,atu⟩,atv⟩:=cX;have za:C.P.underlying T=some (.struct (C.P.fieldsOf T)):=by
   unfold Program.fieldsOf;split at aeX
   .rename_i fs hu;rw[hu]
   .cases aeX
  simp only[aB] at hr;obtain⟨e,he,rfl⟩:=hr;obtain⟨vs,ds,aL,bu,l1,l2,aP,_⟩:=aW.agg_inv;obtain⟨AL,ds',iL,dv,l3,l4,uL,_⟩:=dE.agg_inv
  obtain⟨b,hb,aq⟩:=ao1 (P:=C.P) (cap:=C.cap) (V:=V) (O:=O) w bu dv (vs:=vs) (us:=AL) 9997 _ 0 ts e he (λj t hj=>by
   rw[ke];exact⟨aP j t hj,uL j t hj⟩) (by omega) (by omega)
  have heq:(Op.equalIn 10000 T (.agg vs.toArray) (.agg AL.toArray)).run C.P w=.ok b w:=by
   rw[run_equalIn_struct w 9999 T _ _ za atu];exact aq
  have oC:=run_eqGuard_agg (P:=C.P) (w:=w) op T x y vs.toArray AL.toArray atv
  have aed:(execOp a.eval o).run C.P w=((binOp op T (.agg vs.toArray) (.agg AL.toArray)).run C.P w).andThen λr w'=>.ok (.value r) w':=by
   simp only[execOp,ho,aL,iL,Sem.run_bind,oC,Result.andThen_ok];rfl
  rcases(by simpa using eG:op=.eql\/op=.neq) with rfl|rfl
  .refine .dat (v:=.bool b) ?_ ?_
   .rw[aed,run_eql_struct,heq];rfl
   .show Rep _ _ .bool _ (PE.ev O e);rw[hb];exact .bool _
  .refine .dat (v:=.bool (!b)) ?_ ?_
   .rw[aed,run_neq_struct,heq];rfl
   .show Rep _ _ .bool _ (PE.ev O (.nt e));simp only[PE.ev,hb];exact .bool _
 .cases hr
def axW (h:Inv C S O V own hv w0 σ0 A a w)(hC:CtxOK C σ0)(hg:holds gs O=true){op:UnOp}{T:TypeId}{x:Operand}{r:Sh×List PI}(hr:VF C S gs dst op x=some r){o:Oper}(ho:o.op=.unOp op T x):
 eK C S O V hv Z dst a w o r:=by
 simp only[VF,az] at hr;obtain⟨p,hp,hr⟩:=hr;have aW:=cu h hC hg hp;split at hr
 .rename_i k e1;rw[e1] at aW;obtain⟨n,aL,bu,b1,b2⟩:=aW.int_inv;cases hr;refine .dat (v:=.int k (bS .sub k 0 n)) ?_ ?_
  .simp[execOp,ho,aL,Op.unary,Op.intArith,bS,Sem.run,pure,bind,Sem.bind]
  .simp only[PE.ev,bu,D.i_int];exact .int _ _ (uf _ _).1 (uf _ _).2
 .rename_i e1;rw[e1] at aW;obtain⟨n,aL,bu⟩:=aW.bool_inv;cases hr;refine .dat (v:=.bool (!n)) ?_ ?_
  .simp[execOp,ho,aL,Op.unary,Sem.run,pure,bind,Sem.bind]
  .simp only[PE.ev,bu,D.b_bool];exact .bool _
 .cases hr
def axI (h:Inv C S O V own hv w0 σ0 A a w)(hC:CtxOK C σ0)(hg:holds gs O=true){s d:TypeId}{x:Operand}{r:Sh×List PI}(hr:Vt C S gs dst s d x=some r){o:Oper}(ho:o.op=.convert s d x):
 eK C S O V hv Z dst a w o r:=by
 simp only[Vt,az] at hr;obtain⟨p,hp,hr⟩:=hr;have aW:=cu h hC hg hp;split at hr
 .rename_i k0 k k1 u1 u2 e1;rw[e1] at aW;obtain⟨n,aL,bu,b1,b2⟩:=aW.int_inv;cases hr;refine .dat (v:=.int k (k.wrap n)) ?_ ?_
  .simp[execOp,ho,aL,convert,run_underlying u1,run_underlying u2,Conv.intToInt]
  .simp only[PE.ev,bu,D.i_int];exact .int _ _ (uf _ _).1 (uf _ _).2
 .rename_i u1 u2 e1;rw[e1] at aW;obtain⟨n,aL,bu,b1⟩:=aW.str_inv;cases hr;refine .dat (v:=.string n) ?_ ?_
  .simp[execOp,ho,aL,convert,run_underlying u1,run_underlying u2]
  .rw[bu];exact .str _ b1
 .cases hr
end
def wQ {n:Nat}(h:n<=maxLen):IntKind.i64.min<=(n:Int)/\(n:Int)<=IntKind.i64.max:=by
 simp only[maxLen] at h;simp only[IntKind.min,IntKind.max,IntKind.signed,IntKind.bits];simp;omega
section
variable {C:Ctx} {S:St} {O:Env} {V:Im} {own:Nat->Option Nat} {hv:Nat->Value} {w0:World} {σ0:Base} {A:Nat->Prop} {a:Act} {w:World} {gs:List (Nat×Bool)} {Z:aO} {dst:Nat}
def PW (C:Ctx)(V:Im)(w:World)(B:Nat)(t:Ty)(v:Value)(d:D):Prop:=
 Rep C.cap V t v d\/
 (∃T e cells xs,t=.slice e.rol/\d=.list xs/\w.ownsRow B T e.size v xs.length cells/\du C.cap V e cells xs)\/
 (∃k arr clock es kt et,t=.map kt et/\v=.map (some k)/\w.heap[k]?=some (.map arr clock)/\d=.map es/\es.length=arr.size/\es.length<=maxLen/\
    ∀(i:Nat) (e:MapEntry) (p:D×D),arr[i]?=some e->es[i]?=some p->Rep C.cap V kt e.key p.1/\Rep C.cap V et e.val p.2)
def aaK (h:Inv C S O V own hv w0 σ0 A a w)(hC:CtxOK C σ0)(hg:holds gs O=true){x:Operand}{r:Ty×PE}(hu:view C S gs x=some r):PW C V w w0.heap.size r.1 (a.eval x) (r.2.ev O):=by
 unfold view at hu;split at hu
 .rename_i r' oJ;cases hu;exact .inl (cu h hC hg oJ)
 .split at hu
  .rename_i t _;obtain⟨hs,_⟩:=sd h hg t;split at hu
   .rename_i j ver e;rw[e] at hs;cases hb:Nat.beq ver (S.ver j)<;>simp only[hb,zyy,zyx] at hu
    .cases hu
    .have dR:=aD hb;have ho:=h.objs j;have cD:a.eval (.tmp t)=hv j:=hs.2 dR;split at hu
     .rename_i T e eo;rw[eo] at ho;cases hu;obtain⟨cells,xs,h1,h2,h3,h4⟩:=ho;rw[cD];exact .inr (.inl ⟨T,e,cells,xs,rfl,h1,h2,h3⟩)
     .rename_i kt et eo;rw[eo] at ho;cases hu;obtain⟨k,arr,clock,es,h1,h2,h3,h4,h5,⟨hx,_⟩,h6⟩:=ho;rw[cD];exact .inr (.inr ⟨k,arr,clock,es,kt,et,rfl,h1,h3,h4,h5,hx,h6⟩)
     .cases hu
   .cases hu
  .cases hu
def Ad {w:World}{B e size n:Nat}{v:Value}{cells:List Value}(h:w.ownsRow B e size v n cells):∃b c,v=.slice b n c/\n<=maxLen/\n<=c:=by
 rcases h.2 with⟨rfl,rfl⟩|⟨g,cap,cur,rfl,h1,h2,h3,h4,h5⟩
 .exact⟨none,0,rfl,by decide,aZ _⟩
 .exact⟨_,cap,rfl,fb h3 h4,h3⟩
def XA {b:Builtin}{args:Array Operand}{ts:Array TypeId}{o:Oper}(ho:o.op=.call {callee:=.builtin b,args:=args,argTypes:=ts}):
 ∃cs,(execOp a.eval o).run C.P w=(builtin b ts o.type cs (args.map a.eval)).run C.P w:=
 ⟨_,by simp only[execOp,ho,resolve,invoke];rfl⟩
def axP (h:Inv C S O V own hv w0 σ0 A a w)(hC:CtxOK C σ0)(hg:holds gs O=true){T:TypeId}{x:Operand}{r:Sh×List PI}(hr:VA C S gs dst T x=some r){o:Oper}
 (ho:o.op=.call {callee:=.builtin .len,args:=#[x],argTypes:=#[T]}):eK C S O V hv Z dst a w o r:=by
 simp only[VA,az] at hr;obtain⟨p,hp,hr⟩:=hr;have aW:=aaK h hC hg hp;obtain⟨cs,aq⟩:=XA (C:=C) (w:=w) (a:=a) ho;split at hr
 .rename_i e T' e1 e2;rw[e1] at aW;cases hr;have hx:∃b n c xs,a.eval x=.slice b n c/\p.2.ev O=.list xs/\xs.length=n/\n<=maxLen:=by
   rcases aW with aW|⟨T,e,cells,xs,ht,hd,bB,de⟩|⟨k,arr,clock,es,kt,et,ht,_⟩
   .obtain⟨xs,hd,⟨⟨p0,aL⟩,rfl⟩|⟨k,o,c,aL,h1,h2,_⟩⟩:=aW.slice_inv
    .exact⟨p0,0,0,[],aL,hd,rfl,by decide⟩
    .exact⟨_,_,c,xs,aL,hd,rfl,by omega⟩
   .obtain⟨b,c,aL,h1,_⟩:=Ad bB;exact⟨b,_,c,xs,aL,hd,rfl,h1⟩
   .cases ht
  obtain⟨b,n,c,xs,aL,hd,hl,hm⟩:=hx;refine .dat (v:=.int .i64 n) ?_ ?_
  .rw[aq];simp[builtin,Builtin.len_,aL,run_underlying e2,goInt]
  .simp only[PE.ev,hd,D.l_list,hl];exact .int _ _ (wQ hm).1 (wQ hm).2
 .rename_i e T' e1 e2;rw[e1] at aW;cases hr;rcases aW with aW|⟨T,e,cells,xs,ht,_⟩|⟨k,arr,clock,es,kt,et,ht,_⟩
  .generalize zx:a.eval x=v at aW;generalize FP:p.2.ev O=d at aW;cases aW;refine .dat (v:=.int .i64 0) ?_ ?_
   .rw[aq];simp[builtin,Builtin.len_,zx,run_underlying e2,goInt]
   .simp only[PE.ev,FP,D.l_list];exact .int _ _ (by decide) (by decide)
  .cases ht
  .cases ht
 .rename_i e1 e2;rw[e1] at aW;cases hr;rcases aW with aW|⟨T,e,cells,xs,ht,_⟩|⟨k,arr,clock,es,kt,et,ht,_⟩
  .obtain⟨n,aL,bu,hm⟩:=aW.str_inv;refine .dat (v:=.int .i64 n.size) ?_ ?_
   .rw[aq];simp[builtin,Builtin.len_,aL,run_underlying e2,goInt]
   .simp only[PE.ev,bu,D.s_str];exact .int _ _ (wQ hm).1 (wQ hm).2
  .cases ht
  .cases ht
 .rename_i k0 e0 a0 b0 e1 e2;rw[e1] at aW;cases hr;rcases aW with aW|⟨T,e,cells,xs,ht,_⟩|⟨k,arr,clock,es,kt,et,ht,aL,hb,bu,hl,hx,_⟩
  .generalize zx:a.eval x=v at aW;generalize FP:p.2.ev O=d at aW;cases aW with
   |mapnil=>
    refine .dat (v:=.int .i64 0) ?_ ?_
    .rw[aq];simp[builtin,Builtin.len_,zx,run_underlying e2,goInt]
    .simp only[PE.ev,FP,D.m];exact .int _ _ (by decide) (by decide)
   |map kt et r ix es hm hl hx hk _=>
    obtain⟨arr,clock,hb,lJ⟩:=(h.ok.m _ _ hm).mp (GZ hl hk) (agF hl hk);have hn:arr.size=es.length:=by rw[hl,<-lJ];simp[entriesOf]
    refine .dat (v:=.int .i64 arr.size) ?_ ?_
    .rw[aq];simp[builtin,Builtin.len_,zx,run_underlying e2,goInt,getObj,Sem.run,hb]
    .simp only[PE.ev,FP,D.m,hn];exact .int _ _ (wQ hx).1 (wQ hx).2
  .cases ht
  .refine .dat (v:=.int .i64 arr.size) ?_ ?_
   .rw[aq];simp[builtin,Builtin.len_,aL,run_underlying e2,goInt,getObj,Sem.run,hb]
   .simp only[PE.ev,bu,D.m,hl];exact .int _ _ (wQ (hl▸hx)).1 (wQ (hl▸hx)).2
 .cases hr
def ait (h:Inv C S O V own hv w0 σ0 A a w)(hC:CtxOK C σ0)(hg:holds gs O=true){mx:Bool}{x y:Operand}{ts:Array TypeId}{r:Sh×List PI}(hr:Nl C S gs dst mx x y=some r){o:Oper}
 (ho:o.op=.call {callee:=.builtin (bif mx then .max else .min),args:=#[x,y],argTypes:=ts}):eK C S O V hv Z dst a w o r:=by
 simp only[Nl,az] at hr;obtain⟨p,hp,q,hq,hr⟩:=hr;have aW:=cu h hC hg hp;have dE:=cu h hC hg hq;obtain⟨cs,aq⟩:=XA (C:=C) (w:=w) (a:=a) ho;split at hr
 .rename_i k k' e1 e2;rw[e1] at aW;rw[e2] at dE;obtain⟨n,aL,bu,b1,b2⟩:=aW.int_inv;obtain⟨m,iL,dv,b3,b4⟩:=dE.int_inv;cases wh:(k==k')<;>simp only[wh,zyy,zyx] at hr
  .cases hr
  .have Sm:k=k':=by simpa using wh
   subst Sm;cases hr;cases mx with
   |true=>
    refine .dat (v:=.int k (if m>n then m else n)) ?_ ?_
    .rw[aq];simp[builtin,Builtin.max_,Builtin.max2,aL,iL]
    .simp only[zyy,PE.ev,bu,dv,D.i_int];by_cases af:m>n<;>simp[af]<;>constructor<;>assumption
   |false=>
    refine .dat (v:=.int k (if m<n then m else n)) ?_ ?_
    .rw[aq];simp[builtin,Builtin.min_,Builtin.min2,aL,iL]
    .simp only[zyx,PE.ev,bu,dv,D.i_int];by_cases af:m<n<;>simp[af]<;>constructor<;>assumption
 .cases hr
def axJ (h:Inv C S O V own hv w0 σ0 A a w)(hC:CtxOK C σ0)(hg:holds gs O=true){x:Operand}{i:Nat}{r:Sh×List PI}(hr:Vu C S gs dst x i=some r){o:Oper}(ho:o.op=.extract x i):
 eK C S O V hv Z dst a w o r:=by
 simp only[Vu,az] at hr;obtain⟨p,hp,hr⟩:=hr;have aW:=cu h hC hg hp;split at hr
 .rename_i ts e1;rw[e1] at aW;simp only[aB] at hr;obtain⟨t,ht,rfl⟩:=hr;obtain⟨vs,ds,aL,bu,l1,l2,aP⟩:=aW.tup_inv;have hi:i<vs.length:=by rw[l1];exact(eO.1 ht).1
  refine .dat (v:=vs.getD i undef) ?_ ?_
  .obtain⟨u,hu⟩:∃u,vs[i]?=some u:=⟨_,aY hi⟩
   have oC:vs.getD i undef=u:=by rw[aH,hu];rfl
   rw[oC];simp[execOp,ho,aL,Instr.extract,hu]
  .simp only[PE.ev,bu];exact aP i t ht
 .cases hr
end
def wK {P:Program}{T:TypeId}{ag:Bool}(h:ry P T=some ag)(w:World):(isAgg T).run P w=.ok ag w:=by
 unfold ry at h;split at h
 .rename_i fs hu;cases h;simp[isAgg,run_underlying hu]
 .rename_i n e hu;cases h;simp[isAgg,run_underlying hu]
 .rename_i d h1 h2 hu;cases h;cases d<;>simp_all [isAgg,run_underlying hu]
 .cases h
def uu (k o n:Nat):(⟨k,o,none⟩:Addr).add n=⟨k,o+n,none⟩:=by
 unfold Addr.add;split<;>simp_all
def OJ {P:Program}{T:TypeId}{inf:TypeInfo}{ag:Bool}{w:World}{k o:Nat}{cs:List Value}(hi:P.info? T=some inf)(ha:ry P T=some ag)(hl:cs.length=inf.size)
 (h1:ag=false->cs.length=1) (hc:∀j u,cs[j]?=some u->w.cell? ⟨k,o+j,none⟩=some u):(loadVar T ⟨k,o,none⟩).run P w=.ok (rowOf ag cs) w:=by
 cases ag with
 |true=>
  have:=run_loadCells_list (P:=P) w ⟨k,o,none⟩ cs (λj v hv=>by rw[uu];exact hc j v hv);rw[hl] at this;simp[loadVar,wK ha,Go.sizeOf,run_typeInfo w hi,this,rowOf]
 |false=>
  obtain⟨u,hu⟩:∃u,cs=[u]:=by
   have:=h1 rfl
   match cs,this with
   |[u],_=>exact⟨u,rfl⟩
  subst hu;have h0:=hc 0 u rfl;simp only[l9] at h0;simp[loadVar,wK ha,rowOf,run_load,h0]
section
variable {C:Ctx} {S:St} {O:Env} {V:Im} {own:Nat->Option Nat} {hv:Nat->Value} {w0:World} {σ0:Base} {A:Nat->Prop} {a:Act} {w:World} {gs:List (Nat×Bool)} {Z:aO} {dst:Nat}
def xp {o:Oper}{T:TypeId}{x:Operand}{v:Value}{k off:Nat}(ho:o.op=.load T x)(hx:a.eval x=.pointer (some ⟨k,off,none⟩))(hl:(loadVar T ⟨k,off,none⟩).run C.P w=.ok v w):
 (execOp a.eval o).run C.P w=.ok (.value v) w:=by
 simp[execOp,ho,Instr.loadAt,hx,Instr.sureAddr,hl]
def uG {α:Type}{l:List α}{i:Nat}{x d:α}(h:l[i]?=some x):l.getD i d=x:=by
 rw[aH,h];rfl
def Ns {cap:Nat->Option CSig}{ts:List Ty}{vs:List Value}{ds:List D}{ag:Bool}{n off:Nat}{ty:Ty}(hp:wZ ag n ts off=some ty)
 (h1:vs.length=ts.length) (h2:ds.length=ts.length) (hr:∀(i:Nat) (t:Ty),ts[i]?=some t->Rep cap V t (vs.getD i undef) (ds.getD i .none)) (ho:∀(i:Nat) (t:Ty),ts[i]?=some t->t.one=true):
 Rep cap V ty (rowOf ag ((vs.drop off).take n)) (bif ag then .agg ((ds.drop off).take n) else ds.getD off .none)/\((vs.drop off).take n).length=n/\(ag=false->n=1):=by
 unfold wZ at hp;cases hle:Nat.ble (off+n) ts.length<;>simp only[hle,zyy,zyx] at hp
 .cases hp
 .have oE:=lx hle;have hlen:((vs.drop off).take n).length=n:=by simp;omega
  cases ag with
  |true=>
   simp only[zyy] at hp;cases hp;refine⟨?_,hlen,λe=>by cases e⟩;simp only[rowOf,if_true,zyy];refine .agg _ _ _ (by simp;omega) (by simp;omega) (λi t hi=>?_) (λi t hi=>?_)
   .simp only[iQ,jq] at hi;split at hi
    .rename_i cg;have:=hr (off+i) t hi;simpa [aH,iQ,jq,cg] using this
    .cases hi
   .simp only[iQ,jq] at hi;split at hi
    .exact ho _ t hi
    .cases hi
  |false=>
   simp only[zyx] at hp;cases hn:Nat.beq n 1<;>simp only[hn,zyy,zyx] at hp
   .cases hp
   .have kQ:=aD hn;subst kQ;refine⟨?_,hlen,λ_=>rfl⟩;have:=hr off ty hp;have af:off<vs.length:=by omega
    simpa [rowOf,aH,iQ,jq] using this
def Nr {ag:Bool}{n:Nat}{e:PE}{off:Nat}{ds:List D}(h:e.ev O=.agg ds):(Dn ag n e off).ev O=bif ag then .agg ((ds.drop off).take n) else ds.getD off .none:=by
 cases ag<;>simp[Dn,PE.ev,h,D.cells,D.c]
def Inv.cell (h:Inv C S O V own hv w0 σ0 A a w){k o:Nat}{u:Value}(hc:V.c k o=some u):w.cell? ⟨k,o,none⟩=some u:=h.ok.c _ _ _ hc
def Rep.rowOf {cap:Nat->Option CSig}{t:Ty}{v:Value}{d:D}(h:Rep cap V t v d):v=Cx.rowOf t.rowT v.cells.toList:=by
 cases h<;>simp[Cx.rowOf,Ty.rowT,Value.cells]
def Rep.cells1 {cap:Nat->Option CSig}{t:Ty}{v:Value}{d:D}(h:Rep cap V t v d)(ht:t.rowT=false):v.cells=#[v]:=by
 cases h<;>simp_all [Ty.rowT,Value.cells]
def axQ (h:Inv C S O V own hv w0 σ0 A a w){T:TypeId}{x:Operand}{inf:TypeInfo}{ag:Bool}(hi:C.P.info? T=some inf)(ha:ry C.P T=some ag){o:Oper}(ho:o.op=.load T x)
 {ty:Ty} {e:PE} (hr:Rep C.cap V (.ref ty) (a.eval x) (e.ev O)) (hs:Nat.beq inf.size ty.size=true) (hag:(ag==ty.rowT)=true):
 eK C S O V hv Z dst a w o (.dat ty,[.setR dst (.deref e)]):=by
 obtain⟨k,off,v,y,aL,bu,bK,lH⟩:=hr.ref_inv;have eh:=aD hs;have adU:ag=ty.rowT:=by simpa using hag
 have hz:=bK.size;have cW:=bK.rowOf;refine .dat (v:=v) (xp ho aL ?_) ?_
 .rw[cW,<-adU];refine OJ hi ha (by simp[hz,eh]) (λe=>?_) (λj u hu=>?_)
  .subst e;simp[bK.cells1 adU.symm]
  .exact h.cell (lH j u (by simpa using hu))
 .simp only[PE.ev,bu,D.deref];exact bK
def EW {w:World}{k:Nat}{cs:Array Value}{T:TypeId}{fr:Nat×Nat}(hb:w.heap[k]?=some (.cells cs T fr)){i:Nat}(hi:i<cs.size):w.cell? ⟨k,i,none⟩=some (cs.getD i undef):=by
 simp[World.cell?,hb,gp,jF hi]
def Cw (cs:Array Value)(i:Nat):cs.toList.getD i undef=cs.getD i undef:=by
 simp[aH,gp]
def alD {cs:Array Value}{ds:List D}:∀(shs:List Sh) (i:Nat) (l:List AgC),Jx S shs=some l->(∀m s,shs[m]?=some s->aG C S O V hv s (cs.getD (i+m) undef) (ds.getD (i+m) .none))->
 l.length=shs.length/\∀(m:Nat) (c:AgC),l[m]?=some c->sq C S V hv c (cs.getD (i+m) undef) (ds.getD (i+m) .none)
 |[],i,l,hl,_=>by simp only[Jx,bj] at hl;subst hl;exact⟨rfl,λm c hm=>by simp at hm⟩
 |s::r,i,l,hl,aP=>by
  simp only[Jx,az] at hl;obtain⟨x,hx,hl⟩:=hl
  obtain⟨g1,g3⟩:=alD r (i+1) x hx λm s hm=>by
   have:=aP (m+1) s (by simpa using hm)
   rwa [show i+(m+1)=i+1+m by omega] at this
  have h0:=aP 0 s rfl;rw[l9] at h0;split at hl
  .rename_i t;cases eM:t.one<;>simp only[eM,zyy,zyx] at hl
   .cases hl
   cases hl;refine⟨by simp[g1],λm c hm=>?_⟩;cases m with
   |zero=>simp at hm;subst hm;exact⟨eM,h0⟩
   |succ m=>simp at hm;have:=g3 m c hm;rwa [show i+1+m=i+(m+1) by omega] at this
  .rename_i j ver;cases hb:Nat.beq ver (S.ver j)<;>simp only[hb,zyy,zyx] at hl
   .cases hl
   cases hl;refine⟨by simp[g1],λm c hm=>?_⟩;cases m with
   |zero=>simp at hm;subst hm;exact h0
   |succ m=>simp at hm;have:=g3 m c hm;rwa [show i+1+m=i+(m+1) by omega] at this
  .cases hl
def Nk (h:Inv C S O V own hv w0 σ0 A a w)(hC:CtxOK C σ0)(hg:holds gs O=true){T:TypeId}{x:Operand}{r:Sh×List PI}(hr:G5 C S gs dst T x=some r){o:Oper}(ho:o.op=.load T x):
 eK C S O V hv Z dst a w o r:=by
 unfold G5 at hr;split at hr
 case h_2=>cases hr
 rename_i inf ag hi ha;have dQ:aG C S O V hv (gN S gs x) (a.eval x) ((tX x).ev O):=by
  cases x with
  |tmp t=>exact(sd h hg t).1
  |_=>trivial
 split at hr
 ·
  rename_i j ver off es;rw[es] at dQ;cases hb:Nat.beq ver (S.ver j)<;>simp only[hb,zyy,zyx] at hr
  .cases hr
  have dR:=aD hb;obtain⟨k,eV,gx⟩:=dQ.2 dR;have bt:=h.objs j;split at hr
  .rename_i bag shs eo;rw[eo] at bt;obtain⟨k',cs,T',ds,h1,h2,h3,h4,h5,h6,h7⟩:=bt;rw[eV] at h1;cases h1;cases ag with
   |true=>
    simp only[zyy] at hr;cases hle:Nat.ble (off+inf.size) shs.length<;>simp only[hle,zyy,zyx] at hr
    .cases hr
    have oE:=lx hle;have hlen:((shs.drop off).take inf.size).length=inf.size:=by simp;omega
    have cI:∀m u,((cs.toList.drop off).take inf.size)[m]?=some u->w.cell? ⟨k,off+m,none⟩=some u:=λm u hu=>by
     simp only[iQ,jq] at hu;split at hu
     .rename_i hm;have:=EW h3 (i:=off+m) (by omega);rw[this,<-Cw];exact congrArg some (uG hu)
     .cases hu
    have atf:=xp ho gx (OJ hi ha (by simp;omega) (λe=>by cases e) cI);simp only[aB] at hr;obtain⟨p,hp,rfl⟩:=hr
    obtain⟨l1,es,⟨he,_⟩,l2,bK⟩:=QW (b:=.o j) h (cs:=cs.toList) h5 _ off p (λm s hm=>by
     simp only[iQ,jq] at hm;split at hm
     .have:=(h7 (off+m) s hm).2;rw[Cw];exact this
     .cases hm) hp
    refine .dat (v:=rowOf true ((cs.toList.drop off).take inf.size)) atf ?_
    .simp only[PE.ev,rowOf,if_true,he];refine .agg _ _ _ (by simp;omega) (by omega) (λm t hm=>?_) (λm t hm=>(bK m t hm).1);have uR:m<inf.size:=by have:=(eO.1 hm).1;omega
     have:=(bK m t hm).2;simpa [aH,iQ,jq,uR] using this
   |false=>
    simp only[zyx] at hr;split at hr
    .rename_i ty hs;cases eM:ty.one<;>simp only[eM,zyy,zyx] at hr
     .cases hr
     cases hr;have mV:=(h7 off _ hs).2;have af:off<shs.length:=(eO.1 hs).1;have zh:(loadVar T ⟨k,off,none⟩).run C.P w=.ok (cs.getD off undef) w:=by
      simp[loadVar,wK ha,run_load,EW h3 (i:=off) (by omega)]
     refine .dat (v:=cs.getD off undef) (xp ho gx zh) ?_;simp only[PE.ev,h5,D.c,D.cells];exact mV
    .rename_i j' ud hs;cases hr;have mV:=(h7 off _ hs).2;have af:off<shs.length:=(eO.1 hs).1;have zh:(loadVar T ⟨k,off,none⟩).run C.P w=.ok (cs.getD off undef) w:=by
      simp[loadVar,wK ha,run_load,EW h3 (i:=off) (by omega)]
     intro O' aq;exact⟨_,_,xq aq,xp ho gx zh,mV,λ_ _ e=>by cases e⟩
    .cases hr
  .rename_i ts eo;rw[eo] at bt;obtain⟨k',v,h1,h2,h3⟩:=bt;rw[eV] at h1;cases h1;simp only[aB] at hr;obtain⟨ty,br,rfl⟩:=hr;obtain⟨vs,ds,rfl,hd,l1,l2,aP,eM⟩:=h2.agg_inv;obtain⟨bK,hlen,kQ⟩:=Ns br l1 l2 aP eM;refine .dat (xp ho gx (OJ hi ha hlen (λe=>by rw[hlen];exact kQ e) (λm u hu=>h.cell ?_))) (by rw[Nr (e:=.o j) hd];exact bK);simp only[iQ,jq] at hu;split at hu
   .exact h3 (off+m) u (by simpa [Value.cells] using hu)
   .cases hu
  .rename_i ty ay eo;rw[eo] at bt;obtain⟨k',v,h1,h2,h3⟩:=bt;rw[eV] at h1;cases h1;cases hc:(!ag&&ty.one&&Nat.beq off 0)<;>simp only[hc,zyy,zyx] at hr
   .cases hr
   cases hr;simp only[au,l6] at hc;have jd:=aD hc.2;subst jd;have zh:(loadVar T ⟨k,0,none⟩).run C.P w=.ok v w:=by
        have:=h.cell (h3 0 v (by simp[(h2.oneCell hc.1.2).1]));rw[hc.1.1] at ha;simp[loadVar,wK ha,run_load,this]
   exact .dat (xp ho gx zh) h2
  .cases hr
 ·
  rename_i j ver size off es;rw[es] at dQ;cases hb:Nat.beq ver (S.ver j)<;>simp only[hb,zyy,zyx] at hr
  .cases hr
  have dR:=aD hb;obtain⟨k,n,c,ik,i,eV,we,cg,gx⟩:=dQ.2 dR;have bt:=h.objs j;split at hr
  .rename_i T' ts eo;rw[eo] at bt;obtain⟨cells,xs,h1,h2,⟨vs,h3,h4⟩,h5⟩:=bt;cases aJ:Nat.beq size ts.length<;>simp only[aJ,zyy,zyx] at hr
   .cases hr
   have wC:=aD aJ;simp only[aB] at hr;obtain⟨ty,br,rfl⟩:=hr;rw[eV] at h2;have bh:=h2.cells (g:=k) rfl;obtain⟨b,c',e1,F6,F7⟩:=Ad h2;cases e1;obtain⟨y,hy⟩:∃y,xs[i]?=some y:=⟨_,aY cg⟩
   have Ml:=h3 i y hy;obtain⟨us,ds,wF,hd,l1,l2,aP,eM⟩:=Ml.agg_inv;obtain⟨bK,hlen,kQ⟩:=Ns br l1 l2 aP eM;have asS:(PE.nth (.o j) (tX x)).ev O=.agg ds:=by
        simp only[PE.ev,h1,D.l_list,we,D.i_int,xQ];rw[uG hy,hd]
   refine .dat (xp ho gx (OJ hi ha hlen (λe=>by rw[hlen];exact kQ e) (λm u hu=>?_))) (by rw[Nr asS];exact bK);simp only[iQ,jq] at hu;split at hu
   .have:=h4 i (off+m) u (by omega) (by rw[wF];simpa [Value.cells] using hu);have:=bh _ _ this;rw[uu] at this;simpa [Ty.size,wC,sA] using this
   .cases hu
  .rename_i T' e ay eo;rw[eo] at bt;obtain⟨cells,xs,h1,h2,⟨vs,h3,h4⟩,h5⟩:=bt;cases hc:(!ag&&e.one&&Nat.beq off 0&&Nat.beq size 1)<;>simp only[hc,zyy,zyx] at hr
   .cases hr
   cases hr;simp only[au,l6] at hc;have jd:=aD hc.1.2;have aJ:=aD hc.2;subst jd;subst aJ;rw[eV] at h2;have bh:=h2.cells (g:=k) rfl;obtain⟨b,c',e1,F6,F7⟩:=Ad h2;cases e1;obtain⟨y,hy⟩:∃y,xs[i]?=some y:=⟨_,aY cg⟩
   have Ml:=h3 i y hy;have zh:(loadVar T ⟨k,i*1+0,none⟩).run C.P w=.ok (vs i) w:=by
        have h6:=h4 i 0 (vs i) cg (by simp[(Ml.oneCell hc.1.1.2).1]);have:=bh _ _ h6;rw[uu] at this;have FV:e.size=1:=by cases e<;>simp_all [Ty.size,Ty.one]
        rw[hc.1.1.1] at ha;rw[FV] at this;simp only[ke,l9,Jn] at this;simp[loadVar,wK ha,run_load,this]
   refine .dat (xp ho gx zh) ?_;simp only[PE.ev,h1,D.l_list,we,D.i_int,xQ];rw[uG hy];exact Ml
  .cases hr
 .simp only[az] at hr;obtain⟨p,hp,hr⟩:=hr;have aW:=cu h hC hg hp;split at hr
  .rename_i ty e1;rw[e1] at aW;cases hc:(Nat.beq inf.size ty.size&&(ag==ty.rowT))<;>simp only[hc,zyy,zyx] at hr
   .cases hr
   cases hr;simp only[au] at hc;exact axQ h hi ha ho aW hc.1 hc.2
  .cases hr
def vu (h:Inv C S O V own hv w0 σ0 A a w)(hg:holds gs O=true)(x:Operand):aG C S O V hv (gN S gs x) (a.eval x) ((tX x).ev O)/\∀bN s,gN S gs x≠.opt bN s:=by
 cases x with
 |tmp t=>exact sd h hg t
 |_=>exact⟨trivial,λ_ _ e=>by cases e⟩
def ade {P:Program}{T:TypeId}{i:Nat}{f:Field}(h:Fu P T i=some f):∃fs,P.underlying T=some (.struct fs)/\fs[i]?=some f:=by
 unfold Fu at h;split at h
 .rename_i fs hu;exact⟨fs,hu,h⟩
 .cases h
def XB {o:Oper}{T:TypeId}{x:Operand}{i:Nat}{f:Field}{inf:TypeInfo}{k off:Nat}(ho:o.op=.fieldAddr T x i)(hf:Fu C.P T i=some f)(hi:C.P.info? f.type=some inf)(hn:Nat.beq inf.size 0=false)
 (hx:a.eval x=.pointer (some ⟨k,off,none⟩)):(execOp a.eval o).run C.P w=.ok (.value (.pointer (some ⟨k,off+f.offset,none⟩))) w:=by
 obtain⟨fs,hu,rk⟩:=ade hf;have me:inf.size≠0:=by intro e;simp[e] at hn
 simp[execOp,ho,Instr.fieldAt,run_underlying hu,rk,hx,Instr.sureAddr,fieldPlace,Go.sizeOf,run_typeInfo w hi,me,uu]
def axK (h:Inv C S O V own hv w0 σ0 A a w)(hC:CtxOK C σ0)(hg:holds gs O=true){T:TypeId}{x:Operand}{i:Nat}{r:Sh×List PI}(hr:Vw C S gs dst T x i=some r){o:Oper}(ho:o.op=.fieldAddr T x i):
 eK C S O V hv Z dst a w o r:=by
 simp only[Vw,az] at hr;obtain⟨f,hf,hr⟩:=hr;obtain⟨dQ,fH⟩:=vu h hg x;split at hr
 case h_2=>cases hr
 rename_i inf ag hi ha;cases hn:Nat.beq inf.size 0<;>simp only[hn,zyy,zyx] at hr
 case true=>cases hr
 split at hr
 .rename_i j ver size off es;cases hb:Nat.beq ver (S.ver j)<;>simp only[hb,zyy,zyx] at hr
  .cases hr
  cases hr;rw[es] at dQ;intro O' aq;obtain⟨k,n,c,ik,idx,eV,we,cg,gx⟩:=dQ.2 (aD hb);exact⟨_,_,xq aq,XB ho hf hi hn gx,⟨dQ.1,λ_=>⟨k,n,c,ik,idx,eV,we,cg,by rw[sA]⟩⟩,λ_ _ e=>by cases e⟩
 .split at hr
  .rename_i ts e hu;have aW:=cu h hC hg hu;simp only[aB] at hr;obtain⟨ty,br,rfl⟩:=hr;obtain⟨k,off,v,y,aL,bu,bK,lH⟩:=Rep.ref_inv aW;obtain⟨vs,ds,rfl,rfl,l1,l2,aP,eM⟩:=bK.agg_inv;obtain⟨tn,hlen,kQ⟩:=Ns br l1 l2 aP eM;refine .dat (XB ho hf hi hn aL) ?_;have hde:(PE.deref e).ev O=.agg ds:=by simp only[PE.ev,bu,D.deref]
   simp only[PE.ev];rw[Nr hde];refine .ref ty k (off+f.offset) _ _ tn (λj u hu=>?_);have lO:((vs.drop f.offset).take inf.size)[j]?=some u:=by
        cases ag with
        |true=>simpa [rowOf,Value.cells] using hu
        |false=>
         have:=kQ rfl;rw[this] at hlen ⊢;obtain⟨q,hq⟩:∃q,(vs.drop f.offset).take 1=[q]:=by
          match(vs.drop f.offset).take 1,hlen with
          |[q],_=>exact⟨q,rfl⟩
         rw[this] at tn hu;rw[hq] at tn hu ⊢;simp only[rowOf,qD] at tn hu;have wy:ty.rowT=false:=by
          unfold wZ at br;cases hle:Nat.ble (f.offset+inf.size) ts.length<;>simp only[hle,zyy,zyx] at br
          .cases br
          .cases hb:Nat.beq inf.size 1<;>simp only[hb,zyy,zyx] at br
           .cases br
           .have:=eM _ _ br;cases ty<;>simp_all [Ty.one,Ty.rowT]
         rw[tn.cells1 wy] at hu;simpa using hu
   simp only[iQ,jq] at lO;split at lO
   .have:=lH (f.offset+j) u (by simpa [Value.cells] using lO)
    rwa [<-sA] at this
   .cases lO
  .split at hr
   .rename_i j ver off es;cases hb:Nat.beq ver (S.ver j)<;>simp only[hb,zyy,zyx] at hr
    .cases hr
    cases hr;rw[es] at dQ;intro O' aq;obtain⟨k,eV,gx⟩:=dQ.2 (aD hb);exact⟨_,_,xq aq,XB ho hf hi hn gx,⟨dQ.1,λ_=>⟨k,eV,rfl⟩⟩,λ_ _ e=>by cases e⟩
   .cases hr
def axL (h:Inv C S O V own hv w0 σ0 A a w)(hC:CtxOK C σ0)(hg:holds gs O=true){T:TypeId}{x:Operand}{i:Nat}{r:Sh×List PI}(hr:Vv C S gs dst T x i=some r){o:Oper}(ho:o.op=.field T x i):
 eK C S O V hv Z dst a w o r:=by
 simp only[Vv,az] at hr;obtain⟨f,hf,hr⟩:=hr;split at hr
 case h_2=>cases hr
 rename_i inf ag hi ha;split at hr
 case h_2=>cases hr
 rename_i ts e hu;have aW:=cu h hC hg hu;simp only[aB] at hr;obtain⟨ty,br,rfl⟩:=hr;obtain⟨vs,ds,aL,bu,l1,l2,aP,eM⟩:=Rep.agg_inv aW;obtain⟨tn,hlen,kQ⟩:=Ns br l1 l2 aP eM;obtain⟨fs,lO,rk⟩:=ade hf;have hle:f.offset+inf.size<=ts.length:=by
  unfold wZ at br;cases hle:Nat.ble (f.offset+inf.size) ts.length<;>simp only[hle,zyy,zyx] at br
  .cases br
  .exact lx hle
 refine .dat (v:=rowOf ag ((vs.drop f.offset).take inf.size)) ?_ (by rw[Nr bu];exact tn);cases ag with
 |true=>
  simp only[execOp,ho,Instr.field,aL,asAgg,part];simp[run_underlying lO,rk,wK ha,Go.sizeOf,run_typeInfo w hi,rowOf]
 |false=>
  have hn:=kQ rfl;have af:f.offset<vs.length:=by omega
  simp only[execOp,ho,Instr.field,aL,asAgg,part];simp[run_underlying lO,rk,wK ha,rowOf,hn,aY af,aH,iQ,jq]
def aj1 {o:Oper}{T e:TypeId}{x i:Operand}{inf:TypeInfo}{k off n c idx:Nat}{ik:IntKind}(ho:o.op=.indexAddr T x i)(hT:C.P.underlying T=some (.slice e))(hi:C.P.info? e=some inf)
 (hx:a.eval x=.slice (some ⟨k,off,none⟩) n c) (asf:a.eval i=.int ik idx) (af:idx<n):(execOp a.eval o).run C.P w=.ok (.value (.pointer (some ⟨k,off+idx*inf.size,none⟩))) w:=by
 simp[execOp,ho,Instr.indexAt,run_underlying hT,hx,asf,asIntOf,af,Go.sizeOf,run_typeInfo w hi,uu]
def OQ {P:Program}{T:TypeId}{t:Ty}(h:ub P T t=true):∃inf,P.info? T=some inf/\inf.size=t.size:=by
 unfold ub at h;split at h
 .rename_i i hi;exact⟨i,hi,aD h⟩
 .cases h
def axN (h:Inv C S O V own hv w0 σ0 A a w)(hC:CtxOK C σ0)(hg:holds gs O=true){T:TypeId}{x i:Operand}{r:Sh×List PI}(hr:Vz C S gs dst T x i=some r){o:Oper}(ho:o.op=.indexAddr T x i):
 eK C S O V hv Z dst a w o r:=by
 unfold Vz at hr;split at hr
 case h_2=>cases hr
 rename_i e hT;simp only[az] at hr;obtain⟨p,hp,hr⟩:=hr;have aW:=cu h hC hg hp;split at hr
 case h_2=>cases hr
 rename_i ik e1;rw[e1] at aW;obtain⟨idx,aL,bu,b1,b2⟩:=aW.int_inv;split at hr
 .rename_i t pe hu;have da:=cu h hC hg hu;cases aJ:ub C.P e t<;>simp only[aJ,zyy,zyx] at hr
  .cases hr
  cases hr;obtain⟨inf,hi,hs⟩:=OQ aJ;obtain⟨xs,hd,sZ⟩:=Rep.slice_inv da;refine .datc hg λhc=>?_;simp only[PE.ev,hd,bu,D.l_list,D.i_int,D.b_bool,decide_eq_true_eq] at hc;rcases sZ with⟨_,rfl⟩|⟨k,off,c,tA,h1,h2,vs,h3,h4⟩
  .simp at hc;omega
  .obtain⟨m,rfl⟩:=qB hc.1;have af:m<xs.length:=by omega
   refine⟨_,aj1 ho hT hi tA aL af,?_⟩;obtain⟨y,hy⟩:∃y,xs[m]?=some y:=⟨_,aY af⟩
   simp only[PE.ev,hd,bu,D.l_list,D.i_int,xQ,uG hy];exact .ref t.unf k _ (vs m) y (h3 m y hy) (λj u hu=>by rw[hs];exact h4 m j u af hu)
 .cases hr
 .obtain⟨dQ,fH⟩:=vu h hg x;split at hr
  .rename_i j ver es;rw[es] at dQ;cases hb:Nat.beq ver (S.ver j)<;>simp only[hb,zyy,zyx] at hr
   .cases hr
   have dR:=aD hb;have bt:=h.objs j;have cD:=dQ.2 dR;split at hr
   .rename_i T' t eo;rw[eo] at bt;cases aJ:ub C.P e t<;>simp only[aJ,zyy,zyx] at hr
    .cases hr
    cases hr;obtain⟨inf,hi,hs⟩:=OQ aJ;obtain⟨cells,xs,h1,h2,⟨vs,h3,h4⟩,h5⟩:=bt;intro O' aq;obtain⟨hc,hρ⟩:=XC hg aq;simp only[PE.ev,h1,bu,D.l_list,D.i_int,D.b_bool,decide_eq_true_eq] at hc;obtain⟨m,rfl⟩:=qB hc.1;have af:m<xs.length:=by omega
    rcases h2.2 with⟨_,e0⟩|⟨g,cap,cur,eV,_⟩
    .omega
    .refine⟨_,_,hρ,aj1 ho hT hi (cD.trans eV) aL af,⟨by omega,λ_=>⟨g,xs.length,cap,ik,m,eV,bu,af,?_⟩⟩,λ_ _ e=>by cases e⟩;rw[hs];simp
   .cases hr
  .cases hr
def axO (h:Inv C S O V own hv w0 σ0 A a w)(hC:CtxOK C σ0)(hg:holds gs O=true){T:TypeId}{x i:Operand}{r:Sh×List PI}(hr:Vy C S gs dst T x i=some r){o:Oper}(ho:o.op=.index T x i):
 eK C S O V hv Z dst a w o r:=by
 unfold Vy at hr;split at hr
 case h_2=>cases hr
 rename_i hT;simp only[az] at hr;obtain⟨p,hp,q,hq,hr⟩:=hr;have aW:=cu h hC hg hp;have dE:=cu h hC hg hq;split at hr
 case h_2=>cases hr
 rename_i ik e1 e2;rw[e1] at aW;rw[e2] at dE;obtain⟨idx,aL,bu,b1,b2⟩:=aW.int_inv;obtain⟨s,iL,dv,_⟩:=dE.str_inv;cases hr;refine .datc hg λhc=>?_;simp only[PE.ev,dv,bu,D.s_str,D.i_int,D.b_bool,decide_eq_true_eq] at hc;obtain⟨m,rfl⟩:=qB hc.1;have af:m<s.size:=by omega
 refine⟨.int .u8 (s.data.getD m 0).toNat,?_,?_⟩
 .have:s[m]?=some (s.data.getD m 0):=by
   rw[getElem?_pos s m af];simp[ByteArray.getElem_eq_getElem_data,gp,jF (show m<s.data.size from af)]
  simp[execOp,ho,Instr.index,run_underlying hT,aL,iL,asIntOf,this]
 .simp only[PE.ev,dv,bu,D.s_str,D.i_int,xQ];refine .int _ _ ?_ ?_
  .simp only[IntKind.min,IntKind.signed];simp
  .simp only[IntKind.max,IntKind.signed,IntKind.bits];have:=UInt8.toNat_lt (s.data.getD m 0);simp at this ⊢;omega
def aD5 (h:Inv C S O V own hv w0 σ0 A a w)(hC:CtxOK C σ0)(hg:holds gs O=true){lo:Option Operand}{l:Ty×PE}{k:IntKind}(hl:aaI C S gs lo=some l)(hk:l.1=.int k):
 ∃n,l.2.ev O=.v (.int k n)/\((lo=none/\n=0)\/∃x,lo=some x/\a.eval x=.int k n):=by
 cases lo with
 |none=>simp[aaI] at hl;subst hl;simp at hk;subst hk;exact⟨0,rfl,.inl ⟨rfl,rfl⟩⟩
 |some x=>
  have:=cu h hC hg hl;rw[hk] at this;obtain⟨n,h1,h2,_⟩:=this.int_inv;exact⟨n,h2,.inr ⟨x,rfl,h1⟩⟩
def aD4 (h:Inv C S O V own hv w0 σ0 A a w)(hC:CtxOK C σ0)(hg:holds gs O=true){e:PE}{hi:Option Operand}{l:Ty×PE}{k:IntKind}(hl:aaH C S gs e hi=some l)(hk:l.1=.int k):
 ∃n,l.2.ev O=.v (.int k n)/\((hi=none/\n=(e.ev O).l.length)\/∃x,hi=some x/\a.eval x=.int k n):=by
 cases hi with
 |none=>simp[aaH] at hl;subst hl;simp at hk;subst hk;exact⟨_,rfl,.inl ⟨rfl,rfl⟩⟩
 |some x=>
  have:=cu h hC hg hl;rw[hk] at this;obtain⟨n,h1,h2,_⟩:=this.int_inv;exact⟨n,h2,.inr ⟨x,rfl,h1⟩⟩
def run_sliceBound {P:Program}{x:Value}{y i:Nat}{k:IntKind}{code:BoundsCode}{w:World}(hx:x=.int k i)(h:i<=y):(Instr.sliceBound x y code).run P w=.ok i w:=by
 subst hx;simp[Instr.sliceBound,asIntOf,h]
def axV (h:Inv C S O V own hv w0 σ0 A a w)(hC:CtxOK C σ0)(hg:holds gs O=true){T:TypeId}{x:Operand}{lo hi mx:Option Operand}{r:Sh×List PI}(hr:VE C S gs dst T x lo hi mx=some r){o:Oper}(ho:o.op=.slice T x lo hi mx):
 eK C S O V hv Z dst a w o r:=by
 unfold VE at hr;split at hr
 case h_3=>cases hr
 case h_2=>
  rename_i n e hT;split at hr
  case h_2=>cases hr
  simp only[az] at hr;obtain⟨p,hp,hr⟩:=hr;have aW:=cu h hC hg hp;split at hr
  case h_2=>cases hr
  rename_i t ts e1;cases hc:(Nat.beq n (ts.length+1)&&ts.all (Ty.beq t)&&t.one&&ub C.P e t&&Nat.ble n maxLen&&(afp x|| !Ty.beq t (.int .i64)))<;>simp only[hc,zyy,zyx] at hr
  .cases hr
  cases hr;simp only[au] at hc;obtain⟨⟨⟨⟨⟨c1,c2⟩,c3⟩,c4⟩,c5⟩,c6⟩:=hc;have hn:=aD c1;have hm:=lx c5;obtain⟨inf,td,hs⟩:=OQ c4;rw[e1] at aW;obtain⟨k,off,x0,y,tA,hd,hr0,lH⟩:=aW.ref_inv;have C5:t=.int .i64->V.m k=some mB:=by
   rintro rfl;rw[j5] at c6;rcases c6 with c6|c6
   .cases x with
    |global g=>
     simp only[use,aB] at hp;obtain⟨y',hy',_⟩:=hp;have hk:k=g:=by
      have e:a.eval (.global g)=.pointer (some ⟨g,0,none⟩):=rfl;rw[e] at tA;cases tA;rfl
     subst hk;exact h.le.m _ _ (hC.mg _ _ hy')
    |_=>cases c6
   .exact absurd c6 (by decide)
  obtain⟨vs,ds,rfl,rfl,l1,l2,de,_⟩:=hr0.agg_inv
  have aP:∀(i:Nat),i<n->(t::ts)[i]?=some t:=λi hi=>by
   cases i with
   |zero=>rfl
   |succ i=>
    have af:i<ts.length:=by omega
    rw[abb,aY af];rw[Ty.beq_eq _ _ (cM.1 c2 _ (bQ af))]
  have Sq:vs.length=n:=by rw[l1,hn];rfl
  have hld:ds.length=n:=by rw[l2,hn];rfl
  have eM:t.size=1:=by cases t<;>simp_all [Ty.one,Ty.size]
  refine eK.dat (v:=.slice (some ⟨k,off,none⟩) n n) ?_ ?_
  .have:Addr.add ⟨k,off,none⟩ 0=⟨k,off,none⟩:=by simp[Addr.add]
   simp[execOp,ho,Instr.sliceAt,run_underlying hT,tA,Instr.sureAddr,Instr.sliceBounds,Go.sizeOf,run_typeInfo w td,this]
  .have asA:(PE.lst ((List.range n).map λi=>.cell (.deref p.2) i)).ev O=.list ds:=by
        simp only[PE.ev]
        congr 1
        have bM:∀l:List PE,PE.evs O l=l.map λe=>e.ev O:=λl=>by induction l with|nil=>rfl|cons e l ih=>simp[PE.evs,ih]
        rw[bM,nJ];apply vE;intro i;rw[cq];by_cases hi:i<n
        .rw[sy hi,aY (by omega)];simp only[lC,Function.comp,PE.ev,hd,D.deref,D.c,D.cells];rw[aH,aY (by omega)];rfl
        .rw[j7 (by simp;omega),j7 (by omega)];rfl
   rw[asA];refine .slice t k off n n ds (λi=>vs.getD i undef) hld (aZ _) hm (λi x hx=>?_) (λi j u hi hu=>?_) C5
   .have af:i<n:=by rw[<-hld];exact(eO.1 hx).1
    have:=de i t (aP i af);rw[uG hx] at this;exact this.unf
   .have h1:=(de i t (aP i hi)).oneCell c3;rw[h1.1] at hu;cases j with
    |zero=>
     simp at hu;have:=lH i (vs.getD i undef) (by
      simp only[Value.cells];rw[xT,aY (by omega),aH,aY (by omega)];rfl)
     rw[eM,<-hu];simpa using this
    |succ j=>simp at hu
 rename_i e hT;simp only[az] at hr;obtain⟨p,hp,hr⟩:=hr;have aW:=cu h hC hg hp;split at hr
 case h_2=>cases hr
 rename_i t e1;rw[e1] at aW;simp only[az] at hr;obtain⟨l,hl,u,hu,hr⟩:=hr;split at hr
 case h_2=>cases hr
 rename_i k1 k2 e2 e3;cases aJ:ub C.P e t<;>simp only[aJ,zyy,zyx] at hr
 .cases hr
 cases hr;obtain⟨inf,td,hs⟩:=OQ aJ;obtain⟨n1,bu,pQ⟩:=aD5 h hC hg hl e2;obtain⟨n2,dv,CL⟩:=aD4 h hC hg hu e3;obtain⟨xs,hd,sZ⟩:=Rep.slice_inv' aW;refine .datc hg λhc=>?_;simp only[PE.ev,hd,bu,dv,D.l_list,D.i_int,D.b_bool,decide_eq_true_eq] at hc;obtain⟨m1,rfl⟩:=qB hc.1;obtain⟨m2,rfl⟩:=qB (show 0<=n2 by omega);have RN:m1<=m2:=by omega
 have h2l:m2<=xs.length:=by omega
 have ad4:∀c,xs.length<=c->(Instr.sliceBounds true xs.length c (lo.map a.eval) (hi.map a.eval) none).run C.P w=.ok (m1,m2,c) w:=by
  intro c jv
  have hh:∀code,(match hi.map a.eval with|some v=>Instr.sliceBound v c code|none=>(pure xs.length:Sem Nat)).run C.P w=.ok m2 w:=by
   intro code;rcases CL with⟨rfl,e⟩|⟨y,rfl,e⟩
   .rw[hd,D.l_list] at e;simp;omega
   .simp only[lC];exact run_sliceBound e (by omega)
  have Sp:∀code,(match lo.map a.eval with|some v=>Instr.sliceBound v m2 code|none=>(pure 0:Sem Nat)).run C.P w=.ok m1 w:=by
   intro code;rcases pQ with⟨rfl,e⟩|⟨y,rfl,e⟩
   .simp;omega
   .simp only[lC];exact run_sliceBound e RN
  have hh':=hh .sliceAcap;have aew:=Sp .sliceB;unfold Instr.sliceBounds;cases hi<;>cases lo<;>simp at hh' aew ⊢<;>simp[hh',aew]
 rcases sZ with⟨⟨p0,tA⟩,rfl⟩|⟨k,off,c,tA,h1,h2,C5,vs,h3,h4⟩
 .have:m2=0:=by simpa using h2l
  have:m1=0:=by omega
  subst_vars
  refine⟨.slice p0 0 0,?_,?_⟩
  .have hb:=ad4 0 (aZ _);simp only[A2] at hb;cases p0 with
   |none=>simp[execOp,ho,Instr.sliceAt,Instr.slice,run_underlying hT,tA,hb,Go.sizeOf,run_typeInfo w td]
   |some a0=>simp[execOp,ho,Instr.sliceAt,Instr.slice,run_underlying hT,tA,hb,Go.sizeOf,run_typeInfo w td]
  .simp only[PE.ev,hd,bu,dv,D.l_list,D.i_int];cases p0 with
   |none=>exact .nil t
   |some a0=>exact .emp t a0
 .refine⟨.slice (some (if c=m1 then⟨k,off,none⟩ else⟨k,off+m1*inf.size,none⟩)) (m2-m1) (c-m1),?_,?_⟩
  .have hb:=ad4 c h1;simp only[execOp,ho,Option.map_none,Instr.sliceAt,run_underlying hT,tA];simp[run_underlying hT,Instr.slice,hb,Go.sizeOf,run_typeInfo w td,uu];split<;>simp
  .simp only[PE.ev,hd,bu,dv,D.l_list,D.i_int,xQ];have hlen:((xs.take m2).drop m1).length=m2-m1:=by simp;omega
   have de:∀(i:Nat) (y:D),((xs.take m2).drop m1)[i]?=some y->xs[m1+i]?=some y:=by
        intro i y hy;simp only[jq,iQ] at hy;split at hy
        .exact hy
        .cases hy
   have lH:∀(i j:Nat) (v:Value),i<m2-m1->(vs (m1+i)).cells[j]?=some v->V.c k (off+m1*inf.size+i*t.size+j)=some v:=by
        intro i j v hi hj;have:=h4 (m1+i) j v (by omega) hj;rw[ka] at this;rw[hs]
        rwa [<-sA] at this
   split
   .rename_i oz;refine .slice t k off (m2-m1) (c-m1) _ (λi=>vs (m1+i)) hlen (by omega) (by omega) (λi y hy=>h3 _ _ (de i y hy)) (λi j v hi hj=>by omega) C5
   .exact .slice t k (off+m1*inf.size) (m2-m1) (c-m1) _ (λi=>vs (m1+i)) hlen (by omega) (by omega) (λi y hy=>h3 _ _ (de i y hy)) lH C5
def akH (h:Inv C S O V own hv w0 σ0 A a w)(hC:CtxOK C σ0)(hg:holds gs O=true):∀(xs:List Operand) (r:List Ty×List PE),sl C S gs xs=some r->
 r.1.length=xs.length/\r.2.length=xs.length/\∀(i:Nat) (t:Ty),r.1[i]?=some t->Rep C.cap V t ((xs.map a.eval).getD i undef) ((PE.evs O r.2).getD i .none):=by
 intro xs
 induction xs with
 |nil=>intro r hr;simp[sl] at hr;subst hr;exact⟨rfl,rfl,by simp⟩
 |cons x xs ih=>
  intro r hr;simp only[sl,az,aB] at hr;obtain⟨p,hp,q,hq,rfl⟩:=hr;obtain⟨l1,l2,aP⟩:=ih q hq;refine⟨by simp[l1],by simp[l2],λi t hi=>?_⟩;cases i with
  |zero=>simp at hi;subst hi;simpa [PE.evs] using cu h hC hg hp
  |succ i=>simp at hi;simpa [PE.evs] using aP i t hi
def axM (h:Inv C S O V own hv w0 σ0 A a w)(hC:CtxOK C σ0)(hg:holds gs O=true){fn:Fn}{first caps:Array Operand}{r:Sh×List PI}(hr:Vx C S gs dst fn first caps=some r){o:Oper}(ho:o.op=.makeFunc fn first caps):
 eK C S O V hv Z dst a w o r:=by
 unfold Vx at hr;split at hr
 case h_2=>cases hr
 rename_i f Sd;have hf0:first=#[]:=by simpa using Sd
 subst hf0;simp only[az] at hr;obtain⟨cs,cI,p,hp,hr⟩:=hr;cases hb:Ty.subs p.1 cs.caps<;>simp only[hb,zyy,zyx] at hr
 .cases hr
 cases hr;obtain⟨l1,l2,aP⟩:=akH h hC hg _ _ hp;have hl:=Ty.subs_len _ _ hb;refine .dat (v:=.func (.func f) #[] (caps.map a.eval)) ?_ ?_
 .simp[execOp,ho,Instr.makeFunc]
 .simp only[PE.ev];have:caps.map a.eval=(caps.toList.map a.eval).toArray:=by apply Ei;rw[AR]
  rw[this];have e1:(caps.toList.map a.eval).length=cs.caps.length:=by rw[dX];omega
  have e2:(PE.evs O p.2).length=cs.caps.length:=by rw[PE.evs_eq,dX];omega
  refine .fn f cs _ _ cI e1 e2 (λi t hi=>?_);obtain⟨s,hs,cX⟩:=Ty.subs_get _ _ hb i t hi;exact(aP i s hs).sub cX
def axS (h:Inv C S O V own hv w0 σ0 A a w)(hC:CtxOK C σ0)(hg:holds gs O=true){x:Operand}{r:Sh×List PI}(hr:VC C S gs dst x=some r){o:Oper}(ho:o.op=.nilCheck x):
 eK C S O V hv Z dst a w o r:=by
 have aq:∀k off,a.eval x=.pointer (some ⟨k,off,none⟩)->(execOp a.eval o).run C.P w=.ok (.value (a.eval x)) w:=by
  intro k off e;simp[execOp,ho,e]
 unfold VC at hr;split at hr
 .rename_i t e hu;cases hr;have aW:=cu h hC hg hu;obtain⟨k,off,v,y,aL,bu,bK,lH⟩:=Rep.ref_inv aW;exact .dat (aq k off aL) aW
 .split at hr
  .rename_i t _;obtain⟨hs,fH⟩:=sd h hg t;split at hr
   .rename_i j ver off es;rw[es] at hs;cases hb:Nat.beq ver (S.ver j)<;>simp only[hb,zyy,zyx] at hr
    .cases hr
    cases hr;obtain⟨k,eV,gx⟩:=hs.2 (aD hb);intro O' oJ;exact⟨_,_,xq oJ,aq k off gx,hs,λ_ _ e=>by cases e⟩
   .rename_i j ver sz off es;rw[es] at hs;cases hb:Nat.beq ver (S.ver j)<;>simp only[hb,zyy,zyx] at hr
    .cases hr
    cases hr;have eH:=hs;obtain⟨k,n,c,ik,i,eV,we,cg,gx⟩:=hs.2 (aD hb);intro O' oJ;exact⟨_,_,xq oJ,aq _ _ gx,eH,λ_ _ e=>by cases e⟩
   .cases hr
  .cases hr
def akL {cap:Nat->Option CSig}{t:Ty}{z:Ty×D}{v:Value}(h:sm t=some z)(hz:AN t v=true):Rep cap V z.1 v z.2/\z.1.one=true/\Ty.sub z.1 t=true:=by
 unfold AN at hz;split at hz
 .simp at hz;obtain⟨rfl,rfl⟩:=hz;simp[sm] at h;subst h;exact⟨.int _ 0 (by rename_i k;cases k<;>decide) (by rename_i k;cases k<;>decide),rfl,by simp[Ty.sub,Ty.beq]⟩
 .simp at hz;subst hz;simp[sm] at h;subst h;exact⟨.bool false,rfl,rfl⟩
 .rename_i s;have:s=ByteArray.empty:=by
   have:s.size=0:=by simpa using hz
   cases s with|mk d=>simp[ByteArray.size] at this;subst this;rfl
  subst this;simp[sm] at h;subst h;exact⟨.str _ (by decide),rfl,rfl⟩
 .simp[sm] at h;subst h;exact⟨.nils _,rfl,rfl⟩
 .simp[sm] at h;subst h;refine⟨.mapnil _ _,rfl,?_⟩;simp only[Ty.sub];exact Ty.beq_refl _
 .simp[sm] at h;subst h;exact⟨.fnnil _ _,rfl,by simp only[Ty.sub];exact Ty.beq_refl _⟩
 .cases hz
end
def mapM_some {α β:Type}(f:α->Option β):∀(l:List α) (r:List β),l.mapM f=some r->r.length=l.length/\∀(i:Nat) (x:α),l[i]?=some x->∃y,r[i]?=some y/\f x=some y
 |[],r,h=>by simp at h;subst h;exact⟨rfl,by simp⟩
 |x::l,r,h=>by
  simp only[abg,Option.bind_eq_bind,az] at h;obtain⟨y,hy,ys,oM,h⟩:=h;cases h;obtain⟨h1,h2⟩:=mapM_some f l ys oM;refine⟨by simp[h1],λi z hi=>?_⟩;cases i with
  |zero=>simp at hi;subst hi;exact⟨y,rfl,hy⟩
  |succ i=>simp at hi;simpa using h2 i z hi
def aaR:∀(ts:List Ty) (vs:List Value),Eh ts vs=true->vs.length=ts.length/\∀(i:Nat) (t:Ty),ts[i]?=some t->∃v,vs[i]?=some v/\AN t v=true
 |[],vs,h=>by cases vs<;>simp_all [Eh]
 |t::ts,vs,h=>by
  cases vs with
  |nil=>simp[Eh] at h
  |cons v vs=>
   simp only[Eh,au] at h;obtain⟨h1,h2⟩:=aaR ts vs h.2;refine⟨by simp[h1],λi u hi=>?_⟩;cases i with
   |zero=>simp at hi;subst hi;exact⟨v,rfl,h.1⟩
   |succ i=>simp at hi;simpa using h2 i u hi
def AO {cap:Nat->Option CSig}{V:Im}{t:Ty}{z:Ty×D}{v:Value}(h:qv t=some z)(hz:j4 t v=true):Rep cap V z.1 v z.2/\Ty.sub z.1 t=true/\z.1.one=t.one:=by
 cases t with
 |agg ts=>
  simp only[qv,aB] at h;obtain⟨zs,nm,rfl⟩:=h;cases v with
  |agg vs=>
   simp only[j4] at hz;obtain⟨l1,h1⟩:=aaR ts vs.toList hz;obtain⟨l2,h2⟩:=mapM_some _ _ _ nm;have key:∀(i:Nat) (t:Ty),ts[i]?=some t->∃y v,zs[i]?=some y/\vs.toList[i]?=some v/\Rep cap V y.1 v y.2/\y.1.one=true/\Ty.sub y.1 t=true:=by
      intro i t hi;obtain⟨y,hy,wG⟩:=h2 i t hi;obtain⟨v,hv,iL⟩:=h1 i t hi;obtain⟨g1,g2,g3⟩:=akL (cap:=cap) (V:=V) wG iL;exact⟨y,v,hy,hv,g1,g2,g3⟩
   have cK:∀(ts:List Ty) (zs:List (Ty×D)),zs.length=ts.length->(∀(i:Nat) (t:Ty),ts[i]?=some t->∃y,zs[i]?=some y/\Ty.sub y.1 t=true)->Ty.subs (zs.map (·.1)) ts=true:=by
      intro ts
      induction ts with
      |nil=>intro zs hl _;cases zs<;>simp_all [Ty.subs]
      |cons t ts ih=>
       intro zs hl hh;cases zs with
       |nil=>simp at hl
       |cons z zs=>
        simp only[iy,Ty.subs,au];refine⟨?_,ih zs (by simpa using hl) λi u hu=>by simpa using hh (i+1) u (by simpa using hu)⟩;obtain⟨y,hy,wG⟩:=hh 0 t rfl;simp at hy;subst hy;exact wG
   refine⟨?_,?_,rfl⟩
   .have:vs=vs.toList.toArray:=by simp
    rw[this];refine .agg _ _ _ (by rw[dX];omega) (by simp) (λi t hi=>?_) (λi t hi=>?_)
    .simp only[cq,aB] at hi;obtain⟨q,hq,rfl⟩:=hi;obtain⟨t',wE⟩:∃t',ts[i]?=some t':=⟨_,aY (by have:=(eO.1 hq).1;omega)⟩
     obtain⟨y,v,hy,hv,g1,g2,g3⟩:=key i t' wE;rw[hq] at hy;cases hy;rw[uG hv,uG (show(zs.map (·.2))[i]?=some q.2 by simp[hq])];exact g1
    .simp only[cq,aB] at hi;obtain⟨q,hq,rfl⟩:=hi;obtain⟨t',wE⟩:∃t',ts[i]?=some t':=⟨_,aY (by have:=(eO.1 hq).1;omega)⟩
     obtain⟨y,v,hy,hv,g1,g2,g3⟩:=key i t' wE;rw[hq] at hy;cases hy;exact g2
   .simp only[Ty.sub];exact cK ts zs l2 λi t hi=>by obtain⟨y,v,hy,hv,g1,g2,g3⟩:=key i t hi;exact⟨y,hy,g3⟩
  |_=>simp[j4] at hz
 |_=>
  obtain⟨g1,g2,g3⟩:=akL (cap:=cap) (V:=V) (by simpa [qv] using h) (by simpa [j4] using hz);exact⟨g1,g3,(Ty.sub_one _ _ g3).1⟩
def ami {a b:ByteArray}(h:(a==b)=true):a=b:=by
 cases a with|mk x=>cases b with|mk y=>
 have:(x==y)=true:=h;rw[eq_of_beq this]
def amj (a:ByteArray):(a==a)=true:=by
 cases a with|mk x=>
 show(x==x)=true;simp
def TL {P:Program}{K:TypeId}{kt:Ty}(hk:np P K kt=true):
 (∃k k',kt=.int k/\P.underlying K=some (.int k'))\/(kt=.str/\P.underlying K=some .string)\/(kt=.bool/\P.underlying K=some .bool):=by
 unfold np at hk;split at hk
 .split at hk
  .exact .inl ⟨_,_,rfl,by assumption⟩
  .cases hk
 .split at hk
  .exact .inr (.inl ⟨rfl,by assumption⟩)
  .cases hk
 .split at hk
  .exact .inr (.inr ⟨rfl,by assumption⟩)
  .cases hk
 .cases hk
def ape {cap:Nat->Option CSig}{V:Im}{P:Program}{K:TypeId}{kt:Ty}{desc:TypeDesc}(hk:np P K kt=true)(hu:P.underlying K=some desc){v:Value}{d:D}(hv:Rep cap V kt v d):
 ∀(es:List MapEntry) (ds:List (D×D)) (i:Nat),ds.length=es.length->(∀(j:Nat) (e:MapEntry) (p:D×D),es[j]?=some e->ds[j]?=some p->Rep cap V kt e.key p.1)->
  (Instr.findNow desc v es i=some none/\∀(j:Nat) (p:D×D),ds[j]?=some p->ji d p.1=false)\/
  ∃j e p,es[j]?=some e/\ds[j]?=some p/\Instr.findNow desc v es i=some (some (i+j,e.val))/\ji d p.1=true/\Instr.sameBits 10000 e.key v=true/\∀m q,m<j->ds[m]?=some q->ji d q.1=false:=by
 have eM:∀(v':Value) (d':D),Rep cap V kt v' d'->Instr.sameNow desc v v'=some (ji d d')/\(ji d d'=true->Instr.sameBits 10000 v' v=true):=by
  intro v' d' h';rcases TL hk with⟨k,k',rfl,lO⟩|⟨rfl,lO⟩|⟨rfl,lO⟩
  .rw[hu] at lO;cases lO;obtain⟨n,rfl,rfl,_⟩:=hv.int_inv;obtain⟨m,rfl,rfl,_⟩:=h'.int_inv;refine⟨by simp[Instr.sameNow,ji,D.cells,wN,zG],λe=>?_⟩;have:n=m:=by simpa [ji,D.cells,wN,zG] using e
   subst this;simp[Instr.sameBits]
  .rw[hu] at lO;cases lO;obtain⟨n,rfl,rfl,_⟩:=hv.str_inv;obtain⟨m,rfl,rfl,_⟩:=h'.str_inv;refine⟨by simp[Instr.sameNow,ji,D.cells,wN,zG],λe=>?_⟩;have:n=m:=ami (by simpa [ji,D.cells,wN,zG] using e);subst this;simpa [Instr.sameBits] using amj n
  .rw[hu] at lO;cases lO;obtain⟨n,rfl,rfl⟩:=hv.bool_inv;obtain⟨m,rfl,rfl⟩:=h'.bool_inv;refine⟨by simp[Instr.sameNow,ji,D.cells,wN,zG],λe=>?_⟩;have:n=m:=by simpa [ji,D.cells,wN,zG] using e
   subst this;simp[Instr.sameBits]
 intro es
 induction es with
 |nil=>intro ds i hl _;left;exact⟨rfl,by cases ds<;>simp_all⟩
 |cons e es ih=>
  intro ds i hl aP;cases ds with
  |nil=>simp at hl
  |cons p ds=>
   obtain⟨hs,hb⟩:=eM e.key p.1 (aP 0 e p rfl rfl);cases CP:ji d p.1 with
   |true=>
    right;rw[CP] at hs;exact⟨0,e,p,rfl,rfl,by simp[Instr.findNow,hs],CP,hb CP,λm q hm=>by omega⟩
   |false=>
    rw[CP] at hs;rcases ih ds (i+1) (by simpa using hl) (λj e' p' he hp=>aP (j+1) e' p' (by simpa using he) (by simpa using hp)) with⟨h1,h2⟩|⟨j,e',p',h1,h2,h3,h4,h5,h6⟩
    .left;refine⟨by simp[Instr.findNow,hs,h1],λj q hq=>?_⟩;cases j with
     |zero=>simp at hq;subst hq;exact CP
     |succ j=>exact h2 j q (by simpa using hq)
    .right;refine⟨j+1,e',p',by simpa using h1,by simpa using h2,?_,h4,h5,λm q hm hq=>?_⟩
     .simp[Instr.findNow,hs,h3];omega
     .cases m with
      |zero=>simp at hq;subst hq;exact CP
      |succ m=>exact h6 m q (by omega) (by simpa using hq)
def afX {d:D}:∀{ds:List (D×D)},(∀(j:Nat) (p:D×D),ds[j]?=some p->ji d p.1=false)->jR d ds=none
 |[],_=>rfl
 |p::ds,h=>by simp only[jR,h 0 p rfl];exact afX λj q hq=>h (j+1) q (by simpa using hq)
def afY {d:D}:∀{ds:List (D×D)} {j:Nat} {p:D×D},ds[j]?=some p->ji d p.1=true->(∀(m:Nat) (q:D×D),m<j->ds[m]?=some q->ji d q.1=false)->jR d ds=some p.2
 |[],j,p,hp,_,_=>by simp at hp
 |x::ds,0,p,hp,hk,_=>by simp at hp;subst hp;simp[jR,hk]
 |x::ds,j+1,p,hp,hk,hm=>by
  simp only[jR,hm 0 x (by omega) rfl];exact afY (j:=j) (by simpa using hp) hk λm q af hq=>hm (m+1) q (by omega) (by simpa using hq)
def aiU {d v:D}:∀{ds:List (D×D)},(∀(j:Nat) (p:D×D),ds[j]?=some p->ji d p.1=false)->gd d v ds=ds++[(d,v)]
 |[],_=>rfl
 |p::ds,h=>by simp only[gd,h 0 p rfl,AT,if_false,Je];rw[aiU λj q hq=>h (j+1) q (by simpa using hq)]
def aiV {d v:D}:∀{ds:List (D×D)} {j:Nat} {p:D×D},ds[j]?=some p->ji d p.1=true->(∀(m:Nat) (q:D×D),m<j->ds[m]?=some q->ji d q.1=false)->gd d v ds=ds.set j (d,v)
 |[],j,p,hp,_,_=>by simp at hp
 |x::ds,0,p,hp,hk,_=>by simp at hp;subst hp;simp[gd,hk]
 |x::ds,j+1,p,hp,hk,hm=>by
  simp only[gd,hm 0 x (by omega) rfl,AT,if_false,List.set_cons_succ];rw[aiV (j:=j) (by simpa using hp) hk λm q af hq=>hm (m+1) q (by omega) (by simpa using hq)]
def afD {P:Program}{K:TypeId}{kt:Ty}(hk:wO P K kt=true):np P K kt=true\/afE P K kt=true:=by
 unfold wO at hk;simpa using hk
def acq {cap:Nat->Option CSig}{V:Im}{P:Program}{K:TypeId}{kt:Ty}(hk:wO P K kt=true){v:Value}{d:D}(hv:Rep cap V kt v d){w:World}{b:Bool}:(Instr.checkKey b 10000 K v).run P w=.ok () w:=by
 rcases afD hk with hk|hk
 case inr=>cases hk
 have:∀n,(Instr.checkKey b (n+1) K v).run P w=.ok () w:=by
  intro n;rcases TL hk with⟨k,k',rfl,hu⟩|⟨rfl,hu⟩|⟨rfl,hu⟩<;>cases v<;>simp[Instr.checkKey,run_underlying hu]
 exact this 9999
section
variable {C:Ctx} {S:St} {O:Env} {V:Im} {own:Nat->Option Nat} {hv:Nat->Value} {w0:World} {σ0:Base} {A:Nat->Prop} {a:Act} {w:World} {gs:List (Nat×Bool)} {Z:aO} {dst:Nat}
def aur {P:Program}{K:TypeId}{kt:Ty}(hk:np P K kt=true):∃desc,P.underlying K=some desc:=by
 rcases TL hk with⟨k,k',rfl,hu⟩|⟨rfl,hu⟩|⟨rfl,hu⟩<;>exact⟨_,hu⟩
def run_findKey {cap:Nat->Option CSig}{P:Program}{K:TypeId}{kt et:Ty}(ib:wO P K kt=true){v:Value}{d:D}(hv:Rep cap V kt v d)(arr:Array MapEntry)(ds:List (D×D))(hl:ds.length=arr.size)
 (aP:∀(j:Nat) (e:MapEntry) (p:D×D),arr[j]?=some e->ds[j]?=some p->Rep cap V kt e.key p.1/\Rep cap V et e.val p.2) (w:World):
 ((Instr.findKey K v arr.toList).run P w=.ok none w/\jR d ds=none/\∀u,gd d u ds=ds++[(d,u)])\/
 ∃j e p,arr[j]?=some e/\ds[j]?=some p/\(Instr.findKey K v arr.toList).run P w=.ok (some (j,e.val)) w/\jR d ds=some p.2/\(∀u,gd d u ds=ds.set j (d,u))/\Instr.sameBits 10000 e.key v=true:=by
 rcases afD ib with hk|hk
 case inr=>cases hk
 obtain⟨desc,hu⟩:=aur hk;rcases ape hk hu hv arr.toList ds 0 (by simpa using hl) (λj e p he hp=>(aP j e p (by simpa using he) hp).1) with⟨h1,h2⟩|⟨j,e,p,h1,h2,h3,h4,h5,h6⟩
 .left;exact⟨by simp[Instr.findKey,run_underlying hu,h1],afX h2,λu=>aiU h2⟩
 .right;refine⟨j,e,p,by simpa using h1,h2,?_,afY h2 h4 h6,λu=>aiV h2 h4 h6,h5⟩;simp only[ke] at h3;simp[Instr.findKey,run_underlying hu,h3]
def axR (h:Inv C S O V own hv w0 σ0 A a w)(hC:CtxOK C σ0)(hg:holds gs O=true){T:TypeId}{m k:Operand}{ok:Bool}{r:Sh×List PI}(hr:VB C S gs dst T m k ok=some r){o:Oper}(ho:o.op=.lookup T m k ok):
 eK C S O V hv Z dst a w o r:=by
 unfold VB at hr;split at hr
 case h_2=>cases hr
 rename_i K E hT;simp only[az] at hr;obtain⟨p,hp,q,hq,hr⟩:=hr;have aW:=aaK h hC hg hp;have dE:=cu h hC hg hq;split at hr
 case h_2=>cases hr
 rename_i kt et e1;rw[e1] at aW;split at hr
 case h_2=>cases hr
 rename_i z inf hz td;cases hc:(Ty.beq q.1 kt&&wO C.P K kt&&Ty.sub z.1 et&&vA inf et)<;>simp only[hc,zyy,zyx] at hr
 .cases hr
 simp only[au] at hc;obtain⟨⟨⟨L8,F4⟩,cK⟩,hzero⟩:=hc;rw[Ty.beq_eq _ _ L8] at dE;obtain⟨v0,eT,GG⟩:∃v0,inf.zero=some v0/\Rep C.cap V et v0 z.2:=by
  unfold vA at hzero;split at hzero
  .rename_i v0 e0;exact⟨v0,e0,(AO hz hzero).1.sub cK⟩
  .cases hzero
 have arT:∃(arr:Array MapEntry) (ds:List (D×D)),(p.2.ev O).m=ds/\ds.length=arr.size/\
  (∀(j:Nat) (e:MapEntry) (p:D×D),arr[j]?=some e->ds[j]?=some p->Rep C.cap V kt e.key p.1/\Rep C.cap V et e.val p.2)/\
  ((a.eval m=.map none/\arr=#[])\/∃g clock,a.eval m=.map (some g)/\w.heap[g]?=some (.map arr clock)):=by
  rcases aW with aW|⟨T',e,cells,xs,ht,_⟩|⟨g,arr,clock,es,kt',et',ht,hvm,hb,hd,hl,hx,aP⟩
  .generalize zx:a.eval m=v at aW;generalize FP:p.2.ev O=d at aW;cases aW with
   |mapnil=>exact⟨#[],[],by simp[D.m],rfl,by simp,.inl ⟨rfl,rfl⟩⟩
   |map kt et r ix es hm hl hx hk he=>
    obtain⟨arr,clock,hb,lJ⟩:=(h.ok.m _ _ hm).mp (GZ hl hk) (agF hl hk);have hn:es.length=arr.size:=by rw[hl,<-lJ];simp[entriesOf]
    refine⟨arr,es,by simp[D.m],hn,λj e p hj hp=>?_,.inr ⟨r,clock,rfl,hb⟩⟩;have:ix[j]?=some (e.key,e.val):=by rw[<-lJ];simp[entriesOf,hj]
    exact⟨hk j _ p this hp,he j _ p this hp⟩
  .cases ht
  .cases ht;exact⟨arr,es,by rw[hd];rfl,hl,aP,.inr ⟨g,clock,hvm,hb⟩⟩
 obtain⟨arr,ds,hd,hl,aP,cD⟩:=arT;have oy:∀b,(Instr.checkKey b 10000 K (a.eval k)).run C.P w=.ok () w:=λb=>acq (cap:=C.cap) (V:=V) F4 dE;have Su:∃u b x,(Instr.lookup T (a.eval m) (a.eval k) ok).run C.P w=.ok (if ok then .tuple #[u,.bool b] else u) w/\(jR (q.2.ev O) (p.2.ev O).m).getD z.2=x/\(jR (q.2.ev O) (p.2.ev O).m).isSome=b/\Rep C.cap V et u x:=by
  rw[hd];rcases run_findKey F4 dE arr ds hl aP w with⟨h1,h2,_⟩|⟨j,e,x,h1,h2,h3,h4,_,_⟩
  .refine⟨v0,false,z.2,?_,by rw[h2];rfl,by rw[h2];rfl,GG⟩;rcases cD with⟨em,rfl⟩|⟨g,clock,em,hb⟩
   .simp only[List.toList_toArray] at h1;cases ok<;>simp[Instr.lookup,run_underlying hT,em,oy,h1,zeroValue,run_typeInfo w td,eT]
   .cases ok<;>simp[Instr.lookup,run_underlying hT,em,getObj,Sem.run,hb,oy,h1,zeroValue,run_typeInfo w td,eT]
  .refine⟨e.val,true,x.2,?_,by rw[h4];rfl,by rw[h4];rfl,(aP j e x h1 h2).2⟩;rcases cD with⟨em,rfl⟩|⟨g,clock,em,hb⟩
   .simp at h1
   .cases ok<;>simp[Instr.lookup,run_underlying hT,em,getObj,Sem.run,hb,oy,h3]
 obtain⟨u,b,x,aq,kU,zA,bK⟩:=Su;cases ok with
 |true=>
  simp only[zyy] at hr;cases hr;refine .dat (v:=.tuple #[u,.bool b]) (by simp[execOp,ho,aq]) ?_;simp only[PE.ev,PE.evs,kU,zA];refine .tup [et,.bool] [u,.bool b] [x,.v (.bool b)] rfl rfl (λi t hi=>?_)
  match i,hi with
  |0,hi=>simp at hi;subst hi;exact bK
  |1,hi=>simp at hi;subst hi;exact .bool b
  |i+2,hi=>simp at hi
 |false=>
  simp only[zyx] at hr;cases hr;refine .dat (v:=u) (by simp[execOp,ho,aq]) ?_;simp only[PE.ev,kU];exact bK
end
def adr (off:Nat):∀(l:List Value) (s:Nat) (cells:Array Value),off+s+l.length<=cells.size->
 ((l.zipIdx s).foldl (λcs (x:Value×Nat)=>cs.setIfInBounds (off+x.2) x.1) cells).size=cells.size/\
 ∀p,((l.zipIdx s).foldl (λcs (x:Value×Nat)=>cs.setIfInBounds (off+x.2) x.1) cells)[p]?=if off+s<=p/\p<off+s+l.length then l[p-(off+s)]? else cells[p]?
 |[],s,cells,_=>by
  refine⟨rfl,λp=>?_⟩;have:¬(off+s<=p/\p<off+s+0):=by omega
  simp only[List.zipIdx_nil,List.foldl_nil,A2];rw[if_neg this]
 |v::l,s,cells,h=>by
  simp only[px] at h;obtain⟨h1,h2⟩:=adr off l (s+1) (cells.setIfInBounds (off+s) v) (by simp;omega);simp only[List.zipIdx_cons,vG];refine⟨by rw[h1];simp,λp=>?_⟩;rw[h2 p];by_cases hp:p=off+s
  .subst hp;have c1:¬(off+(s+1)<=off+s/\off+s<off+(s+1)+l.length):=by omega
   have c2:off+s<=off+s/\off+s<off+s+(v::l).length:=by simp
   rw[if_neg c1,if_pos c2,Ej,if_pos rfl,if_pos (by omega)];simp
  .by_cases hc:off+(s+1)<=p/\p<off+(s+1)+l.length
   .have c2:off+s<=p/\p<off+s+(v::l).length:=by simp only[px];omega
    rw[if_pos hc,if_pos c2];rw[show p-(off+s)=(p-(off+(s+1)))+1 by omega];simp
   .have c2:¬(off+s<=p/\p<off+s+(v::l).length):=by simp only[px];omega
    rw[if_neg hc,if_neg c2,Ej];rw[if_neg (by omega)]
def Ru (place:Nat->Option (Nat×Nat)):∀(parts:List (Nat×Value)) (cells:Array Value),
 (∀p,p∈parts->∃o,place p.1=some (o,p.2.cells.size)/\o+p.2.cells.size<=cells.size)->
 (∀i j oi si oj sj,i≠j->place i=some (oi,si)->place j=some (oj,sj)->oi+si<=oj\/oj+sj<=oi)->(parts.map (·.1)).Nodup->
 ∃db,Instr.fill place cells parts=some db/\db.size=cells.size/\
  (∀i v o,(i,v)∈parts->place i=some (o,v.cells.size)->∀m,m<v.cells.size->db[o+m]?=v.cells[m]?)/\
  (∀i o s,i∉parts.map (·.1)->place i=some (o,s)->∀m,m<s->db[o+m]?=cells[o+m]?)
 |[],cells,_,_,_=>⟨cells,rfl,rfl,by simp,λ_ _ _ _ _ _ _=>rfl⟩
 |(i,v)::parts,cells,h,CG,bp=>by
  obtain⟨o,hp,hle⟩:=h (i,v) (fQ ..);simp only at hp hle;obtain⟨g1,g2⟩:=adr o v.cells.toList 0 cells (by simp;omega);simp only[iy,qE] at bp
  have hz:v.cells.zipIdx.foldl (λcs (x:Value×Nat)=>cs.setIfInBounds (o+x.2) x.1) cells=(v.cells.toList.zipIdx 0).foldl (λcs (x:Value×Nat)=>cs.setIfInBounds (o+x.2) x.1) cells:=by
    rw[<-Array.foldl_toList];simp
  generalize hc1:(v.cells.toList.zipIdx 0).foldl (λcs (x:Value×Nat)=>cs.setIfInBounds (o+x.2) x.1) cells=c1 at g1 g2 hz
  obtain⟨db,k1,k2,k3,k4⟩:=Ru place parts c1 (λp hm=>by
    obtain⟨o',h1,h2⟩:=h p (fy _ hm);exact⟨o',h1,by rw[g1];exact h2⟩) CG bp.2
  refine⟨db,?_,k2.trans g1,?_,?_⟩
  .simp only[Instr.fill,hp];have:¬((v.cells.size≠v.cells.size||decide (o+v.cells.size>cells.size))=true):=by simp;omega
   rw[if_neg this];rw[<-k1,<-hz]
  .intro j u o' hm CU m af;rcases cv.1 hm with e|fG
   .cases e;rw[hp] at CU;cases CU;rw[k4 i o v.cells.size bp.1 hp m af,g2];rw[if_pos (by simp;omega)];simp
   .exact k3 j u o' fG CU m af
  .intro j o' s' pR CU m af;simp only[iy,cv,not_or] at pR;rw[k4 j o' s' pR.2 CU m af,g2];have:=CG i j o v.cells.size o' s' (λe=>pR.1 e.symm) hp CU;rw[if_neg (by simp;omega)]
section
variable {C:Ctx} {S:St} {O:Env} {V:Im} {own:Nat->Option Nat} {hv:Nat->Value} {w0:World} {σ0:Base} {A:Nat->Prop} {a:Act} {w:World} {gs:List (Nat×Bool)} {Z:aO} {dst:Nat}
def Rep.flat {cap:Nat->Option CSig}{t:Ty}{v:Value}{d:D}(h:Rep cap V t v d)(ht:t.rowT=true\/t.one=true):
 t.flat.length=t.size/\d.cells.length=t.size/\∀(m:Nat) (tm:Ty),t.flat[m]?=some tm->tm.one=true/\Rep cap V tm (v.cells.getD m undef) (d.cells.getD m .none):=by
 cases h with
 |agg ts vs ds h1 h2 h ho=>
  refine⟨rfl,by simp[D.cells,Ty.size,h2],λm tm hm=>⟨ho m tm hm,?_⟩⟩;have:=h m tm hm;simpa [Value.cells,D.cells,gp,aH] using this
 |tup ts vs ds h1 h2 h=>simp[Ty.rowT,Ty.one] at ht
 |_=>
  refine⟨rfl,rfl,λm tm hm=>?_⟩
  match m,hm with
  |0,hm=>
   simp only[Ty.flat,PG,bj] at hm;subst hm;refine⟨rfl,?_⟩;simp only[Value.cells,D.cells,qD];constructor<;>assumption
  |m+1,hm=>simp[Ty.flat] at hm
def rH:∀{l:List Nat},kA l=true->l.Nodup
 |[],_=>List.nodup_nil
 |a::r,h=>by
  simp only[kA,au,l6] at h;refine qE.2 ⟨λhm=>?_,rH h.2⟩;have:=List.any_eq_false.1 h.1 a hm;simp at this
def Laid (P:Program):List Field->Nat->Prop
 |[],_=>True
 |f::fs,off=>f.offset=off/\∃inf,P.info? f.type=some inf/\Laid P fs (off+inf.size)
def Laid.get {P:Program}:∀{fs:List Field} {off:Nat},Laid P fs off->∀(i:Nat) (f:Field),fs[i]?=some f->∃inf,P.info? f.type=some inf/\off<=f.offset/\
 ∀(j:Nat) (g:Field),i<j->fs[j]?=some g->f.offset+inf.size<=g.offset
 |[],_,_,i,f,hi=>by simp at hi
 |f0::fs,off,h,i,f,hi=>by
  obtain⟨h1,inf,h2,h3⟩:=h;cases i with
  |zero=>
   simp at hi;subst hi;refine⟨inf,h2,by omega,λj g hj hg=>?_⟩;cases j with
   |zero=>omega
   |succ j=>obtain⟨_,_,h4,_⟩:=h3.get j g (by simpa using hg);omega
  |succ i=>
   simp at hi;obtain⟨aua,k1,k2,k3⟩:=h3.get i f hi;refine⟨aua,k1,by omega,λj g hj hg=>?_⟩;cases j with
   |zero=>omega
   |succ j=>exact k3 j g (by omega) (by simpa using hg)
def aiD {ft:Ty}{x:Operand}{y:List AgC×PE}(h:Dm C S gs ft x=some y):y.1.length=ft.size:=by
 have RD:∀t:Ty,t.flat.length=t.size:=λt=>by cases t<;>simp[Ty.flat,Ty.size]
 unfold Dm at h;split at h
 .rename_i a _;cases hs:(Ty.sub a.1 ft&&(a.1.rowT||a.1.one))<;>simp only[hs,zyy,zyx] at h
  .cases h
  cases h;simp only[au] at hs;rw[dX,RD,(Ty.sub_one _ _ hs.1).2]
 .split at h
  .rename_i j ver _;cases hb:(Nat.beq ver (S.ver j)&&TI (S.o j)&&Nat.beq ft.size 1)<;>simp only[hb,zyy,zyx] at h
   .cases h
   cases h;simp only[au] at hb;exact(aD hb.2).symm
  .cases h
def aiE (h:Inv C S O V own hv w0 σ0 A a w)(hC:CtxOK C σ0)(hg:holds gs O=true){ft:Ty}{x:Operand}{y:List AgC×PE}(hy:Dm C S gs ft x=some y):
 (a.eval x).cells.size=ft.size/\(y.2.ev O).cells.length=ft.size/\∀(m:Nat) (c:AgC),y.1[m]?=some c->sq C S V hv c ((a.eval x).cells.getD m undef) ((y.2.ev O).cells.getD m .none):=by
 unfold Dm at hy;split at hy
 .rename_i q hq;cases hs:(Ty.sub q.1 ft&&(q.1.rowT||q.1.one))<;>simp only[hs,zyy,zyx] at hy
  .cases hy
  cases hy;simp only[au,j5] at hs;have hr:=cu h hC hg hq;obtain⟨f1,f2,f3⟩:=hr.flat hs.2;have e:=(Ty.sub_one _ _ hs.1).2;refine⟨by rw[hr.size,e],by rw[f2,e],λm c hm=>?_⟩;simp only[cq,aB] at hm;obtain⟨t,ht,rfl⟩:=hm;exact f3 m t ht
 .split at hy
  .rename_i j ver oL;cases hb:(Nat.beq ver (S.ver j)&&TI (S.o j)&&Nat.beq ft.size 1)<;>simp only[hb,zyy,zyx] at hy
   .cases hy
   cases hy;simp only[au] at hb;obtain⟨⟨jN,dA⟩,R1⟩:=hb;have dR:=aD jN;have aJ:=aD R1;have dQ:aG C S O V hv (gN S gs x) (a.eval x) ((tX x).ev O):=by
        cases x with
        |tmp t=>exact(sd h hg t).1
        |_=>cases oL
   rw[oL] at dQ;have aL:=dQ.2 dR;have bt:=h.objs j;have hc:(a.eval x).cells=#[a.eval x]:=by
        rw[aL];cases ho:S.o j with
        |row T e=>
         rw[ho] at bt;obtain⟨cells,xs,_,h2,_⟩:=bt;rcases h2.2 with⟨e1,_⟩|⟨g,cap,cur,e1,_⟩<;>rw[e1]<;>rfl
        |_=>rw[ho] at dA;cases dA
   refine⟨by rw[hc,aJ];rfl,by rw[aJ];rfl,λm c hm=>?_⟩;cases m with
   |zero=>
    simp at hm;subst hm;rw[hc];exact dQ
   |succ m=>simp at hm
  .cases hy
def amE {zs:List Value}{parts:List (Nat×Operand)}:∀(fs:List Field) (i off:Nat) (r:List AgC×List PE),nN C S gs zs parts fs i off=some r->Laid C.P fs off:=by
 intro fs
 induction fs with
 |nil=>intro i off r _;trivial
 |cons f fs ih=>
  intro i off r h;simp only[nN] at h;split at h
  case h_2=>cases h
  rename_i inf ft hi ht;cases hc:(Nat.beq f.offset off&&Nat.beq inf.size ft.size)<;>simp only[hc,zyy,zyx] at h
  .cases h
  simp only[au] at hc;simp only[az] at h;obtain⟨q,hq,_⟩:=h;exact⟨aD hc.1,inf,hi,ih _ _ _ hq⟩
def aca {zs:List Value}{parts:List (Nat×Operand)}:∀(fs:List Field) (i off:Nat) (r:List AgC×List PE),nN C S gs zs parts fs i off=some r->off<=zs.length:=by
 intro fs
 induction fs with
 |nil=>intro i off r h;simp only[nN] at h;cases hb:Nat.beq off zs.length<;>simp[hb] at h;exact Nat.le_of_eq (aD hb)
 |cons f fs ih=>
  intro i off r h;simp only[nN] at h;split at h
  case h_2=>cases h
  rename_i inf ft hi ht;cases hc:(Nat.beq f.offset off&&Nat.beq inf.size ft.size)<;>simp only[hc,zyy,zyx] at h
  .cases h
  simp only[az] at h;obtain⟨q,hq,_⟩:=h;have:=ih _ _ _ hq;omega
def amD {zs:List Value}{parts:List (Nat×Operand)}:∀(fs:List Field) (i off:Nat) (r:List AgC×List PE),nN C S gs zs parts fs i off=some r->
 ∃ft:List AgC×List PE,r=ft/\(∀(m:Nat) (f:Field) (inf:TypeInfo),fs[m]?=some f->C.P.info? f.type=some inf->f.offset+inf.size<=zs.length)/\(∀(m:Nat) (x:Nat×Operand) (f:Field) (inf:TypeInfo),fs[m]?=some f->C.P.info? f.type=some inf->parts.find? (λp=>Nat.beq p.1 (i+m))=some x->∃y ft,Dm C S gs ft x.2=some y/\ft.size=inf.size)/\off+r.1.length=zs.length:=by
 intro fs
 induction fs with
 |nil=>intro i off r h;simp only[nN] at h;cases hb:Nat.beq off zs.length<;>simp[hb] at h;subst h;exact⟨_,rfl,by simp,by simp,by simpa using aD hb⟩
 |cons f fs ih=>
  intro i off r h;simp only[nN] at h;split at h
  case h_2=>cases h
  rename_i inf ft hi ht;cases hc:(Nat.beq f.offset off&&Nat.beq inf.size ft.size)<;>simp only[hc,zyy,zyx] at h
  .cases h
  simp only[au] at hc;have jd:=aD hc.1;have aJ:=aD hc.2;simp only[az] at h;obtain⟨q,hq,h⟩:=h;have hle:=aca _ _ _ _ hq;obtain⟨_,rfl,k1,k2,k3⟩:=ih _ _ _ hq;have e1:∀(m:Nat) (g:Field) (ig:TypeInfo),(f::fs)[m]?=some g->C.P.info? g.type=some ig->g.offset+ig.size<=zs.length:=by
   intro m g ig hm gz;cases m with
   |zero=>simp at hm;subst hm;rw[hi] at gz;cases gz;omega
   |succ m=>exact k1 m g ig (by simpa using hm) gz
  have RD:∀t:Ty,t.flat.length=t.size:=λt=>by cases t<;>simp[Ty.flat,Ty.size]
  split at h
  .rename_i x hx;simp only[aB] at h;obtain⟨y,hy,rfl⟩:=h;refine⟨_,rfl,e1,λm x' g ig hm gz hf=>?_,?_⟩
   .cases m with
    |zero=>
     simp at hm;subst hm;rw[hi] at gz;cases gz;simp only[l9] at hf;rw[hx] at hf;cases hf;exact⟨y,ft,hy,aJ.symm⟩
    |succ m=>exact k2 m x' g ig (by simpa using hm) gz (by rwa [show i+(m+1)=i+1+m by omega] at hf)
   .have:=aiD hy;simp only[mG];omega
  .rename_i hx;cases nl:j4 ft (rowOf ft.rowT ((zs.drop off).take inf.size))<;>simp only[nl,zyy,zyx] at h
   .cases h
   simp only[aB] at h;obtain⟨z,hz,rfl⟩:=h;have ct:=(AO (cap:=C.cap) (V:=⟨λ_ _=>none,λ_=>none⟩) hz nl).2.1;refine⟨_,rfl,e1,λm x' g ig hm gz hf=>?_,?_⟩
   .cases m with
    |zero=>simp only[l9] at hf;rw[hx] at hf;cases hf
    |succ m=>exact k2 m x' g ig (by simpa using hm) gz (by rwa [show i+(m+1)=i+1+m by omega] at hf)
   .have:=(Ty.sub_one _ _ ct).2;simp only[mG,dX,RD];omega
def amF (h:Inv C S O V own hv w0 σ0 A a w)(hC:CtxOK C σ0)(hg:holds gs O=true){zs:List Value}{parts:List (Nat×Operand)}(cells:Array Value):
 ∀(fs:List Field) (i off:Nat) (r:List AgC×List PE),nN C S gs zs parts fs i off=some r->
  (∀(m:Nat) (f:Field) (inf:TypeInfo),fs[m]?=some f->C.P.info? f.type=some inf->
        (∀x,parts.find? (λp=>Nat.beq p.1 (i+m))=some x->∀q,q<inf.size->cells[f.offset+q]?=(a.eval x.2).cells[q]?)/\
        (parts.find? (λp=>Nat.beq p.1 (i+m))=none->∀q,q<inf.size->cells[f.offset+q]?=zs[f.offset+q]?))->
  (PE.evc O r.2).length=r.1.length/\∀(m:Nat) (c:AgC),r.1[m]?=some c->sq C S V hv c (cells.getD (off+m) undef) ((PE.evc O r.2).getD m .none):=by
 intro fs
 induction fs with
 |nil=>intro i off r hr _;simp only[nN] at hr;cases hb:Nat.beq off zs.length<;>simp[hb] at hr;subst hr;simp[PE.evc]
 |cons f fs ih=>
  intro i off r hr aP;simp only[nN] at hr;split at hr
  case h_2=>cases hr
  rename_i inf ft hi ht;cases hc:(Nat.beq f.offset off&&Nat.beq inf.size ft.size)<;>simp only[hc,zyy,zyx] at hr
  .cases hr
  simp only[au] at hc;have jd:=aD hc.1;have aJ:=aD hc.2;simp only[az] at hr;obtain⟨q,hq,hr⟩:=hr
  obtain⟨l1,tw⟩:=ih (i+1) (off+inf.size) q hq (λm g aub hm gz=>by
   have:=aP (m+1) g aub (by simpa using hm) gz
   rwa [show i+(m+1)=i+1+m by omega] at this)
  obtain⟨hp,hn⟩:=aP 0 f inf rfl hi;have join:∀(l:List AgC) (v:Value) (d:D) (pe:PE),pe.ev O=d->l.length=inf.size->d.cells.length=inf.size->(∀m c,l[m]?=some c->sq C S V hv c (v.cells.getD m undef) (d.cells.getD m .none))->(∀m,m<inf.size->cells[f.offset+m]?=v.cells[m]?)->
        (PE.evc O (pe::q.2)).length=(l++q.1).length/\∀(m:Nat) (c:AgC),(l++q.1)[m]?=some c->sq C S V hv c (cells.getD (off+m) undef) ((PE.evc O (pe::q.2)).getD m .none):=by
   intro l v d pe oH f1 f2 f3 bh;simp only[PE.evc,oH];refine⟨by simp[f1,f2,l1],λm t' hm=>?_⟩;rw[mF] at hm;split at hm
   .rename_i af;have g2:=f3 m t' hm;have e1:cells.getD (off+m) undef=v.cells.getD m undef:=by
     rw[gp,gp,<-jd,bh m (by omega)]
    have e2:(d.cells++PE.evc O q.2).getD m .none=d.cells.getD m .none:=by
     rw[aH,aH,nH (by omega)]
    rw[e1,e2];exact g2
   .rename_i hZ;have g2:=tw _ t' hm;have e1:off+inf.size+(m-l.length)=off+m:=by omega
    have e2:(d.cells++PE.evc O q.2).getD m .none=(PE.evc O q.2).getD (m-l.length) .none:=by
     rw[aH,aH,nI (by omega)];rw[f1,<-f2]
    rw[e1] at g2;rw[e2];exact g2
  simp only[l9] at hp hn;split at hr
  .rename_i x hx;simp only[aB] at hr;obtain⟨y,hy,rfl⟩:=hr;obtain⟨g1,g2,g3⟩:=aiE h hC hg hy;exact join y.1 (a.eval x.2) (y.2.ev O) y.2 rfl (by rw[aiD hy,aJ]) (by rw[g2,aJ]) g3 (hp x hx)
  .rename_i hx;cases nl:j4 ft (rowOf ft.rowT ((zs.drop off).take inf.size))<;>simp only[nl,zyy,zyx] at hr
   .cases hr
   simp only[aB] at hr;obtain⟨z,hz,rfl⟩:=hr;obtain⟨k1,k2,k3⟩:=AO (cap:=C.cap) (V:=V) hz nl;have wk:(rowOf ft.rowT ((zs.drop off).take inf.size)).cells.size=inf.size:=by rw[k1.size,(Ty.sub_one _ _ k2).2,aJ]
   have je:z.1.rowT=true\/z.1.one=true:=by
        cases ft<;>simp[qv,sm] at hz<;>first|(subst hz;simp[Ty.one])|(obtain⟨_,_,rfl⟩:=hz;simp[Ty.rowT])
   obtain⟨z1,z2,z3⟩:=k1.flat je;have ez:z.1.size=inf.size:=by rw[(Ty.sub_one _ _ k2).2,aJ]
   refine join (z.1.flat.map .dat) (rowOf ft.rowT ((zs.drop off).take inf.size)) z.2 (.con z.2) rfl (by rw[dX,z1,ez]) (by rw[z2,ez]) (λm c hm=>?_) (λm hm=>?_)
   .simp only[cq,aB] at hm;obtain⟨t,ht,rfl⟩:=hm;exact z3 m t ht
   .rw[hn hx m hm,jd];cases wy:ft.rowT with
    |true=>simp[rowOf,Value.cells,iQ,jq,hm]
    |false=>
     rw[wy] at wk k1;have h1:(z.1).rowT=false:=by
       have:=(Ty.sub_one _ _ k2)
       cases ft<;>simp[Ty.rowT] at wy<;>simp[qv,sm] at hz<;>subst hz<;>rfl
     rw[k1.cells1 h1] at wk ⊢;simp at wk;have hm0:m=0:=by omega
     subst hm0;have:∃u,zs[off]?=some u:=⟨_,aY (show off<zs.length by have:=aca _ _ _ _ hq;omega)⟩
     simp[rowOf,aH,iQ,jq,<-wk];obtain⟨u,hu⟩:=this;simp[hu]
def afJ {P:Program}:∀(fs:List Field) (off:Nat),Laid P fs off->
 ∃l:List (Nat×Nat),fs.mapM (λf=>(P.info? f.type).map λi=>(f.offset,i.size))=some l/\l.length=fs.length/\
  ∀(i:Nat) (f:Field) (inf:TypeInfo),fs[i]?=some f->P.info? f.type=some inf->l[i]?=some (f.offset,inf.size)
 |[],_,_=>⟨[],rfl,rfl,by simp⟩
 |f::fs,off,h=>by
  obtain⟨h1,inf,h2,h3⟩:=h;obtain⟨l,k1,k2,k3⟩:=afJ fs _ h3;refine⟨(f.offset,inf.size)::l,?_,by simp[k2],λi g ig hi gz=>?_⟩
  .simp[abg,h2,k1]
  .cases i with
   |zero=>simp at hi;subst hi;rw[h2] at gz;cases gz;rfl
   |succ i=>simp at hi;simpa using k3 i g ig hi gz
def adi {parts:List (Nat×Operand)}(bp:(parts.map (·.1)).Nodup){i:Nat}{x:Operand}(h:(i,x)∈parts):parts.find? (λp=>Nat.beq p.1 i)=some (i,x):=by
 induction parts with
 |nil=>cases h
 |cons p ps ih=>
  simp only[iy,qE] at bp;rcases cv.1 h with e|hm
  .subst e;simp
  .have:¬p.1=i:=λe=>bp.1 (e▸A4 (f:=(·.1)) hm);rw[List.find?_cons_of_neg (by simpa using this)];exact ih bp.2 hm
def axH (h:Inv C S O V own hv w0 σ0 A a w)(hC:CtxOK C σ0)(hg:holds gs O=true){T:TypeId}{ps:Array (Nat×Operand)}{r:Sh×List PI}(hr:Vs C S gs dst T ps.toList=some r){o:Oper}(ho:o.op=.build T ps):
 eK C S O V hv Z dst a w o r:=by
 unfold Vs at hr;split at hr
 case h_2=>cases hr
 rename_i fs inf hT td;split at hr
 case h_2=>cases hr
 rename_i zs hz;cases hc:(kA (ps.toList.map (·.1))&&ps.toList.all (λp=>Nat.blt p.1 fs.size))<;>simp only[hc,zyy,zyx] at hr
 .cases hr
 simp only[au] at hc;obtain⟨bp,af⟩:=hc;simp only[aB] at hr;obtain⟨q,hq,rfl⟩:=hr;have L9:=amE _ _ _ _ hq;have nf:=rH bp;obtain⟨_,rfl,cg,atN,Sc⟩:=amD _ _ _ _ hq;obtain⟨pl,fJ,aJI,Gj⟩:=afJ _ _ L9
 have nj:∀p,p∈(ps.toList.map λ(x:Nat×Operand)=>(x.1,a.eval x.2))->∃o,pl.toArray[p.1]?=some (o,p.2.cells.size)/\o+p.2.cells.size<=zs.size:=by
  intro p hp;obtain⟨x,hx,rfl⟩:=cd.1 hp;have zB:x.1<fs.toList.length:=by
   have:=cM.1 af x hx;have h2:x.1<fs.size:=by simpa [qF] using this
   simpa using h2
  obtain⟨f,hf⟩:∃f,fs.toList[x.1]?=some f:=⟨_,aY zB⟩
  obtain⟨ig,gz,_,_⟩:=L9.get _ _ hf;have FZ:=adi nf (i:=x.1) (x:=x.2) hx;obtain⟨y,ft,hy,aJ⟩:=atN x.1 (x.1,x.2) f ig hf gz (by simpa using FZ);have wz:=(aiE h hC hg hy).1;rw[aJ] at wz;simp only;refine⟨f.offset,?_,?_⟩
  .rw[wz];simpa using Gj x.1 f ig hf gz
  .rw[wz];simpa using cg x.1 f ig hf gz
 have CG:∀(i j oi si oj sj:Nat),i≠j->pl.toArray[i]?=some (oi,si)->pl.toArray[j]?=some (oj,sj)->oi+si<=oj\/oj+sj<=oi:=by
  intro i j oi si oj sj ay hi hj;simp only[xT] at hi hj;obtain⟨f,hf⟩:∃f,fs.toList[i]?=some f:=⟨_,aY (by have:=(eO.1 hi).1;omega)⟩
  obtain⟨g,zc⟩:∃g,fs.toList[j]?=some g:=⟨_,aY (by have:=(eO.1 hj).1;omega)⟩
  obtain⟨ig,gz,_,asC⟩:=L9.get _ _ hf;obtain⟨jg,hjg,_,asD⟩:=L9.get _ _ zc;rw[Gj i f ig hf gz] at hi;rw[Gj j g jg zc hjg] at hj;cases hi;cases hj;rcases Jm i j with af|hZ
  .exact .inl (asC j g af zc)
  .exact .inr (asD i f (by omega) hf)
 obtain⟨db,f1,f2,f3,f4⟩:=Ru (pl.toArray[·]?) (ps.toList.map λ(x:Nat×Operand)=>(x.1,a.eval x.2)) zs nj CG (by simpa [I9] using nf)
 have aru:C.P.built T (ps.toList.map λ(x:Nat×Operand)=>(x.1,a.eval x.2))=some db:=by
  simp only[Program.built,td,hT,hz,fJ];exact f1
 have aq:(execOp a.eval o).run C.P w=.ok (.value (.agg db)) w:=by
  have:=run_build (P:=C.P) w T (ps.map λ(x:Nat×Operand)=>(x.1,a.eval x.2)) db (by rw[AR];exact aru);simp[execOp,ho,this]
 have y7:∀(m:Nat) (f:Field) (ig:TypeInfo),fs.toList[m]?=some f->C.P.info? f.type=some ig->
  (∀x,ps.toList.find? (λp=>Nat.beq p.1 (0+m))=some x->∀q,q<ig.size->db[f.offset+q]?=(a.eval x.2).cells[q]?)/\
  (ps.toList.find? (λp=>Nat.beq p.1 (0+m))=none->∀q,q<ig.size->db[f.offset+q]?=zs.toList[f.offset+q]?):=by
  intro m f ig hm gz;refine⟨λx hx p hp=>?_,λhx p hp=>?_⟩
  .have kU:x.1=m:=by have:=PF hx;simpa using this
   have C3:(x.1,a.eval x.2)∈(ps.toList.map λ(x:Nat×Operand)=>(x.1,a.eval x.2)):=cd.2 ⟨x,Er hx,rfl⟩;obtain⟨o',jc,hle⟩:=nj _ C3;simp only at jc hle;have aeO:=Gj m f ig hm gz;simp only[xT,kU] at jc;rw[aeO] at jc;simp only[bj,pz] at jc;obtain⟨e1,e2⟩:=jc;exact f3 x.1 (a.eval x.2) f.offset C3 (by simp[kU,aeO,<-e2]) p (by omega)
  .have pR:m∉(ps.toList.map λ(x:Nat×Operand)=>(x.1,a.eval x.2)).map (·.1):=by
        intro cV;simp only[nJ,cd,I9] at cV;obtain⟨x,C3,e⟩:=cV;have:=xS.1 hx x C3;simp[e] at this
   rw[f4 m f.offset ig.size pR (by simpa using Gj m f ig hm gz) p hp];simp
 obtain⟨l1,aP⟩:=amF h hC hg db _ _ _ _ hq y7;have CE:db=db.toList.toArray:=by simp
 have hlen:db.toList.length=q.1.length:=by simp[f2] at Sc ⊢;omega
 have uL:∀(i:Nat) (c:AgC),q.1[i]?=some c->sq C S V hv c (db.toList.getD i undef) ((PE.evc O q.2).getD i .none):=λi c hi=>by
  have:=aP i c hi;simpa [gp,aH] using this
 cases R8:q.1.all afo
 .simp only[zyx];exact λO' pV=>⟨_,_,xq pV,aq,⟨db.toList,PE.evc O q.2,by rw[<-CE],by simp only[PE.ev],hlen,l1,uL⟩,λ_ _ e=>by cases e⟩
 .simp only[zyy];refine .dat aq ?_;simp only[PE.ev];rw[CE]
  have rl:∀(i:Nat) (t:Ty),(q.1.map AgC.ty)[i]?=some t->t.one=true/\Rep C.cap V t (db.toList.getD i undef) ((PE.evc O q.2).getD i .none):=λi t hi=>by
   simp only[cq,aB] at hi;obtain⟨c,hc,rfl⟩:=hi;have h1:=uL i c hc;have h2:=cM.1 R8 c (j9 hc);cases c with
   |dat t=>exact h1
   |obj j ver=>cases h2
  exact .agg _ _ _ (by rw[dX];exact hlen) (by rw[dX];exact l1) (λi t hi=>(rl i t hi).2) (λi t hi=>(rl i t hi).1)
end
def as0 (b i:Nat):Nat:=4096*(i+1)+b
def St.fz (S:St)(j:Nat):St:=
 match S.o j with
 |.row _ e=>S.setO j (.fz (.slice e.rol))
 |.mp k e=>S.setO j (.fz (.map k e))
 |_=>S
def FB (S:St)(b:Nat):Option (St×List PI):=
 match S.o b with
 |.box ag shs=>
  (yo S (.o b) shs 0).bind λx=>
    bif ag then some (S.setO b (.fbox (.agg x.1)),[.setO b (.mk x.2)])
    else match x.1,x.2 with
     |[t],[e]=>some (S.setO b (.fbox t),[.setO b e])
     |_,_=>Option.none
 |_=>Option.none
def St.mv (S:St)(j j':Nat):St:=
 {S with o:=bZ (bZ S.o j' (S.o j)) j .dead,ver:=bZ (bZ S.ver j' (S.ver j'+1)) j (S.ver j+1)}
def p6:Ob->Bool
 |.row ..=>true
 |.mp ..=>true
 |_=>false
def ID (S:St)(t j':Nat):Option (St×List PI):=
 match S.r t with
 |.obj j ver=>
  bif Nat.beq ver (S.ver j)&&p6 (S.o j)&& !Nat.beq j j' then some ((S.mv j j').setR t (.obj j' (S.ver j'+1)),[.setO j' (.o j)])
  else some (S,[])
 |_=>some (S,[])
def azV (S:St)(b i j':Nat):Option (St×List PI):=none
def Gg (C:Ctx)(S:St)(b i j:Nat)(T:TypeId):Option (St×List PI):=
 match S.o b with
 |.box ag shs=>
  match shs[i]?,qu C.P T with
  |some (.dat (.nils _)),some e=>
   bif !Nat.beq b j then some ((S.newO j (.row T e)).setO b (.box ag (shs.set i (.obj j (S.ver j+1)))),[.setO j (.con (.list []))])
   else some (S,[])
  |_,_=>some (S,[])
 |_=>some (S,[])
section
variable {C:Ctx} {S:St} {O:Env} {V:Im} {own:Nat->Option Nat} {hv:Nat->Value} {w0:World} {σ0:Base} {A:Nat->Prop} {a:Act} {w:World} {gs:List (Nat×Bool)} {Z:aO} {dst:Nat}
def Inv.lt (h:Inv C S O V own hv w0 σ0 A a w){k o:Nat}{u:Value}(hc:V.c k o=some u):k<w.heap.size:=World.block_lt_of_cell? w (a:=⟨k,o,none⟩) (h.ok.c _ _ _ hc)
def Inv.ltm (h:Inv C S O V own hv w0 σ0 A a w){k:Nat}{es:List (Value×Value)}(hc:V.m k=some es):k<w.heap.size:=by
 exact(h.ok.m _ _ hc).lt
def akq {w:World}{k:Nat}{c:Array Value}{T:TypeId}(h:w.heap[k]?=some (.cells c T (0,0)))(o:Nat):w.frozen? ⟨k,o,none⟩=false:=by simp[World.frozen?,h]
def aiz {w:World}{base:Nat}{e:TypeId}{size:Nat}{v:Value}{n:Nat}{xs:List Value}(h:w.ownsRow base e size v n xs){g:Nat}(hg:v.ownBlock=some g)(o:Nat):w.frozen? ⟨g,o,none⟩=false:=by
 rcases h.2 with⟨rfl,_⟩|⟨g',cap,cur,rfl,_,h3,_⟩
 .cases hg
 .cases hg;exact akq h3 o
def aiy {w:World}{base:Nat}{e:TypeId}{size:Nat}{v:Value}{n:Nat}{xs:List Value}(h:w.ownsRow base e size v n xs){g:Nat}(hg:v.ownBlock=some g):∃cs T fz,w.heap[g]?=some (.cells cs T fz):=by
 rcases h.2 with⟨rfl,_⟩|⟨g',cap,cur,rfl,_,h3,_⟩
 .cases hg
 .cases hg;exact⟨_,_,_,h3⟩
def Im.ok.fz {V:Im}{w w':World}(h:V.ok w)(hk:∀k o v,V.c k o=some v->w'.heap[k]?=w.heap[k]?):∀k o n,V.c k o=some (.int .i64 n)->k<=2\/w'.frozen? ⟨k,o,none⟩=false:=λk o n hc=>by
 rw[World.frozen?_of_block (w:=w) (hk k o _ hc)];exact h.f k o n hc
def Im.ok.below {V:Im}{w w':World}(h:V.ok w)(hb:Below w.heap.size w w'):V.ok w':=by
 refine⟨λk o v hc=>?_,λk es hc=>?_,h.fz λk o v hc=>hb.block k (World.block_lt_of_cell? w (a:=⟨k,o,none⟩) (h.c k o v hc))⟩
 .have h1:=h.c k o v hc;rw[hb.cell (World.block_lt_of_cell? w (a:=⟨k,o,none⟩) h1)];exact h1
 .exact(h.m k es hc).keep (hb.block k (h.m k es hc).lt)
def fM (own:Nat->Option Nat)(j:Nat)(nb:Nat->Bool):Nat->Option Nat:=λk=>if nb k then some j else if own k=some j then none else own k
def Inv.newOσ (h:Inv C S O V own hv w0 σ0 A a w)(j:Nat)(ob:Ob)(d:D)(v:Value)(nb:Nat->Bool){V':Im}{w':World}(hle:V.le V')(ax:V'.ok w')(dD:∀k o x,V'.c k o=some x->V.c k o=some x\/w.heap.size<=k)(cY:∀k x,V'.m k=some x->V.m k=some x\/w.heap.size<=k)
 (hw:Below w.heap.size w w') (dP:∀k,nb k=true->w.heap.size<=k/\k<w'.heap.size) (eE:∀k,nb k=true->(∀o,V'.c k o=none)/\V'.m k=none)
 (cQ:cf C (S.newO j ob) (O.setO j d) V' (fM own j nb) (bZ hv j v) w' w0.heap.size j ob) (oG:ob≠.tr:=by intro h;cases h):Inv C (S.newO j ob) (O.setO j d) V' (fM own j nb) (bZ hv j v) w0 σ0 A a w':=by
 have aJ:w0.heap.size<=w.heap.size:=h.below.size;have bB:∀k i,i≠j->own k=some i->fM own j nb k=some i:=by
  intro k i hi hk;have h1:=h.owns k i hk;have h2:nb k=false:=by
   cases hn:nb k with
   |false=>rfl
   |true=>have:=dP k hn;omega
  simp[fM,h2,hk,hi]
 refine h.step (λi=>i=j) rfl hle ax (λk o x hx=>(dD k o x hx).imp id λe=>⟨by omega,.inr e⟩) (λk x hx=>(cY k x hx).imp id λe=>⟨by omega,.inr e⟩) (hw.mono aJ) ⟨λi=>?_,λi e=>?_⟩ (λi hi=>⟨?_,?_,?_,λk hk=>⟨bB k i hi hk,?_⟩⟩) (λi hi=>?_) (λk i hk=>?_) (λ_=>id) (λt=>.inl ⟨rfl,rfl,rfl⟩) (λ_ _=>rfl) (λk hk _=>hw.block k hk) (λk i hk=>by
  unfold fM at hk;split at hk
  .rename_i hn;exact .inr (dP k hn).1
  .split at hk
   .cases hk
   .exact .inl ⟨i,hk⟩) (λi hi=>by subst hi;simpa only[St.newO,aS] using oG)
 .simp only[St.newO,fq];split<;>rename_i e
  .subst e;omega
  .omega
 .simp only[St.newO,fq] at e;split at e
  .rename_i e';subst e';omega
  .rename_i ay;exact bJ _ _ ay
 .simp[St.newO,bJ _ _ hi]
 .simp[Env.setO,bJ _ _ hi]
 .exact bJ _ _ hi
 .exact hw.block k (h.owns k i hk).2.1
 .subst hi;simp only[St.newO,aS];exact cQ
 .unfold fM at hk;split at hk
  .rename_i hn;obtain⟨g1,g2⟩:=dP k hn;exact⟨by omega,g2,(eE k hn).1,(eE k hn).2⟩
  .split at hk
   .cases hk
   .obtain⟨g1,g2,g3,g4⟩:=h.owns k i hk;refine⟨g1,by have:=hw.size;omega,λo=>?_,?_⟩
    .cases hc:V'.c k o with
     |none=>rfl
     |some u=>
      rcases dD k o u hc with e|e
      .rw[g3 o] at e;cases e
      .omega
    .cases hc:V'.m k with
     |none=>rfl
     |some u=>
      rcases cY k u hc with e|e
      .rw[g4] at e;cases e
      .omega
def Inv.newO (h:Inv C S O V own hv w0 σ0 A a w)(j:Nat)(ob:Ob)(d:D)(v:Value)(nb:Nat->Bool){w':World}(hw:Below w.heap.size w w')(dP:∀k,nb k=true->w.heap.size<=k/\k<w'.heap.size)
 (cQ:cf C (S.newO j ob) (O.setO j d) V (fM own j nb) (bZ hv j v) w' w0.heap.size j ob) (oG:ob≠.tr:=by intro h;cases h):Inv C (S.newO j ob) (O.setO j d) V (fM own j nb) (bZ hv j v) w0 σ0 A a w':=by
 refine h.newOσ j ob d v nb (.refl V) (h.ok.below hw) (λ_ _ _ hx=>.inl hx) (λ_ _ hx=>.inl hx) hw dP (λk hn=>⟨λo=>?_,?_⟩) cQ oG
 .cases hc:V.c k o with
  |none=>rfl
  |some u=>have:=h.lt hc;have:=(dP k hn).1;omega
 .cases hc:V.m k with
  |none=>rfl
  |some u=>have:=h.ltm hc;have:=(dP k hn).1;omega
def Inv.setObj (h:Inv C S O V own hv w0 σ0 A a w){t j:Nat}(ht:¬A t){v:Value}(eV:hv j=v)(af:t<a.tmps.size):
 Inv C (S.setR t (.obj j (S.ver j))) (O.setR t .none) V own hv w0 σ0 (λu=>A u\/u=t) (a.put (some t) v) w:=
 h.setReg ht (s:=.obj j (S.ver j)) (v:=v) (d:=.none) ⟨aZ _,λ_=>eV.symm⟩ af (λ_ _ e=>by cases e)
def Ls (S:St)(j:Nat):(S.fz j).ver=S.ver/\(S.fz j).r=S.r:=by
 unfold St.fz;split<;>exact⟨rfl,rfl⟩
def Inv.fz (h:Inv C S O V own hv w0 σ0 A a w)(j:Nat):∃V' own',V.le V'/\Inv C (S.fz j) O V' own' hv w0 σ0 A a w:=by
 have bt:=h.objs j;unfold St.fz;split
 .rename_i T e eo;rw[eo] at bt;obtain⟨cells,xs,h1,h2,⟨vs,h3,h4⟩,h5⟩:=bt;have aJ:w0.heap.size<=w.heap.size:=h.below.size
  let nb:Nat->Bool:=λk=>decide ((hv j).ownBlock=some k)
  let V':Im:={c:=λk o=>if nb k then cells[o]? else V.c k o,m:=λk=>if nb k then some mB else V.m k}
  have dP:∀k,nb k=true->own k=some j:=λk hk=>h5 k (by simpa [nb] using hk);have hle:V.le V':=by
   refine⟨λk o v hc=>?_,λk es hc=>?_⟩
   .have:nb k=false:=by
     cases hn:nb k with
     |false=>rfl
     |true=>have:=(h.owns k j (dP k hn)).2.2.1 o;rw[this] at hc;cases hc
    simp[V',this,hc]
   .have:nb k=false:=by
     cases hn:nb k with
     |false=>rfl
     |true=>have:=(h.owns k j (dP k hn)).2.2.2;rw[this] at hc;cases hc
    simp[V',this,hc]
  refine⟨V',λk=>if nb k then none else own k,hle,h.step (λi=>i=j) rfl hle ?_ (λk o x hx=>?_) (λk x hx=>?_) (.refl _ _) ⟨λ_=>aZ _,λ_ _=>rfl⟩ (λi hi=>⟨?_,rfl,rfl,λk hk=>⟨?_,rfl⟩⟩) (λi hi=>?_) (λk i hk=>?_) (λ_=>id) (λt=>.inl ⟨rfl,rfl,rfl⟩) (λ_ _=>rfl) (λ_ _ _=>rfl) (λk i hk=>by
        split at hk
        .cases hk
        .exact .inl ⟨i,hk⟩) (λi hi=>by subst hi;simp[St.setO,aS])⟩
  .refine⟨λk o v hc=>?_,λk es hc=>?_,λk o v hc=>?_⟩
   all_goals simp only[V'] at hc
   all_goals split at hc
   .rename_i hn;have cQ:(hv j).ownBlock=some k:=by simpa [nb] using hn
    have:=h2.cells cQ o v hc;rw[uu] at this;simpa using this
   .exact h.ok.c k o v hc
   .rename_i hn;cases hc;obtain⟨cs,T,fz,e⟩:=aiy h2 (g:=k) (by simpa [nb] using hn);exact .inr (.inr ⟨rfl,cs,T,fz,e⟩)
   .exact h.ok.m k es hc
   .rename_i hn;exact .inr (aiz h2 (by simpa [nb] using hn) o)
   .exact h.ok.f k o v hc
  .simp only[V'] at hx;split at hx
   .rename_i hn;exact .inr ⟨(h.owns k j (dP k hn)).1,.inl ⟨j,dP k hn⟩⟩
   .exact .inl hx
  .simp only[V'] at hx;split at hx
   .rename_i hn;exact .inr ⟨(h.owns k j (dP k hn)).1,.inl ⟨j,dP k hn⟩⟩
   .exact .inl hx
  .simp[St.setO,bJ _ _ hi]
  .have:nb k=false:=by
        cases hn:nb k with
        |false=>rfl
        |true=>rw[dP k hn] at hk;simp at hk;exact absurd hk.symm hi
   simp[this,hk]
  .subst hi;simp only[St.setO,aS];refine⟨rfl,?_⟩;rw[h1];rcases h2.2 with⟨e1,e2⟩|⟨g,cap,cur,e1,e2,e3,e4,e5,e6,e7⟩
   .rw[e1];have:xs=[]:=Pz e2;subst this;exact .nil _
   .rw[e1];refine .slice e.rol g 0 xs.length cap xs vs rfl e4 e5 (λi x hx=>((h3 i x hx).mono hle).unf_rol) (λi m u hi hu=>?_) (λ_=>by simp[V',nb,e1,Value.ownBlock]);rw[Ty.rol_size];have hn:nb g=true:=by simp[nb,e1,Value.ownBlock]
    simp only[V',hn,if_true,ke];exact h4 i m u hi hu
  .split at hk
   .cases hk
   .rename_i hn;obtain⟨g1,g2,g3,g4⟩:=h.owns k i hk;exact⟨g1,g2,λo=>by simp[V',hn,g3 o],by simp[V',hn,g4]⟩
 .rename_i kt et eo;rw[eo] at bt;obtain⟨k0,arr,clock,gY,h1,h2,h3,h4,h5,⟨hx,_⟩,h6⟩:=bt;have aJ:w0.heap.size<=w.heap.size:=h.below.size
  let V':Im:={c:=V.c,m:=λk=>if k=k0 then some (entriesOf arr) else V.m k}
  have hle:V.le V':=by
   refine⟨λk o v hc=>hc,λk es hc=>?_⟩;have:k≠k0:=λe=>by subst e;rw[(h.owns k j h2).2.2.2] at hc;cases hc
   simp[V',this,hc]
  refine⟨V',λk=>if k=k0 then none else own k,hle,h.step (λi=>i=j) rfl hle ?_ (λk o x hx=>.inl hx) (λk x hx=>?_) (.refl _ _) ⟨λ_=>aZ _,λ_ _=>rfl⟩ (λi hi=>⟨?_,rfl,rfl,λk hk=>⟨?_,rfl⟩⟩) (λi hi=>?_) (λk i hk=>?_) (λ_=>id) (λt=>.inl ⟨rfl,rfl,rfl⟩) (λ_ _=>rfl) (λ_ _ _=>rfl) (λk i hk=>by
        split at hk
        .cases hk
        .exact .inl ⟨i,hk⟩) (λi hi=>by subst hi;simp[St.setO,aS])⟩
  .refine⟨h.ok.c,λk es hc=>?_,h.ok.f⟩;simp only[V'] at hc;split at hc
   .rename_i e;subst e;cases hc;refine .inl ⟨λe=>?_,arr,clock,h3,rfl⟩;refine GZ (cap:=C.cap) (V:=V) (kt:=kt) (es:=gY) (by simp[entriesOf,h5]) (λi p q hp hq=>?_) e;simp only[entriesOf,cq,aB] at hp;obtain⟨x,da,rfl⟩:=hp;exact(h6 i x q (by simpa using da) hq).1
   .exact h.ok.m k es hc
  .simp only[V'] at hx;split at hx
   .rename_i e;subst e;exact .inr ⟨(h.owns k j h2).1,.inl ⟨j,h2⟩⟩
   .exact .inl hx
  .simp[St.setO,bJ _ _ hi]
  .have:k≠k0:=λe=>by subst e;rw[h2] at hk;simp at hk;exact hi hk.symm
   simp[this,hk]
  .subst hi;simp only[St.setO,aS];refine⟨rfl,?_⟩;rw[h1,h4];refine .map kt et k0 (entriesOf arr) gY (by simp[V']) (by simp[entriesOf,h5]) hx (λi p q hp hq=>?_) (λi p q hp hq=>?_)
   .simp only[entriesOf,cq,aB] at hp;obtain⟨e,he,rfl⟩:=hp;exact((h6 i e q (by simpa using he) hq).1).mono hle
   .simp only[entriesOf,cq,aB] at hp;obtain⟨e,he,rfl⟩:=hp;exact((h6 i e q (by simpa using he) hq).2).mono hle
  .split at hk
   .cases hk
   .rename_i hn;obtain⟨g1,g2,g3,g4⟩:=h.owns k i hk;exact⟨g1,g2,g3,by simp[V',hn,g4]⟩
 .exact⟨V,own,.refl V,h⟩
end
end Cx
