/-
  Shared texts of this claim.
-/
import Derived.Test.YtefchokhgdmamaaGreatDoorMAA
import Derived.ChangeKeysEq
import Derived.Laws.Tables
set_option linter.defProp false
set_option linter.unusedSimpArgs false
set_option linter.unusedVariables false
namespace Cx
open Go Go.RowKit
def Rep.int_inv {cap:Nat->Option CSig}{V:Im}{k:IntKind}{v:Value}{d:D}(h:Rep cap V (.int k) v d):∃n,v=.int k n/\d=.v (.int k n)/\k.min<=n/\n<=k.max:=by
 cases h with
 |int k n h1 h2=>exact⟨n,rfl,rfl,h1,h2⟩
def Rep.bool_inv {cap:Nat->Option CSig}{V:Im}{v:Value}{d:D}(h:Rep cap V .bool v d):∃b,v=.bool b/\d=.v (.bool b):=by
 cases h with
 |bool b=>exact⟨b,rfl,rfl⟩
def Rep.str_inv {cap:Nat->Option CSig}{V:Im}{v:Value}{d:D}(h:Rep cap V .str v d):∃s,v=.string s/\d=.v (.string s)/\s.size<=maxLen:=by
 cases h with
 |str s h=>exact⟨s,rfl,rfl,h⟩
def Rep.slice_inv {cap:Nat->Option CSig}{V:Im}{e:Ty}{v:Value}{d:D}(h:Rep cap V (.slice e) v d):∃xs,d=.list xs/\
 (((∃p,v=.slice p 0 0)/\xs=[])\/∃k o c,v=.slice (some ⟨k,o,none⟩) xs.length c/\xs.length<=c/\c<=maxLen/\
   ∃vs:Nat->Value,(∀(i:Nat) (x:D),xs[i]?=some x->Rep cap V e.unf (vs i) x)/\∀(i j:Nat) (u:Value),i<xs.length->(vs i).cells[j]?=some u->V.c k (o+i*e.size+j)=some u):=by
 cases h with
 |nil e=>exact⟨[],rfl,.inl ⟨⟨_,rfl⟩,rfl⟩⟩
 |emp e a=>exact⟨[],rfl,.inl ⟨⟨_,rfl⟩,rfl⟩⟩
 |slice e k o n c xs vs hn hc hm h hv=>subst hn;exact⟨xs,rfl,.inr ⟨k,o,c,rfl,hc,hm,vs,h,hv⟩⟩
def Rep.ref_inv {cap:Nat->Option CSig}{V:Im}{t:Ty}{v:Value}{d:D}(h:Rep cap V (.ref t) v d):∃k o x y,v=.pointer (some ⟨k,o,none⟩)/\d=.ref y/\Rep cap V t x y/\∀(j:Nat) (u:Value),x.cells[j]?=some u->V.c k (o+j)=some u:=by
 cases h with
 |ref t k o x y h hv=>exact⟨k,o,x,y,rfl,rfl,h,hv⟩
def Rep.agg_inv {cap:Nat->Option CSig}{V:Im}{ts:List Ty}{v:Value}{d:D}(h:Rep cap V (.agg ts) v d):∃(vs:List Value) (ds:List D),v=.agg vs.toArray/\d=.agg ds/\vs.length=ts.length/\ds.length=ts.length/\
 (∀(i:Nat) (t:Ty),ts[i]?=some t->Rep cap V t (vs.getD i undef) (ds.getD i .none))/\∀(i:Nat) (t:Ty),ts[i]?=some t->t.one=true:=by
 cases h with
 |agg ts vs ds h1 h2 h ho=>exact⟨vs,ds,rfl,rfl,h1,h2,h,ho⟩
def Rep.tup_inv {cap:Nat->Option CSig}{V:Im}{ts:List Ty}{v:Value}{d:D}(h:Rep cap V (.tup ts) v d):∃(vs:List Value) (ds:List D),v=.tuple vs.toArray/\d=.tup ds/\vs.length=ts.length/\ds.length=ts.length/\
 (∀(i:Nat) (t:Ty),ts[i]?=some t->Rep cap V t (vs.getD i undef) (ds.getD i .none)):=by
 cases h with
 |tup ts vs ds h1 h2 h=>exact⟨vs,ds,rfl,rfl,h1,h2,h⟩
def tp (k:IntKind)(n:Int):k.min<=k.wrap n/\k.wrap n<=k.max:=by
 cases k<;>simp only[IntKind.min,IntKind.max,IntKind.wrap,IntKind.signed,IntKind.bits]<;>simp<;>(try split)<;>omega
def agx (k:IntKind){a b:Int}(ha:k.min<=a/\a<=k.max):k.min<=a.tmod b/\a.tmod b<=k.max:=by
 have h1:k.min<=0:=by cases k<;>decide
 have h2:0<=k.max:=by cases k<;>decide
 have hn:(a.tmod b).natAbs<=a.natAbs:=by rw[Int.natAbs_tmod];exact Nat.mod_le _ _
 rcases Int.le_total 0 a with h|h
 .have:=Int.tmod_nonneg b h;omega
 .have:a.tmod b<=0:=by
   have:=Int.tmod_nonneg b (a:=-a) (by omega);rw[Int.neg_tmod] at this;omega
  omega
def Zd (k:IntKind){a:Int}(n:Nat)(ha:k.min<=a/\a<=k.max):k.min<=a.fdiv (2^n)/\a.fdiv (2^n)<=k.max:=by
 have h1:k.min<=0:=by cases k<;>decide
 have h2:0<=k.max:=by cases k<;>decide
 have hp:(0:Int)<2^n:=Int.pow_pos (by decide);rw[ahG _ (by omega)];rcases Int.le_total 0 a with h|h
 .have h3:=Int.ediv_nonneg h (by omega:(0:Int)<=2^n);have h4:=Int.ediv_le_self (b:=2^n) h;omega
 .have h3:a/2^n<=0:=by
   have:=Int.ediv_le_ediv hp h;simpa using this
  have h4:a<=a/2^n:=by
   rw[Int.le_ediv_iff_mul_le hp];have:a*2^n<=a*1:=Int.mul_le_mul_of_nonpos_left h (by omega);omega
  omega
section
variable {C:Ctx} {S:St} {O:Env} {V:Im} {own:Nat->Option Nat} {hv:Nat->Value} {w0:World} {σ0:Base} {A:Nat->Prop} {a:Act} {w:World} {gs:List (Nat×Bool)} {Z:aV} {dst:Nat}
def u7 {e:PE}{O':Env}(h:PI.runs Z [.setR dst e] O=some O'):O'=O.setR dst (e.ev O):=by
 simp[PI.runs,PI.run] at h;exact h.symm
def UK (hg:holds gs O=true){c e:PE}{O':Env}(h:PI.runs Z [rT gs c,.setR dst e] O=some O'):(c.ev O).b=true/\O'=O.setR dst (e.ev O):=by
 simp only[PI.runs,PI.run,rT] at h;cases eK:gs with
 |nil=>
  subst eK;simp only at h;cases hb:(c.ev O).b<;>simp[hb] at h;exact⟨rfl,h.symm⟩
 |cons g r=>
  rw[eK] at h;simp only at h;rw[eK] at hg;cases hb:(c.ev O).b
  .simp[PE.ev,hg,hb,D.b_bool] at h
  .simp[PE.ev,hg,hb,D.b_bool] at h;exact⟨rfl,h.symm⟩
def fm (C:Ctx)(S:St)(O:Env)(V:Im)(hv:Nat->Value)(Z:aV)(dst:Nat)(a:Act)(w:World)(o:Oper)(r:Sh×List PI):Prop:=
 ∀O',PI.runs Z r.2 O=some O'->∃v d,O'=O.setR dst d/\(execOp a.eval o).run C.P w=.ok (.value v) w/\aK C S O V hv r.1 v d/\∀gs s,r.1≠.opt gs s
def fm.dat {o:Oper}{t:Ty}{e:PE}{v:Value}(hx:(execOp a.eval o).run C.P w=.ok (.value v) w)(hr:Rep C.cap V t v (e.ev O)):
 fm C S O V hv Z dst a w o (.dat t,[.setR dst e]):=by
 intro O' h;exact⟨v,e.ev O,u7 h,hx,hr,λ_ _ e=>by cases e⟩
def fm.datc (hg:holds gs O=true){o:Oper}{t:Ty}{c e:PE}(hx:(c.ev O).b=true->∃v,(execOp a.eval o).run C.P w=.ok (.value v) w/\Rep C.cap V t v (e.ev O)):
 fm C S O V hv Z dst a w o (.dat t,[rT gs c,.setR dst e]):=by
 intro O' h;obtain⟨hb,he⟩:=UK hg h;obtain⟨v,h1,h2⟩:=hx hb;exact⟨v,e.ev O,he,h1,h2,λ_ _ e=>by cases e⟩
def aef (h:Inv C S O V own hv w0 σ0 A a w)(hC:CtxOK C σ0)(hg:holds gs O=true){x:Operand}{r:Sh×List PI}(hr:re C S gs dst x=some r){o:Oper}(ho:o.op=.move x\/o.op=.assign x):
 fm C S O V hv Z dst a w o r:=by
 have hx:(execOp a.eval o).run C.P w=.ok (.value (a.eval x)) w:=by rcases ho with ho|ho<;>simp[execOp,ho,Sem.run,pure]
 unfold re at hr;split at hr
 .rename_i y hy;cases hr;exact .dat hx (cQ h hC hg hy)
 .split at hr
  .rename_i t _;obtain⟨hs,hn⟩:=nQ h hg t;split at hr
   .cases hr
   .cases hr
   .cases hr;intro O' h';exact⟨_,_,u7 h',hx,hs,hn⟩
  .cases hr
def arZ (h:Inv C S O V own hv w0 σ0 A a w)(hC:CtxOK C σ0)(hg:holds gs O=true){c x y:Operand}{r:Sh×List PI}(hr:Cm C S gs dst c x y=some r){o:Oper}(ho:o.op=.pick c x y):
 fm C S O V hv Z dst a w o r:=by
 unfold Cm at hr;split at hr
 .rename_i t;split at hr
  .rename_i es;obtain⟨hs,_⟩:=nQ h hg t;rw[es] at hs;obtain⟨b,aQ,bm⟩:=Rep.bool_inv hs;simp only[aw] at hr;obtain⟨q1,h1,q2,h2,hr⟩:=hr;cases hb:Ty.beq q1.1 q2.1<;>simp only[hb,zyx,zyw] at hr
   .cases hr
   .cases hr;have e2:=Ty.beq_eq _ _ hb;have ao:(execOp a.eval o).run C.P w=.ok (.value (if b then a.eval x else a.eval y)) w:=by
     have:a.eval (.tmp t)=.bool b:=aQ;simp[execOp,ho,this,asBool,Sem.run,pure,bind,Sem.bind]
    refine .dat ao ?_;show Rep C.cap V q1.1 _ (bif (O.r t).b then q1.2.ev O else q2.2.ev O);have eA:(O.r t).b=b:=by rw[bm];rfl
    cases b with
    |true=>
     simp only[eA,zyx,if_true];exact cQ h hC (by simp only[holds,rG,eA];exact hg) h1
    |false=>
     simp only[eA,zyw];rw[e2];exact cQ h hC (by simp only[holds,rG,eA];exact hg) h2
  .cases hr
 .cases hr
def M5 {op:BinOp}{T T':TypeId}{x y:Operand}{v v':Value}{o:Oper}(ho:o.op=.binOp op T x y T')(hv:a.eval x=v)(hv':a.eval y=v')(h1:∀u,v≠.agg u)(h2:v≠.nilIface):
 (execOp a.eval o).run C.P w=((binOp op T v v').bind λr=>.pure (.value r)).run C.P w:=by
 have he:eqGuard op T x y v v'=.pure ():=by
  cases v<;>first|(exact absurd rfl h2)|(exact absurd rfl (h1 _))|(cases op<;>simp[eqGuard]<;>rfl)
 simp only[execOp,ho,hv,hv',he];rfl
def YZ {P:Program}{cap:Nat->Option CSig}{V:Im}{O:Env}{x y:PE}(w:World)(d:Nat){t:Ty}{T:TypeId}{v u:Value}{e:PE}(hk:nG P T t=true)(he:xZ t x y=some e)(g1:Rep cap V t v (x.ev O))(g2:Rep cap V t u (y.ev O)):
 ∃b,e.ev O=.v (.bool b)/\(Op.equalIn (d+1) T v u).run P w=.ok b w:=by
 cases t with
 |int k=>
  obtain⟨n,v1,d1,_⟩:=g1.int_inv;obtain⟨m,v2,d2,_⟩:=g2.int_inv;simp only[xZ,aS] at he;subst he;have hu:∃k',P.underlying T=some (.int k'):=by
   simp only[nG] at hk;split at hk
   .exact⟨_,by assumption⟩
   .cases hk
  obtain⟨k',hu⟩:=hu;exact⟨n==m,by simp only[PE.ev,d1,d2];rfl,by rw[v1,v2];exact run_equalIn_int w d T k k' n m hu⟩
 |bool=>
  obtain⟨n,v1,d1⟩:=g1.bool_inv;obtain⟨m,v2,d2⟩:=g2.bool_inv;simp only[xZ,aS] at he;subst he;have hu:P.underlying T=some .bool:=by
   simp only[nG] at hk;split at hk
   .assumption
   .cases hk
  exact⟨n==m,by simp only[PE.ev,d1,d2];rfl,by rw[v1,v2];exact run_equalIn_bool' w d T n m hu⟩
 |str=>
  obtain⟨n,v1,d1,_⟩:=g1.str_inv;obtain⟨m,v2,d2,_⟩:=g2.str_inv;simp only[xZ,aS] at he;subst he;have hu:P.underlying T=some .string:=by
   simp only[nG] at hk;split at hk
   .assumption
   .cases hk
  exact⟨n.toList==m.toList,by simp only[PE.ev,d1,d2];rfl,by rw[v1,v2];exact run_equalIn_string w d T n m hu⟩
 |_=>simp[xZ] at he
def akr {P:Program}{cap:Nat->Option CSig}{V:Im}{O:Env}{x y:PE}{X Y:List D}(w:World)(hx:x.ev O=.agg X)(hy:y.ev O=.agg Y){vs us:List Value}(b d:Nat):
 ∀(fs:List Field) (i:Nat) (ts:List Ty) (e:PE),xX P x y b fs i ts=some e->(∀j t,ts[j]?=some t->Rep cap V t (vs.getD (i+j) undef) (X.getD (b+i+j) .none)/\Rep cap V t (us.getD (i+j) undef) (Y.getD (b+i+j) .none))->
  i+ts.length<=vs.length->i+ts.length<=us.length->
  ∃b,e.ev O=.v (.bool b)/\(Op.eqFields (d+1) vs.toArray us.toArray fs).run P w=.ok b w:=by
 intro fs
 induction fs with
 |nil=>
  intro i ts e h _ _ _;cases ts with
  |nil=>simp only[xX,aS] at h;subst h;exact⟨true,rfl,rfl⟩
  |cons t ts=>simp[xX] at h
 |cons f fs ih=>
  intro i ts e h hr l1 l2;cases ts with
  |nil=>simp[xX] at h
  |cons t ts=>
   simp only[xX] at h;cases hc:((f.name != "_")&&Nat.beq f.offset i&&nG P f.type t&&P.plainKey f.type)<;>simp only[hc,zyx,zyw] at h
   .cases h
   simp only[aq,bne_iff_ne,ne_eq] at hc;obtain⟨⟨⟨hn,ho⟩,hk⟩,hp⟩:=hc;have ho:=aA ho;simp only[aw,aC] at h;obtain⟨e1,kL,r,nA,rfl⟩:=h
   obtain⟨b2,bC,Ff⟩:=ih (i+1) ts r nA (λj t hj=>by
        have:=hr (j+1) t (by simpa using hj)
        rwa [show i+(j+1)=i+1+j by omega,show b+i+(j+1)=b+(i+1)+j by omega] at this) (by simp at l1;omega) (by simp at l2;omega)
   obtain⟨g1,g2⟩:=hr 0 t rfl;rw[iZ,iZ] at g1 g2;simp only[mA] at l1 l2;have wq:vs.toArray[f.offset]?=some (vs.getD i undef):=by rw[ho];simp[aN,show i<vs.length by omega]
   have Rr:us.toArray[f.offset]?=some (us.getD i undef):=by rw[ho];simp[aN,show i<us.length by omega]
   have p1:=run_part_plain (P:=P) (w:=w) hp wq;have p2:=run_part_plain (P:=P) (w:=w) hp Rr;have ex:(PE.cell x (b+i)).ev O=X.getD (b+i) .none:=by simp only[PE.ev,hx];rfl
   have ey:(PE.cell y (b+i)).ev O=Y.getD (b+i) .none:=by simp only[PE.ev,hy];rfl
   obtain⟨b1,cH,pK⟩:=YZ (P:=P) w d (O:=O) hk kL (by rw[ex];exact g1) (by rw[ey];exact g2);refine⟨b1&&b2,by simp only[PE.ev,cH,bC];rfl,?_⟩;simp only[Op.eqFields,if_pos hn,Sem.run_bind,p1,p2,pK,Result.andThen_ok];cases b1
   .rfl
   .simpa using Ff
def akq {P:Program}{cap:Nat->Option CSig}{V:Im}{O:Env}{x y:PE}{X Y:List D}(w:World)(hx:x.ev O=.agg X)(hy:y.ev O=.agg Y){vs us:List Value}(d:Nat):
 ∀(fs:List Field) (i:Nat) (ts:List Ty) (e:PE),xY P x y fs i ts=some e->(∀j t,ts[j]?=some t->Rep cap V t (vs.getD (i+j) undef) (X.getD (i+j) .none)/\Rep cap V t (us.getD (i+j) undef) (Y.getD (i+j) .none))->
  i+ts.length<=vs.length->i+ts.length<=us.length->
  ∃b,e.ev O=.v (.bool b)/\(Op.eqFields (d+2) vs.toArray us.toArray fs).run P w=.ok b w:=by
 intro fs
 induction fs with
 |nil=>
  intro i ts e h _ _ _;cases ts with
  |nil=>simp only[xY,aS] at h;subst h;exact⟨true,rfl,rfl⟩
  |cons t ts=>simp[xY] at h
 |cons f fs ih=>
  intro i ts e h hr l1 l2;unfold xY at h;split at h
  .rename_i n bp;cases hb:Nat.ble n ts.length<;>simp only[hb,zyx,zyw] at h
   .cases h
   have hn:=lg hb;simp only[aw,aC] at h;obtain⟨e1,kL,r,nA,rfl⟩:=h
   obtain⟨b2,bC,Ff⟩:=ih (i+n) (ts.drop n) r nA (λj t hj=>by
        have:=hr (n+j) t (by rw[eH] at hj;exact hj)
        rwa [show i+(n+j)=i+n+j by omega] at this) (by rw[tD];omega) (by rw[tD];omega)
   unfold abn at bp;split at bp
   case h_2=>cases bp
   rename_i fs' hu;cases hc:((f.name != "_")&&Nat.beq f.offset i&& !P.stoodInHeld f.type)<;>simp only[hc,zyx,zyw] at bp
   .cases bp
   cases bp;simp only[aq,bne_iff_ne,ne_eq,iY] at hc;obtain⟨⟨aB,ho⟩,bZ⟩:=hc;have ho:=aA ho;have jM:P.underlying f.type=some (.struct (P.fieldsOf f.type)):=by unfold Program.fieldsOf;rw[hu]
   obtain⟨inf,hi⟩:=info_of_underlying hu
   have pH:∀zs:List Value,(part f.type zs.toArray f.offset).run P w=.ok (.agg ((zs.drop i).take (P.cellsOf f.type)).toArray) w:=λzs=>by
        have:(zs.toArray.extract f.offset (f.offset+P.cellsOf f.type))=((zs.drop i).take (P.cellsOf f.type)).toArray:=by
         rw[ho];apply tq;rw[Array.toList_extract];simp[List.extract]
        rw[<-this];simp[part,isAgg,run_underlying hu,run_sizeOf w hi]
   obtain⟨b1,cH,pK⟩:=akr (P:=P) (cap:=cap) (V:=V) (O:=O) w hx hy (vs:=(vs.drop i).take (P.cellsOf f.type)) (us:=(us.drop i).take (P.cellsOf f.type)) i d _ 0 (ts.take (P.cellsOf f.type)) e1 kL (λj t hj=>by
        rw[dJ] at hj;split at hj
        .rename_i ny;have:=hr j t hj;simpa [aN,dJ,ny,eH] using this
        .cases hj) (by simp only[dv,tD];omega) (by simp only[dv,tD];omega)
   have aot:(Op.equalIn (d+2) f.type (.agg ((vs.drop i).take (P.cellsOf f.type)).toArray) (.agg ((us.drop i).take (P.cellsOf f.type)).toArray)).run P w=.ok b1 w:=by
        rw[run_equalIn_struct w (d+1) f.type _ _ jM bZ];exact pK
   refine⟨b1&&b2,by simp only[PE.ev,cH,bC];rfl,?_⟩;simp only[Op.eqFields,if_pos aB,Sem.run_bind,pH,aot,Result.andThen_ok];cases b1
   .rfl
   .simpa using Ff
  .split at h
   .rename_i t ts;cases hc:((f.name != "_")&&Nat.beq f.offset i&&nG P f.type t&&P.plainKey f.type)<;>simp only[hc,zyx,zyw] at h
    .cases h
    simp only[aq,bne_iff_ne,ne_eq] at hc;obtain⟨⟨⟨hn,ho⟩,hk⟩,hp⟩:=hc;have ho:=aA ho;simp only[aw,aC] at h;obtain⟨e1,kL,r,nA,rfl⟩:=h
    obtain⟨b2,bC,Ff⟩:=ih (i+1) ts r nA (λj t hj=>by
     have:=hr (j+1) t (by simpa using hj)
     rwa [show i+(j+1)=i+1+j by omega] at this) (by simp at l1;omega) (by simp at l2;omega)
    obtain⟨g1,g2⟩:=hr 0 t rfl;rw[iZ] at g1 g2;simp only[mA] at l1 l2;have wq:vs.toArray[f.offset]?=some (vs.getD i undef):=by rw[ho];simp[aN,show i<vs.length by omega]
    have Rr:us.toArray[f.offset]?=some (us.getD i undef):=by rw[ho];simp[aN,show i<us.length by omega]
    have p1:=run_part_plain (P:=P) (w:=w) hp wq;have p2:=run_part_plain (P:=P) (w:=w) hp Rr;have ex:(PE.cell x i).ev O=X.getD i .none:=by simp only[PE.ev,hx];rfl
    have ey:(PE.cell y i).ev O=Y.getD i .none:=by simp only[PE.ev,hy];rfl
    obtain⟨b1,cH,pK⟩:=YZ (P:=P) w (d+1) (O:=O) hk kL (by rw[ex];exact g1) (by rw[ey];exact g2);refine⟨b1&&b2,by simp only[PE.ev,cH,bC];rfl,?_⟩;simp only[Op.eqFields,if_pos hn,Sem.run_bind,p1,p2,pK,Result.andThen_ok];cases b1
    .rfl
    .simpa using Ff
   .cases h
def ary (h:Inv C S O V own hv w0 σ0 A a w)(hC:CtxOK C σ0)(hg:holds gs O=true){op:BinOp}{T T':TypeId}{x y:Operand}{r:Sh×List PI}(hr:Cb C S gs dst op T x y=some r){o:Oper}(ho:o.op=.binOp op T x y T'):
 fm C S O V hv Z dst a w o r:=by
 simp only[Cb,aw] at hr;obtain⟨p,hp,q,hq,hr⟩:=hr;have aT:=cQ h hC hg hp;have eD:=cQ h hC hg hq;split at hr
 .rename_i k k' e1 e2;rw[e1] at aT;rw[e2] at eD;obtain⟨n,aQ,bm,b1,b2⟩:=aT.int_inv;obtain⟨m,jk,dZ,b3,b4⟩:=eD.int_inv;have ao:=M5 (C:=C) (w:=w) ho aQ jk (by intro u e;cases e) (by intro e;cases e);cases ff:(op==.shl||op==.shr)<;>simp only[ff,zyx,zyw] at hr
  .cases qJ:(k==k')<;>simp only[qJ,zyx,zyw] at hr
   .cases hr
   .have QB:k=k':=by simpa using qJ
    subst QB;cases Q8:(op==.quo||op==.rem)<;>simp only[Q8,zyx,zyw] at hr
    .cases Kq:Ia op<;>simp only[Kq,zyx,zyw] at hr
     .cases Bv:A4 op<;>simp only[Bv,zyx,zyw] at hr
      .cases hr
      .cases hr;refine .dat (v:=.bool (j5 op n m)) ?_ ?_
       .rw[ao];cases op<;>simp_all [A4]<;>simp[binOp,Op.intCmp,j5,Sem.run,pure,Sem.bind]
       .simp only[PE.ev,bm,dZ,D.i_int];exact .bool _
     .cases hr;refine .dat (v:=.int k (cJ op k n m)) ?_ ?_
      .rw[ao];cases op<;>simp_all [Ia]<;>simp[binOp,Op.intArith,Op.intBits,cJ,Sem.run,pure,Sem.bind]
      .simp only[PE.ev,bm,dZ,D.i_int];refine .int _ _ ?_ ?_<;>(cases op<;>simp_all [Ia]<;>first|exact(tp _ _).1|exact(tp _ _).2)
    .cases hr;refine .datc hg λhc=>⟨.int k (cJ op k n m),?_,?_⟩
     .have aB:m≠0:=by simpa [PE.ev,dZ,D.i_int,D.b_bool,j5,D.int] using hc
      rw[ao];rcases(by simpa using Q8:op=.quo\/op=.rem) with rfl|rfl<;>simp[binOp,Op.intDiv,cJ,Sem.run,pure,Sem.bind,aB]
     .simp only[PE.ev,bm,dZ,D.i_int];cases op<;>simp_all
      .exact .int _ _ (tp _ _).1 (tp _ _).2
      .exact .int _ _ (agx k ⟨b1,b2⟩).1 (agx k ⟨b1,b2⟩).2
  .cases hr;refine .datc hg λhc=>⟨.int k (cJ op k n m),?_,?_⟩
   .have aB:¬m<0:=by
     have:0<=m:=by simpa [PE.ev,dZ,D.i_int,D.b_bool,j5,D.int] using hc
     omega
    rw[ao];rcases(by simpa using ff:op=.shl\/op=.shr) with rfl|rfl<;>simp[binOp,Op.shift,cJ,Sem.run,pure,Sem.bind,aB]
   .simp only[PE.ev,bm,dZ,D.i_int];cases op<;>simp_all
    .exact .int _ _ (tp _ _).1 (tp _ _).2
    .exact .int _ _ (Zd k _ ⟨b1,b2⟩).1 (Zd k _ ⟨b1,b2⟩).2
 .rename_i e1 e2;rw[e1] at aT;rw[e2] at eD;obtain⟨n,aQ,bm⟩:=aT.bool_inv;obtain⟨m,jk,dZ⟩:=eD.bool_inv;have ao:=M5 (C:=C) (w:=w) ho aQ jk (by intro u e;cases e) (by intro e;cases e);cases bT:((op==.eql||op==.neq)&&RG C.P T)<;>simp only[bT,zyx,zyw] at hr
  .cases hr
  .cases hr;simp only[aq] at bT;obtain⟨bT,hT⟩:=bT;have Bo:C.P.underlying T=some .bool:=by
        unfold RG at hT;split at hT
        .assumption
        .cases hT
   have heq:(Op.equal T (.bool n) (.bool m)).run C.P w=.ok (n==m) w:=by
        have:∀d,(Op.equalIn (d+1) T (.bool n) (.bool m)).run C.P w=.ok (n==m) w:=λd=>by simp[Op.equalIn,run_underlying Bo]
        exact this 9999
   refine .dat (v:=.bool (A3 op n m)) ?_ ?_
   .rw[ao];rcases(by simpa using bT:op=.eql\/op=.neq) with rfl|rfl<;>simp[binOp,A3,heq,Sem.run_bind']
   .simp only[PE.ev,bm,dZ,D.b_bool];exact .bool _
 .rename_i e1 e2;rw[e1] at aT;rw[e2] at eD;obtain⟨n,aQ,bm,_⟩:=aT.str_inv;obtain⟨m,jk,dZ,_⟩:=eD.str_inv;have ao:=M5 (C:=C) (w:=w) ho aQ jk (by intro u e;cases e) (by intro e;cases e);cases bT:A4 op<;>simp only[bT,zyx,zyw] at hr
  .cases hr
  .cases hr;refine .dat (v:=.bool (A5 op n m)) ?_ ?_
   .rw[ao];cases op<;>simp_all [A4]<;>simp[binOp,Op.stringOp,A5,Sem.run,pure,Sem.bind]
   .simp only[PE.ev,bm,dZ,D.s_str];exact .bool _
 .rename_i e e' e1 e2;rw[e1] at aT;rw[e2] at eD;split at hr
  case h_2=>cases hr
  rename_i E hT;cases bT:(op==.eql||op==.neq)<;>simp only[bT,zyx,zyw] at hr
  .cases hr
  cases hr;obtain⟨n,xs,aQ,bm,QO⟩:∃(n:Bool) (xs:List D),(n=true/\a.eval x=.slice none 0 0\/n=false/\∃k o m c,a.eval x=.slice (some ⟨k,o,none⟩) m c)/\p.2.ev O=.list xs/\n=decide (xs=[]):=by
   generalize a.eval x=vv at aT;generalize p.2.ev O=dd at aT;cases aT with
   |nsl0=>exact⟨true,[],.inl ⟨rfl,rfl⟩,rfl,rfl⟩
   |nsl _ k o m c xs h hx=>exact⟨false,xs,.inr ⟨rfl,k,o,m,c,rfl⟩,rfl,by simp[hx]⟩
  have jk:a.eval y=.slice none 0 0:=by
   generalize a.eval y=vv at eD;generalize q.2.ev O=dd at eD;cases eD;rfl
  have heq:(Op.equal T (a.eval x) (a.eval y)).run C.P w=.ok n w:=by
   have:∀d,(Op.equalIn (d+1) T (a.eval x) (a.eval y)).run C.P w=.ok n w:=λd=>by
        rw[jk];rcases aQ with⟨rfl,h1⟩|⟨rfl,k,o,m,c,h1⟩<;>rw[h1]<;>simp[Op.equalIn,run_underlying hT]
   exact this 9999
  have ao:=M5 (C:=C) (w:=w) ho rfl rfl (by
   intro u e;rcases aQ with⟨_,h1⟩|⟨_,k,o,m,c,h1⟩<;>rw[h1] at e<;>cases e) (by
   intro e;rcases aQ with⟨_,h1⟩|⟨_,k,o,m,c,h1⟩<;>rw[h1] at e<;>cases e)
  refine .dat (v:=.bool (j5 op xs.length 0)) ?_ ?_
  .have aB:∀(y:D) (ys:List D),¬((ys.length:Int)+1=0):=λy ys=>by omega
   rw[ao,jk];rw[jk] at heq;rcases aQ with⟨_,h1⟩|⟨_,k,o,m,c,h1⟩<;>rw[h1] at heq ⊢<;>rcases(by simpa using bT:op=.eql\/op=.neq) with rfl|rfl<;>cases xs<;>simp[binOp,heq,Sem.run_bind',j5,QO]<;>(try omega)
  .simp only[PE.ev,bm,D.l_list,D.int,D.i_int];exact .bool _
 .rename_i ts us e1 e2;rw[e1] at aT;rw[e2] at eD;cases bT:((op==.eql||op==.neq)&&Ty.beqs ts us&&Pz C.P T)<;>simp only[bT,zyx,zyw] at hr
  .cases hr
  simp only[aq] at bT;obtain⟨⟨bT,Rp⟩,bZ⟩:=bT;have:=Ty.beqs_eq _ _ Rp;subst this;simp only[Pz,aq,iY] at bZ;obtain⟨⟨aa4,aoD⟩,aoE⟩:=bZ;have jM:C.P.underlying T=some (.struct (C.P.fieldsOf T)):=by
   unfold Program.fieldsOf;split at aa4
   .rename_i fs hu;rw[hu]
   .cases aa4
  simp only[aC] at hr;obtain⟨e,he,rfl⟩:=hr;obtain⟨vs,ds,aQ,bm,l1,l2,aI,_⟩:=aT.agg_inv;obtain⟨C9,ds',jk,dZ,l3,l4,jH,_⟩:=eD.agg_inv
  obtain⟨b,hb,ao⟩:=akq (P:=C.P) (cap:=C.cap) (V:=V) (O:=O) w bm dZ (vs:=vs) (us:=C9) 9997 _ 0 ts e he (λj t hj=>by
   rw[fR];exact⟨aI j t hj,jH j t hj⟩) (by omega) (by omega)
  have heq:(Op.equalIn 10000 T (.agg vs.toArray) (.agg C9.toArray)).run C.P w=.ok b w:=by
   rw[run_equalIn_struct w 9999 T _ _ jM aoD];exact ao
  have il:=run_eqGuard_agg (P:=C.P) (w:=w) op T x y vs.toArray C9.toArray aoE
  have aaf:(execOp a.eval o).run C.P w=((binOp op T (.agg vs.toArray) (.agg C9.toArray)).run C.P w).andThen λr w'=>.ok (.value r) w':=by
   simp only[execOp,ho,aQ,jk,Sem.run_bind,il,Result.andThen_ok];rfl
  rcases(by simpa using bT:op=.eql\/op=.neq) with rfl|rfl
  .refine .dat (v:=.bool b) ?_ ?_
   .rw[aaf,run_eql_struct,heq];rfl
   .show Rep _ _ .bool _ (PE.ev O e);rw[hb];exact .bool _
  .refine .dat (v:=.bool (!b)) ?_ ?_
   .rw[aaf,run_neq_struct,heq];rfl
   .show Rep _ _ .bool _ (PE.ev O (.nt e));simp only[PE.ev,hb];exact .bool _
 .cases hr
def ar4 (h:Inv C S O V own hv w0 σ0 A a w)(hC:CtxOK C σ0)(hg:holds gs O=true){op:UnOp}{T:TypeId}{x:Operand}{r:Sh×List PI}(hr:Co C S gs dst op x=some r){o:Oper}(ho:o.op=.unOp op T x):
 fm C S O V hv Z dst a w o r:=by
 simp only[Co,aw] at hr;obtain⟨p,hp,hr⟩:=hr;have aT:=cQ h hC hg hp;split at hr
 .rename_i k e1;rw[e1] at aT;obtain⟨n,aQ,bm,b1,b2⟩:=aT.int_inv;cases hr;refine .dat (v:=.int k (cJ .sub k 0 n)) ?_ ?_
  .simp[execOp,ho,aQ,Op.unary,Op.intArith,cJ,Sem.run,pure,bind,Sem.bind]
  .simp only[PE.ev,bm,D.i_int];exact .int _ _ (tp _ _).1 (tp _ _).2
 .rename_i e1;rw[e1] at aT;obtain⟨n,aQ,bm⟩:=aT.bool_inv;cases hr;refine .dat (v:=.bool (!n)) ?_ ?_
  .simp[execOp,ho,aQ,Op.unary,Sem.run,pure,bind,Sem.bind]
  .simp only[PE.ev,bm,D.b_bool];exact .bool _
 .cases hr
def arC (h:Inv C S O V own hv w0 σ0 A a w)(hC:CtxOK C σ0)(hg:holds gs O=true){s d:TypeId}{x:Operand}{r:Sh×List PI}(hr:Cd C S gs dst s d x=some r){o:Oper}(ho:o.op=.convert s d x):
 fm C S O V hv Z dst a w o r:=by
 simp only[Cd,aw] at hr;obtain⟨p,hp,hr⟩:=hr;have aT:=cQ h hC hg hp;split at hr
 .rename_i k0 k k1 u1 u2 e1;rw[e1] at aT;obtain⟨n,aQ,bm,b1,b2⟩:=aT.int_inv;cases hr;refine .dat (v:=.int k (k.wrap n)) ?_ ?_
  .simp[execOp,ho,aQ,convert,run_underlying u1,run_underlying u2,Conv.intToInt]
  .simp only[PE.ev,bm,D.i_int];exact .int _ _ (tp _ _).1 (tp _ _).2
 .rename_i u1 u2 e1;rw[e1] at aT;obtain⟨n,aQ,bm,b1⟩:=aT.str_inv;cases hr;refine .dat (v:=.string n) ?_ ?_
  .simp[execOp,ho,aQ,convert,run_underlying u1,run_underlying u2]
  .rw[bm];exact .str _ b1
 .cases hr
end
def wC {n:Nat}(h:n<=maxLen):IntKind.i64.min<=(n:Int)/\(n:Int)<=IntKind.i64.max:=by
 simp only[maxLen] at h;simp only[IntKind.min,IntKind.max,IntKind.signed,IntKind.bits];simp;omega
section
variable {C:Ctx} {S:St} {O:Env} {V:Im} {own:Nat->Option Nat} {hv:Nat->Value} {w0:World} {σ0:Base} {A:Nat->Prop} {a:Act} {w:World} {gs:List (Nat×Bool)} {Z:aV} {dst:Nat}
def N9 (C:Ctx)(V:Im)(w:World)(B:Nat)(t:Ty)(v:Value)(d:D):Prop:=
 Rep C.cap V t v d\/
 (∃T e cells xs,t=.slice e.rol/\d=.list xs/\w.ownsRow B T e.size v xs.length cells/\fl C.cap V e cells xs)\/
 (∃k arr clock es kt et,t=.map kt et/\v=.map (some k)/\w.heap[k]?=some (.map arr clock)/\d=.map es/\es.length=arr.size/\es.length<=maxLen/\
    ∀(i:Nat) (e:MapEntry) (p:D×D),arr[i]?=some e->es[i]?=some p->Rep C.cap V kt e.key p.1/\Rep C.cap V et e.val p.2)
def Xo (h:Inv C S O V own hv w0 σ0 A a w)(hC:CtxOK C σ0)(hg:holds gs O=true){x:Operand}{r:Ty×PE}(hu:view C S gs x=some r):N9 C V w w0.heap.size r.1 (a.eval x) (r.2.ev O):=by
 unfold view at hu;split at hu
 .rename_i r' Fb;cases hu;exact .inl (cQ h hC hg Fb)
 .split at hu
  .rename_i t _;obtain⟨hs,_⟩:=nQ h hg t;split at hu
   .rename_i j ver e;rw[e] at hs;cases hb:Nat.beq ver (S.ver j)<;>simp only[hb,zyx,zyw] at hu
    .cases hu
    .have ed:=aA hb;have ho:=h.objs j;have cO:a.eval (.tmp t)=hv j:=hs.2 ed;split at hu
     .rename_i T e eo;rw[eo] at ho;cases hu;obtain⟨cells,xs,h1,h2,h3,h4⟩:=ho;rw[cO];exact .inr (.inl ⟨T,e,cells,xs,rfl,h1,h2,h3⟩)
     .rename_i kt et eo;rw[eo] at ho;cases hu;obtain⟨k,arr,clock,es,h1,h2,h3,h4,h5,⟨hx,_⟩,h6⟩:=ho;rw[cO];exact .inr (.inr ⟨k,arr,clock,es,kt,et,rfl,h1,h3,h4,h5,hx,h6⟩)
     .cases hu
   .cases hu
  .cases hu
def zb {w:World}{B e size n:Nat}{v:Value}{cells:List Value}(h:w.ownsRow B e size v n cells):∃b c,v=.slice b n c/\n<=maxLen/\n<=c:=by
 rcases h.2 with⟨rfl,rfl⟩|⟨g,cap,cur,rfl,h1,h2,h3,h4,h5⟩
 .exact⟨none,0,rfl,by decide,aY _⟩
 .exact⟨_,cap,rfl,cn h3 h4,h3⟩
def UI {b:Builtin}{args:Array Operand}{ts:Array TypeId}{o:Oper}(ho:o.op=.call {callee:=.builtin b,args:=args,argTypes:=ts}):
 ∃cs,(execOp a.eval o).run C.P w=(builtin b ts o.type cs (args.map a.eval)).run C.P w:=
 ⟨_,by simp only[execOp,ho,resolve,invoke];rfl⟩
def arR (h:Inv C S O V own hv w0 σ0 A a w)(hC:CtxOK C σ0)(hg:holds gs O=true){T:TypeId}{x:Operand}{r:Sh×List PI}(hr:Cj C S gs dst T x=some r){o:Oper}
 (ho:o.op=.call {callee:=.builtin .len,args:=#[x],argTypes:=#[T]}):fm C S O V hv Z dst a w o r:=by
 simp only[Cj,aw] at hr;obtain⟨p,hp,hr⟩:=hr;have aT:=Xo h hC hg hp;obtain⟨cs,ao⟩:=UI (C:=C) (w:=w) (a:=a) ho;split at hr
 .rename_i e T' e1 e2;rw[e1] at aT;cases hr;have hx:∃b n c xs,a.eval x=.slice b n c/\p.2.ev O=.list xs/\xs.length=n/\n<=maxLen:=by
   rcases aT with aT|⟨T,e,cells,xs,ht,hd,be,jL⟩|⟨k,arr,clock,es,kt,et,ht,_⟩
   .obtain⟨xs,hd,⟨⟨p0,aQ⟩,rfl⟩|⟨k,o,c,aQ,h1,h2,_⟩⟩:=aT.slice_inv
    .exact⟨p0,0,0,[],aQ,hd,rfl,by decide⟩
    .exact⟨_,_,c,xs,aQ,hd,rfl,by omega⟩
   .obtain⟨b,c,aQ,h1,_⟩:=zb be;exact⟨b,_,c,xs,aQ,hd,rfl,h1⟩
   .cases ht
  obtain⟨b,n,c,xs,aQ,hd,hl,hm⟩:=hx;refine .dat (v:=.int .i64 n) ?_ ?_
  .rw[ao];simp[builtin,Builtin.len_,aQ,run_underlying e2,goInt]
  .simp only[PE.ev,hd,D.l_list,hl];exact .int _ _ (wC hm).1 (wC hm).2
 .rename_i e T' e1 e2;rw[e1] at aT;cases hr;rcases aT with aT|⟨T,e,cells,xs,ht,_⟩|⟨k,arr,clock,es,kt,et,ht,_⟩
  .generalize yP:a.eval x=v at aT;generalize EF:p.2.ev O=d at aT;cases aT;refine .dat (v:=.int .i64 0) ?_ ?_
   .rw[ao];simp[builtin,Builtin.len_,yP,run_underlying e2,goInt]
   .simp only[PE.ev,EF,D.l_list];exact .int _ _ (by decide) (by decide)
  .cases ht
  .cases ht
 .rename_i e1 e2;rw[e1] at aT;cases hr;rcases aT with aT|⟨T,e,cells,xs,ht,_⟩|⟨k,arr,clock,es,kt,et,ht,_⟩
  .obtain⟨n,aQ,bm,hm⟩:=aT.str_inv;refine .dat (v:=.int .i64 n.size) ?_ ?_
   .rw[ao];simp[builtin,Builtin.len_,aQ,run_underlying e2,goInt]
   .simp only[PE.ev,bm,D.s_str];exact .int _ _ (wC hm).1 (wC hm).2
  .cases ht
  .cases ht
 .rename_i k0 e0 a0 b0 e1 e2;rw[e1] at aT;cases hr;rcases aT with aT|⟨T,e,cells,xs,ht,_⟩|⟨k,arr,clock,es,kt,et,ht,aQ,hb,bm,hl,hx,_⟩
  .generalize yP:a.eval x=v at aT;generalize EF:p.2.ev O=d at aT;cases aT with
   |mapnil=>
    refine .dat (v:=.int .i64 0) ?_ ?_
    .rw[ao];simp[builtin,Builtin.len_,yP,run_underlying e2,goInt]
    .simp only[PE.ev,EF,D.m];exact .int _ _ (by decide) (by decide)
   |map kt et r kB es hm hl hx hk _=>
    obtain⟨_,arr,clock,hb,ke⟩:=(h.ok.m _ _ hm).resolve_right (λe=>FN hl hk e.1);have hn:arr.size=es.length:=by rw[hl,<-ke];simp[entriesOf]
    refine .dat (v:=.int .i64 arr.size) ?_ ?_
    .rw[ao];simp[builtin,Builtin.len_,yP,run_underlying e2,goInt,getObj,Sem.run,hb]
    .simp only[PE.ev,EF,D.m,hn];exact .int _ _ (wC hx).1 (wC hx).2
  .cases ht
  .refine .dat (v:=.int .i64 arr.size) ?_ ?_
   .rw[ao];simp[builtin,Builtin.len_,aQ,run_underlying e2,goInt,getObj,Sem.run,hb]
   .simp only[PE.ev,bm,D.m,hl];exact .int _ _ (wC (hl▸hx)).1 (wC (hl▸hx)).2
 .cases hr
def aed (h:Inv C S O V own hv w0 σ0 A a w)(hC:CtxOK C σ0)(hg:holds gs O=true){mx:Bool}{x y:Operand}{ts:Array TypeId}{r:Sh×List PI}(hr:y7 C S gs dst mx x y=some r){o:Oper}
 (ho:o.op=.call {callee:=.builtin (bif mx then .max else .min),args:=#[x,y],argTypes:=ts}):fm C S O V hv Z dst a w o r:=by
 simp only[y7,aw] at hr;obtain⟨p,hp,q,hq,hr⟩:=hr;have aT:=cQ h hC hg hp;have eD:=cQ h hC hg hq;obtain⟨cs,ao⟩:=UI (C:=C) (w:=w) (a:=a) ho;split at hr
 .rename_i k k' e1 e2;rw[e1] at aT;rw[e2] at eD;obtain⟨n,aQ,bm,b1,b2⟩:=aT.int_inv;obtain⟨m,jk,dZ,b3,b4⟩:=eD.int_inv;cases qJ:(k==k')<;>simp only[qJ,zyx,zyw] at hr
  .cases hr
  .have QB:k=k':=by simpa using qJ
   subst QB;cases hr;cases mx with
   |true=>
    refine .dat (v:=.int k (if m>n then m else n)) ?_ ?_
    .rw[ao];simp[builtin,Builtin.max_,Builtin.max2,aQ,jk]
    .simp only[zyx,PE.ev,bm,dZ,D.i_int];by_cases ah:m>n<;>simp[ah]<;>constructor<;>assumption
   |false=>
    refine .dat (v:=.int k (if m<n then m else n)) ?_ ?_
    .rw[ao];simp[builtin,Builtin.min_,Builtin.min2,aQ,jk]
    .simp only[zyw,PE.ev,bm,dZ,D.i_int];by_cases ah:m<n<;>simp[ah]<;>constructor<;>assumption
 .cases hr
def arE (h:Inv C S O V own hv w0 σ0 A a w)(hC:CtxOK C σ0)(hg:holds gs O=true){x:Operand}{i:Nat}{r:Sh×List PI}(hr:Ce C S gs dst x i=some r){o:Oper}(ho:o.op=.extract x i):
 fm C S O V hv Z dst a w o r:=by
 simp only[Ce,aw] at hr;obtain⟨p,hp,hr⟩:=hr;have aT:=cQ h hC hg hp;split at hr
 .rename_i ts e1;rw[e1] at aT;simp only[aC] at hr;obtain⟨t,ht,rfl⟩:=hr;obtain⟨vs,ds,aQ,bm,l1,l2,aI⟩:=aT.tup_inv;have hi:i<vs.length:=by rw[l1];exact(eV.1 ht).1
  refine .dat (v:=vs.getD i undef) ?_ ?_
  .obtain⟨u,hu⟩:∃u,vs[i]?=some u:=⟨_,bE hi⟩
   have il:vs.getD i undef=u:=by rw[aN,hu];rfl
   rw[il];simp[execOp,ho,aQ,Instr.extract,hu]
  .simp only[PE.ev,bm];exact aI i t ht
 .cases hr
end
def wz {P:Program}{T:TypeId}{ag:Bool}(h:qW P T=some ag)(w:World):(isAgg T).run P w=.ok ag w:=by
 unfold qW at h;split at h
 .rename_i fs hu;cases h;simp[isAgg,run_underlying hu]
 .rename_i n e hu;cases h;simp[isAgg,run_underlying hu]
 .rename_i d h1 h2 hu;cases h;cases d<;>simp_all [isAgg,run_underlying hu]
 .cases h
def tJ (k o n:Nat):(⟨k,o,none⟩:Addr).add n=⟨k,o+n,none⟩:=by
 unfold Addr.add;split<;>simp_all
def M7 {P:Program}{T:TypeId}{inf:TypeInfo}{ag:Bool}{w:World}{k o:Nat}{cs:List Value}(hi:P.info? T=some inf)(ha:qW P T=some ag)(hl:cs.length=inf.size)
 (h1:ag=false->cs.length=1) (hc:∀j u,cs[j]?=some u->w.cell? ⟨k,o+j,none⟩=some u):(loadVar T ⟨k,o,none⟩).run P w=.ok (rowOf ag cs) w:=by
 cases ag with
 |true=>
  have:=run_loadCells_list (P:=P) w ⟨k,o,none⟩ cs (λj v hv=>by rw[tJ];exact hc j v hv);rw[hl] at this;simp[loadVar,wz ha,Go.sizeOf,run_typeInfo w hi,this,rowOf]
 |false=>
  obtain⟨u,hu⟩:∃u,cs=[u]:=by
   have:=h1 rfl
   match cs,this with
   |[u],_=>exact⟨u,rfl⟩
  subst hu;have h0:=hc 0 u rfl;simp only[iZ] at h0;simp[loadVar,wz ha,rowOf,run_load,h0]
section
variable {C:Ctx} {S:St} {O:Env} {V:Im} {own:Nat->Option Nat} {hv:Nat->Value} {w0:World} {σ0:Base} {A:Nat->Prop} {a:Act} {w:World} {gs:List (Nat×Bool)} {Z:aV} {dst:Nat}
def xc {o:Oper}{T:TypeId}{x:Operand}{v:Value}{k off:Nat}(ho:o.op=.load T x)(hx:a.eval x=.pointer (some ⟨k,off,none⟩))(hl:(loadVar T ⟨k,off,none⟩).run C.P w=.ok v w):
 (execOp a.eval o).run C.P w=.ok (.value v) w:=by
 simp[execOp,ho,Instr.loadAt,hx,Instr.sureAddr,hl]
def tY {α:Type}{l:List α}{i:Nat}{x d:α}(h:l[i]?=some x):l.getD i d=x:=by
 rw[aN,h];rfl
def LX {cap:Nat->Option CSig}{ts:List Ty}{vs:List Value}{ds:List D}{ag:Bool}{n off:Nat}{ty:Ty}(hp:wL ag n ts off=some ty)
 (h1:vs.length=ts.length) (h2:ds.length=ts.length) (hr:∀(i:Nat) (t:Ty),ts[i]?=some t->Rep cap V t (vs.getD i undef) (ds.getD i .none)) (ho:∀(i:Nat) (t:Ty),ts[i]?=some t->t.one=true):
 Rep cap V ty (rowOf ag ((vs.drop off).take n)) (bif ag then .agg ((ds.drop off).take n) else ds.getD off .none)/\((vs.drop off).take n).length=n/\(ag=false->n=1):=by
 unfold wL at hp;cases hle:Nat.ble (off+n) ts.length<;>simp only[hle,zyx,zyw] at hp
 .cases hp
 .have QC:=lg hle;have hlen:((vs.drop off).take n).length=n:=by simp;omega
  cases ag with
  |true=>
   simp only[zyx] at hp;cases hp;refine⟨?_,hlen,λe=>by cases e⟩;simp only[rowOf,if_true,zyx];refine .agg _ _ _ (by simp;omega) (by simp;omega) (λi t hi=>?_) (λi t hi=>?_)
   .simp only[dJ,eH] at hi;split at hi
    .rename_i bp;have:=hr (off+i) t hi;simpa [aN,dJ,eH,bp] using this
    .cases hi
   .simp only[dJ,eH] at hi;split at hi
    .exact ho _ t hi
    .cases hi
  |false=>
   simp only[zyw] at hp;cases hn:Nat.beq n 1<;>simp only[hn,zyx,zyw] at hp
   .cases hp
   .have mR:=aA hn;subst mR;refine⟨?_,hlen,λ_=>rfl⟩;have:=hr off ty hp;have ah:off<vs.length:=by omega
    simpa [rowOf,aN,dJ,eH] using this
def LW {ag:Bool}{n:Nat}{e:PE}{off:Nat}{ds:List D}(h:e.ev O=.agg ds):(Cq ag n e off).ev O=bif ag then .agg ((ds.drop off).take n) else ds.getD off .none:=by
 cases ag<;>simp[Cq,PE.ev,h,D.cells,D.c]
def Inv.cell (h:Inv C S O V own hv w0 σ0 A a w){k o:Nat}{u:Value}(hc:V.c k o=some u):w.cell? ⟨k,o,none⟩=some u:=h.ok.c _ _ _ hc
def Rep.rowOf {cap:Nat->Option CSig}{t:Ty}{v:Value}{d:D}(h:Rep cap V t v d):v=Cx.rowOf t.rowT v.cells.toList:=by
 cases h<;>simp[Cx.rowOf,Ty.rowT,Value.cells]
def Rep.cells1 {cap:Nat->Option CSig}{t:Ty}{v:Value}{d:D}(h:Rep cap V t v d)(ht:t.rowT=false):v.cells=#[v]:=by
 cases h<;>simp_all [Ty.rowT,Value.cells]
def arT (h:Inv C S O V own hv w0 σ0 A a w){T:TypeId}{x:Operand}{inf:TypeInfo}{ag:Bool}(hi:C.P.info? T=some inf)(ha:qW C.P T=some ag){o:Oper}(ho:o.op=.load T x)
 {ty:Ty} {e:PE} (hr:Rep C.cap V (.ref ty) (a.eval x) (e.ev O)) (hs:Nat.beq inf.size ty.size=true) (Kp:(ag==ty.rowT)=true):
 fm C S O V hv Z dst a w o (.dat ty,[.setR dst (.deref e)]):=by
 obtain⟨k,off,v,y,aQ,bm,bY,jK⟩:=hr.ref_inv;have qQ:=aA hs;have Ex:ag=ty.rowT:=by simpa using Kp
 have hz:=bY.size;have gd:=bY.rowOf;refine .dat (v:=v) (xc ho aQ ?_) ?_
 .rw[gd,<-Ex];refine M7 hi ha (by simp[hz,qQ]) (λe=>?_) (λj u hu=>?_)
  .subst e;simp[bY.cells1 Ex.symm]
  .exact h.cell (jK j u (by simpa using hu))
 .simp only[PE.ev,bm,D.deref];exact bY
def O7 {w:World}{k:Nat}{cs:Array Value}{T:TypeId}{fr:Nat×Nat}(hb:w.heap[k]?=some (.cells cs T fr)){i:Nat}(hi:i<cs.size):w.cell? ⟨k,i,none⟩=some (cs.getD i undef):=by
 simp[World.cell?,hb,fb,eT hi]
def Bk (cs:Array Value)(i:Nat):cs.toList.getD i undef=cs.getD i undef:=by
 simp[aN,fb]
def X6 {cs:Array Value}{ds:List D}:∀(shs:List Sh) (i:Nat) (l:List AgC),vC S shs=some l->(∀m s,shs[m]?=some s->aK C S O V hv s (cs.getD (i+m) undef) (ds.getD (i+m) .none))->
 l.length=shs.length/\∀(m:Nat) (c:AgC),l[m]?=some c->nV C S V hv c (cs.getD (i+m) undef) (ds.getD (i+m) .none)
 |[],i,l,hl,_=>by simp only[vC,aS] at hl;subst hl;exact⟨rfl,λm c hm=>by simp at hm⟩
 |s::r,i,l,hl,aI=>by
  simp only[vC,aw] at hl;obtain⟨x,hx,hl⟩:=hl
  obtain⟨g1,g3⟩:=X6 r (i+1) x hx λm s hm=>by
   have:=aI (m+1) s (by simpa using hm)
   rwa [show i+(m+1)=i+1+m by omega] at this
  have h0:=aI 0 s rfl;rw[iZ] at h0;split at hl
  .rename_i t;cases df:t.one<;>simp only[df,zyx,zyw] at hl
   .cases hl
   cases hl;refine⟨by simp[g1],λm c hm=>?_⟩;cases m with
   |zero=>simp at hm;subst hm;exact⟨df,h0⟩
   |succ m=>simp at hm;have:=g3 m c hm;rwa [show i+1+m=i+(m+1) by omega] at this
  .rename_i j ver;cases hb:Nat.beq ver (S.ver j)<;>simp only[hb,zyx,zyw] at hl
   .cases hl
   cases hl;refine⟨by simp[g1],λm c hm=>?_⟩;cases m with
   |zero=>simp at hm;subst hm;exact h0
   |succ m=>simp at hm;have:=g3 m c hm;rwa [show i+1+m=i+(m+1) by omega] at this
  .cases hl
def ah3 {j off n len:Nat}{ds:List D}(h:O.o j=.agg ds)(hl:ds.length=len):(Of j off n len).ev O=.agg ((ds.drop off).take n):=by
 unfold Of;cases hb:(Nat.beq off 0&&Nat.beq n len)
 .simp only[zyw,PE.ev,h];rfl
 .simp only[aq] at hb;obtain rfl:=aA hb.1;obtain rfl:=aA hb.2;simp only[zyx,PE.ev,h,List.drop_zero,<-hl,Dk]
def FT (h:Inv C S O V own hv w0 σ0 A a w)(hC:CtxOK C σ0)(hg:holds gs O=true){T:TypeId}{x:Operand}{r:Sh×List PI}(hr:uI C S gs dst T x=some r){o:Oper}(ho:o.op=.load T x):
 fm C S O V hv Z dst a w o r:=by
 unfold uI at hr;split at hr
 case h_2=>cases hr
 rename_i inf ag hi ha;have eM:aK C S O V hv (fO S gs x) (a.eval x) ((rz x).ev O):=by
  cases x with
  |tmp t=>exact(nQ h hg t).1
  |_=>trivial
 split at hr
 ·
  rename_i j ver off es;rw[es] at eM;cases hb:Nat.beq ver (S.ver j)<;>simp only[hb,zyx,zyw] at hr
  .cases hr
  have ed:=aA hb;obtain⟨k,fK,gK⟩:=eM.2 ed;have ba:=h.objs j;split at hr
  .rename_i bag shs eo;rw[eo] at ba;obtain⟨k',cs,T',ds,h1,h2,h3,h4,h5,h6,h7⟩:=ba;rw[fK] at h1;cases h1;cases ag with
   |true=>
    simp only[zyx] at hr;cases hle:Nat.ble (off+inf.size) shs.length<;>simp only[hle,zyx,zyw] at hr
    .cases hr
    have QC:=lg hle;have hlen:((shs.drop off).take inf.size).length=inf.size:=by simp;omega
    have dY:∀m u,((cs.toList.drop off).take inf.size)[m]?=some u->w.cell? ⟨k,off+m,none⟩=some u:=λm u hu=>by
     simp only[dJ,eH] at hu;split at hu
     .rename_i hm;have:=O7 h3 (i:=off+m) (by omega);rw[this,<-Bk];exact congrArg some (tY hu)
     .cases hu
    have aa1:=xc ho gK (M7 hi ha (by simp;omega) (λe=>by cases e) dY);split at hr
    .rename_i l hl;cases hr
     revert hl
     cases Od C j
     .intro hl;cases hl
     intro hl
     obtain⟨ll,lo⟩:=X6 (cs:=cs) (ds:=ds) _ off l hl (λm s hm=>by
      simp only[dJ,eH] at hm;split at hm
      .exact(h7 (off+m) s hm).2
      .cases hm)
     rw[hlen] at ll;refine λO' ao=>⟨_,_,u7 ao,aa1,⟨(cs.toList.drop off).take inf.size,(ds.drop off).take inf.size,by simp[rowOf],ah3 h5 h6,by simp;omega,by simp;omega,λm c hm=>?_⟩,λ_ _ e=>by cases e⟩
     have oC:m<inf.size:=by have:=(eV.1 hm).1;omega
     have:=lo m c hm;simpa [aN,dJ,eH,oC] using this
    simp only[aC] at hr;obtain⟨p,hp,rfl⟩:=hr
    obtain⟨l1,es,⟨he,_⟩,l2,bY⟩:=Pe (b:=.o j) h (cs:=cs.toList) h5 _ off p (λm s hm=>by
     simp only[dJ,eH] at hm;split at hm
     .have:=(h7 (off+m) s hm).2;rw[Bk];exact this
     .cases hm) hp
    refine .dat (v:=rowOf true ((cs.toList.drop off).take inf.size)) aa1 ?_
    .simp only[PE.ev,rowOf,if_true,he];refine .agg _ _ _ (by simp;omega) (by omega) (λm t hm=>?_) (λm t hm=>(bY m t hm).1);have oC:m<inf.size:=by have:=(eV.1 hm).1;omega
     have:=(bY m t hm).2;simpa [aN,dJ,eH,oC] using this
   |false=>
    simp only[zyw] at hr;split at hr
    .rename_i ty hs;cases df:ty.one<;>simp only[df,zyx,zyw] at hr
     .cases hr
     cases hr;have fp:=(h7 off _ hs).2;have ah:off<shs.length:=(eV.1 hs).1;have yy:(loadVar T ⟨k,off,none⟩).run C.P w=.ok (cs.getD off undef) w:=by
      simp[loadVar,wz ha,run_load,O7 h3 (i:=off) (by omega)]
     refine .dat (v:=cs.getD off undef) (xc ho gK yy) ?_;simp only[PE.ev,h5,D.c,D.cells];exact fp
    .rename_i j' nT hs;cases hr;have fp:=(h7 off _ hs).2;have ah:off<shs.length:=(eV.1 hs).1;have yy:(loadVar T ⟨k,off,none⟩).run C.P w=.ok (cs.getD off undef) w:=by
      simp[loadVar,wz ha,run_load,O7 h3 (i:=off) (by omega)]
     intro O' ao;exact⟨_,_,u7 ao,xc ho gK yy,fp,λ_ _ e=>by cases e⟩
    .cases hr
  .rename_i ts eo;rw[eo] at ba;obtain⟨k',v,h1,h2,h3⟩:=ba;rw[fK] at h1;cases h1;simp only[aC] at hr;obtain⟨ty,bj,rfl⟩:=hr;obtain⟨vs,ds,rfl,hd,l1,l2,aI,df⟩:=h2.agg_inv;obtain⟨bY,hlen,mR⟩:=LX bj l1 l2 aI df;refine .dat (xc ho gK (M7 hi ha hlen (λe=>by rw[hlen];exact mR e) (λm u hu=>h.cell ?_))) (by rw[LW (e:=.o j) hd];exact bY);simp only[dJ,eH] at hu;split at hu
   .exact h3 (off+m) u (by simpa [Value.cells] using hu)
   .cases hu
  .rename_i ty aB eo;rw[eo] at ba;obtain⟨k',v,h1,h2,h3⟩:=ba;rw[fK] at h1;cases h1;cases hc:(!ag&&ty.one&&Nat.beq off 0)<;>simp only[hc,zyx,zyw] at hr
   .cases hr
   cases hr;simp only[aq,iY] at hc;have kf:=aA hc.2;subst kf;have yy:(loadVar T ⟨k,0,none⟩).run C.P w=.ok v w:=by
        have:=h.cell (h3 0 v (by simp[(h2.oneCell hc.1.2).1]));rw[hc.1.1] at ha;simp[loadVar,wz ha,run_load,this]
   exact .dat (xc ho gK yy) h2
  .cases hr
 ·
  rename_i j ver size off es;rw[es] at eM;cases hb:Nat.beq ver (S.ver j)<;>simp only[hb,zyx,zyw] at hr
  .cases hr
  have ed:=aA hb;obtain⟨k,n,c,ik,i,fK,vR,bp,gK⟩:=eM.2 ed;have ba:=h.objs j;split at hr
  .rename_i T' ts eo;rw[eo] at ba;obtain⟨cells,xs,h1,h2,⟨vs,h3,h4⟩,h5⟩:=ba;cases aH:Nat.beq size ts.length<;>simp only[aH,zyx,zyw] at hr
   .cases hr
   have sv:=aA aH;simp only[aC] at hr;obtain⟨ty,bj,rfl⟩:=hr;rw[fK] at h2;have aR:=h2.cells (g:=k) rfl;obtain⟨b,c',e1,EX,yB⟩:=zb h2;cases e1;obtain⟨y,hy⟩:∃y,xs[i]?=some y:=⟨_,bE bp⟩
   have K6:=h3 i y hy;obtain⟨us,ds,wq,hd,l1,l2,aI,df⟩:=K6.agg_inv;obtain⟨bY,hlen,mR⟩:=LX bj l1 l2 aI df;have anY:(PE.nth (.o j) (rz x)).ev O=.agg ds:=by
        simp only[PE.ev,h1,D.l_list,vR,D.i_int,xD];rw[tY hy,hd]
   refine .dat (xc ho gK (M7 hi ha hlen (λe=>by rw[hlen];exact mR e) (λm u hu=>?_))) (by rw[LW anY];exact bY);simp only[dJ,eH] at hu;split at hu
   .have:=h4 i (off+m) u (by omega) (by rw[wq];simpa [Value.cells] using hu);have:=aR _ _ this;rw[tJ] at this;simpa [Ty.size,sv,vu] using this
   .cases hu
  .rename_i T' e aB eo;rw[eo] at ba;obtain⟨cells,xs,h1,h2,⟨vs,h3,h4⟩,h5⟩:=ba;cases hc:(!ag&&e.one&&Nat.beq off 0&&Nat.beq size 1)<;>simp only[hc,zyx,zyw] at hr
   .cases hr
   cases hr;simp only[aq,iY] at hc;have kf:=aA hc.1.2;have aH:=aA hc.2;subst kf;subst aH;rw[fK] at h2;have aR:=h2.cells (g:=k) rfl;obtain⟨b,c',e1,EX,yB⟩:=zb h2;cases e1;obtain⟨y,hy⟩:∃y,xs[i]?=some y:=⟨_,bE bp⟩
   have K6:=h3 i y hy;have yy:(loadVar T ⟨k,i*1+0,none⟩).run C.P w=.ok (vs i) w:=by
        have h6:=h4 i 0 (vs i) bp (by simp[(K6.oneCell hc.1.1.2).1]);have:=aR _ _ h6;rw[tJ] at this;have EI:e.size=1:=by cases e<;>simp_all [Ty.size,Ty.one]
        rw[hc.1.1.1] at ha;rw[EI] at this;simp only[fR,iZ,Nat.mul_one] at this;simp[loadVar,wz ha,run_load,this]
   refine .dat (xc ho gK yy) ?_;simp only[PE.ev,h1,D.l_list,vR,D.i_int,xD];rw[tY hy];exact K6
  .cases hr
 .simp only[aw] at hr;obtain⟨p,hp,hr⟩:=hr;have aT:=cQ h hC hg hp;split at hr
  .rename_i ty e1;rw[e1] at aT;cases hc:(Nat.beq inf.size ty.size&&(ag==ty.rowT))<;>simp only[hc,zyx,zyw] at hr
   .cases hr
   cases hr;simp only[aq] at hc;exact arT h hi ha ho aT hc.1 hc.2
  .cases hr
def s9 (h:Inv C S O V own hv w0 σ0 A a w)(hg:holds gs O=true)(x:Operand):aK C S O V hv (fO S gs x) (a.eval x) ((rz x).ev O)/\∀cd s,fO S gs x≠.opt cd s:=by
 cases x with
 |tmp t=>exact nQ h hg t
 |_=>exact⟨trivial,λ_ _ e=>by cases e⟩
def Ze {P:Program}{T:TypeId}{i:Nat}{f:Field}(h:Eb P T i=some f):∃fs,P.underlying T=some (.struct fs)/\fs[i]?=some f:=by
 unfold Eb at h;split at h
 .rename_i fs hu;exact⟨fs,hu,h⟩
 .cases h
def UJ {o:Oper}{T:TypeId}{x:Operand}{i:Nat}{f:Field}{inf:TypeInfo}{k off:Nat}(ho:o.op=.fieldAddr T x i)(hf:Eb C.P T i=some f)(hi:C.P.info? f.type=some inf)(hn:Nat.beq inf.size 0=false)
 (hx:a.eval x=.pointer (some ⟨k,off,none⟩)):(execOp a.eval o).run C.P w=.ok (.value (.pointer (some ⟨k,off+f.offset,none⟩))) w:=by
 obtain⟨fs,hu,yn⟩:=Ze hf;have ir:inf.size≠0:=by intro e;simp[e] at hn
 simp[execOp,ho,Instr.fieldAt,run_underlying hu,yn,hx,Instr.sureAddr,fieldPlace,Go.sizeOf,run_typeInfo w hi,ir,tJ]
def arH (h:Inv C S O V own hv w0 σ0 A a w)(hC:CtxOK C σ0)(hg:holds gs O=true){T:TypeId}{x:Operand}{i:Nat}{r:Sh×List PI}(hr:Cg C S gs dst T x i=some r){o:Oper}(ho:o.op=.fieldAddr T x i):
 fm C S O V hv Z dst a w o r:=by
 simp only[Cg,aw] at hr;obtain⟨f,hf,hr⟩:=hr;obtain⟨eM,eY⟩:=s9 h hg x;split at hr
 case h_2=>cases hr
 rename_i inf ag hi ha;cases hn:Nat.beq inf.size 0<;>simp only[hn,zyx,zyw] at hr
 case true=>cases hr
 split at hr
 .rename_i j ver size off es;cases hb:Nat.beq ver (S.ver j)<;>simp only[hb,zyx,zyw] at hr
  .cases hr
  cases hr;rw[es] at eM;intro O' ao;obtain⟨k,n,c,ik,idx,fK,vR,bp,gK⟩:=eM.2 (aA hb);exact⟨_,_,u7 ao,UJ ho hf hi hn gK,⟨eM.1,λ_=>⟨k,n,c,ik,idx,fK,vR,bp,by rw[vu]⟩⟩,λ_ _ e=>by cases e⟩
 .split at hr
  .rename_i ts e hu;have aT:=cQ h hC hg hu;simp only[aC] at hr;obtain⟨ty,bj,rfl⟩:=hr;obtain⟨k,off,v,y,aQ,bm,bY,jK⟩:=Rep.ref_inv aT;obtain⟨vs,ds,rfl,rfl,l1,l2,aI,df⟩:=bY.agg_inv;obtain⟨pH,hlen,mR⟩:=LX bj l1 l2 aI df;refine .dat (UJ ho hf hi hn aQ) ?_;have hde:(PE.deref e).ev O=.agg ds:=by simp only[PE.ev,bm,D.deref]
   simp only[PE.ev];rw[LW hde];refine .ref ty k (off+f.offset) _ _ pH (λj u hu=>?_);have me:((vs.drop f.offset).take inf.size)[j]?=some u:=by
        cases ag with
        |true=>simpa [rowOf,Value.cells] using hu
        |false=>
         have:=mR rfl;rw[this] at hlen ⊢;obtain⟨q,hq⟩:∃q,(vs.drop f.offset).take 1=[q]:=by
          match(vs.drop f.offset).take 1,hlen with
          |[q],_=>exact⟨q,rfl⟩
         rw[this] at pH hu;rw[hq] at pH hu ⊢;simp only[rowOf,vm] at pH hu;have wh:ty.rowT=false:=by
          unfold wL at bj;cases hle:Nat.ble (f.offset+inf.size) ts.length<;>simp only[hle,zyx,zyw] at bj
          .cases bj
          .cases hb:Nat.beq inf.size 1<;>simp only[hb,zyx,zyw] at bj
           .cases bj
           .have:=df _ _ bj;cases ty<;>simp_all [Ty.one,Ty.rowT]
         rw[pH.cells1 wh] at hu;simpa using hu
   simp only[dJ,eH] at me;split at me
   .have:=jK (f.offset+j) u (by simpa [Value.cells] using me)
    rwa [<-vu] at this
   .cases me
  .split at hr
   .rename_i j ver off es;cases hb:Nat.beq ver (S.ver j)<;>simp only[hb,zyx,zyw] at hr
    .cases hr
    cases hr;rw[es] at eM;intro O' ao;obtain⟨k,fK,gK⟩:=eM.2 (aA hb);exact⟨_,_,u7 ao,UJ ho hf hi hn gK,⟨eM.1,λ_=>⟨k,fK,rfl⟩⟩,λ_ _ e=>by cases e⟩
   .cases hr
def arK (h:Inv C S O V own hv w0 σ0 A a w)(hC:CtxOK C σ0)(hg:holds gs O=true){T:TypeId}{x:Operand}{i:Nat}{r:Sh×List PI}(hr:Cf C S gs dst T x i=some r){o:Oper}(ho:o.op=.field T x i):
 fm C S O V hv Z dst a w o r:=by
 simp only[Cf,aw] at hr;obtain⟨f,hf,hr⟩:=hr;split at hr
 case h_2=>cases hr
 rename_i inf ag hi ha;split at hr
 case h_2=>cases hr
 rename_i ts e hu;have aT:=cQ h hC hg hu;simp only[aC] at hr;obtain⟨ty,bj,rfl⟩:=hr;obtain⟨vs,ds,aQ,bm,l1,l2,aI,df⟩:=Rep.agg_inv aT;obtain⟨pH,hlen,mR⟩:=LX bj l1 l2 aI df;obtain⟨fs,me,yn⟩:=Ze hf;have hle:f.offset+inf.size<=ts.length:=by
  unfold wL at bj;cases hle:Nat.ble (f.offset+inf.size) ts.length<;>simp only[hle,zyx,zyw] at bj
  .cases bj
  .exact lg hle
 refine .dat (v:=rowOf ag ((vs.drop f.offset).take inf.size)) ?_ (by rw[LW bm];exact pH);cases ag with
 |true=>
  simp only[execOp,ho,Instr.field,aQ,asAgg,part];simp[run_underlying me,yn,wz ha,Go.sizeOf,run_typeInfo w hi,rowOf]
 |false=>
  have hn:=mR rfl;have ah:f.offset<vs.length:=by omega
  simp only[execOp,ho,Instr.field,aQ,asAgg,part];simp[run_underlying me,yn,wz ha,rowOf,hn,bE ah,aN,dJ,eH]
def af2 {o:Oper}{T e:TypeId}{x i:Operand}{inf:TypeInfo}{k off n c idx:Nat}{ik:IntKind}(ho:o.op=.indexAddr T x i)(hT:C.P.underlying T=some (.slice e))(hi:C.P.info? e=some inf)
 (hx:a.eval x=.slice (some ⟨k,off,none⟩) n c) (anp:a.eval i=.int ik idx) (ah:idx<n):(execOp a.eval o).run C.P w=.ok (.value (.pointer (some ⟨k,off+idx*inf.size,none⟩))) w:=by
 simp[execOp,ho,Instr.indexAt,run_underlying hT,hx,anp,asIntOf,ah,Go.sizeOf,run_typeInfo w hi,tJ]
def Ni {P:Program}{T:TypeId}{t:Ty}(h:tc P T t=true):∃inf,P.info? T=some inf/\inf.size=t.size:=by
 unfold tc at h;split at h
 .rename_i i hi;exact⟨i,hi,aA h⟩
 .cases h
def arN (h:Inv C S O V own hv w0 σ0 A a w)(hC:CtxOK C σ0)(hg:holds gs O=true){T:TypeId}{x i:Operand}{r:Sh×List PI}(hr:Ci C S gs dst T x i=some r){o:Oper}(ho:o.op=.indexAddr T x i):
 fm C S O V hv Z dst a w o r:=by
 unfold Ci at hr;split at hr
 case h_2=>cases hr
 rename_i e hT;simp only[aw] at hr;obtain⟨p,hp,hr⟩:=hr;have aT:=cQ h hC hg hp;split at hr
 case h_2=>cases hr
 rename_i ik e1;rw[e1] at aT;obtain⟨idx,aQ,bm,b1,b2⟩:=aT.int_inv;split at hr
 .rename_i t pe hu;have dz:=cQ h hC hg hu;cases aH:tc C.P e t<;>simp only[aH,zyx,zyw] at hr
  .cases hr
  cases hr;obtain⟨inf,hi,hs⟩:=Ni aH;obtain⟨xs,hd,sk⟩:=Rep.slice_inv dz;refine .datc hg λhc=>?_;simp only[PE.ev,hd,bm,D.l_list,D.i_int,D.b_bool,decide_eq_true_eq] at hc;rcases sk with⟨_,rfl⟩|⟨k,off,c,wv,h1,h2,vs,h3,h4⟩
  .simp at hc;omega
  .obtain⟨m,rfl⟩:=vl hc.1;have ah:m<xs.length:=by omega
   refine⟨_,af2 ho hT hi wv aQ ah,?_⟩;obtain⟨y,hy⟩:∃y,xs[m]?=some y:=⟨_,bE ah⟩
   simp only[PE.ev,hd,bm,D.l_list,D.i_int,xD,tY hy];exact .ref t.unf k _ (vs m) y (h3 m y hy) (λj u hu=>by rw[hs];exact h4 m j u ah hu)
 .cases hr
 .obtain⟨eM,eY⟩:=s9 h hg x;split at hr
  .rename_i j ver es;rw[es] at eM;cases hb:Nat.beq ver (S.ver j)<;>simp only[hb,zyx,zyw] at hr
   .cases hr
   have ed:=aA hb;have ba:=h.objs j;have cO:=eM.2 ed;split at hr
   .rename_i T' t eo;rw[eo] at ba;cases aH:tc C.P e t<;>simp only[aH,zyx,zyw] at hr
    .cases hr
    cases hr;obtain⟨inf,hi,hs⟩:=Ni aH;obtain⟨cells,xs,h1,h2,⟨vs,h3,h4⟩,h5⟩:=ba;intro O' ao;obtain⟨hc,hρ⟩:=UK hg ao;simp only[PE.ev,h1,bm,D.l_list,D.i_int,D.b_bool,decide_eq_true_eq] at hc;obtain⟨m,rfl⟩:=vl hc.1;have ah:m<xs.length:=by omega
    rcases h2.2 with⟨_,e0⟩|⟨g,cap,cur,fK,_⟩
    .omega
    .refine⟨_,_,hρ,af2 ho hT hi (cO.trans fK) aQ ah,⟨by omega,λ_=>⟨g,xs.length,cap,ik,m,fK,bm,ah,?_⟩⟩,λ_ _ e=>by cases e⟩;rw[hs];simp
   .cases hr
  .cases hr
def arP (h:Inv C S O V own hv w0 σ0 A a w)(hC:CtxOK C σ0)(hg:holds gs O=true){T:TypeId}{x i:Operand}{r:Sh×List PI}(hr:Ch C S gs dst T x i=some r){o:Oper}(ho:o.op=.index T x i):
 fm C S O V hv Z dst a w o r:=by
 unfold Ch at hr;split at hr
 case h_2=>cases hr
 rename_i hT;simp only[aw] at hr;obtain⟨p,hp,q,hq,hr⟩:=hr;have aT:=cQ h hC hg hp;have eD:=cQ h hC hg hq;split at hr
 case h_2=>cases hr
 rename_i ik e1 e2;rw[e1] at aT;rw[e2] at eD;obtain⟨idx,aQ,bm,b1,b2⟩:=aT.int_inv;obtain⟨s,jk,dZ,_⟩:=eD.str_inv;cases hr;refine .datc hg λhc=>?_;simp only[PE.ev,dZ,bm,D.s_str,D.i_int,D.b_bool,decide_eq_true_eq] at hc;obtain⟨m,rfl⟩:=vl hc.1;have ah:m<s.size:=by omega
 refine⟨.int .u8 (s.data.getD m 0).toNat,?_,?_⟩
 .have:s[m]?=some (s.data.getD m 0):=by
   rw[getElem?_pos s m ah];simp[ByteArray.getElem_eq_getElem_data,fb,eT (show m<s.data.size from ah)]
  simp[execOp,ho,Instr.index,run_underlying hT,aQ,jk,asIntOf,this]
 .simp only[PE.ev,dZ,bm,D.s_str,D.i_int,xD];refine .int _ _ ?_ ?_
  .simp only[IntKind.min,IntKind.signed];simp
  .simp only[IntKind.max,IntKind.signed,IntKind.bits];have:=UInt8.toNat_lt (s.data.getD m 0);simp at this ⊢;omega
def axs (h:Inv C S O V own hv w0 σ0 A a w)(hC:CtxOK C σ0)(hg:holds gs O=true){lo:Option Operand}{l:Ty×PE}{k:IntKind}(hl:Hu C S gs lo=some l)(hk:l.1=.int k):
 ∃n,l.2.ev O=.v (.int k n)/\((lo=none/\n=0)\/∃x,lo=some x/\a.eval x=.int k n):=by
 cases lo with
 |none=>simp[Hu] at hl;subst hl;simp at hk;subst hk;exact⟨0,rfl,.inl ⟨rfl,rfl⟩⟩
 |some x=>
  have:=cQ h hC hg hl;rw[hk] at this;obtain⟨n,h1,h2,_⟩:=this.int_inv;exact⟨n,h2,.inr ⟨x,rfl,h1⟩⟩
def axq (h:Inv C S O V own hv w0 σ0 A a w)(hC:CtxOK C σ0)(hg:holds gs O=true){e:PE}{hi:Option Operand}{l:Ty×PE}{k:IntKind}(hl:Ht C S gs e hi=some l)(hk:l.1=.int k):
 ∃n,l.2.ev O=.v (.int k n)/\((hi=none/\n=(e.ev O).l.length)\/∃x,hi=some x/\a.eval x=.int k n):=by
 cases hi with
 |none=>simp[Ht] at hl;subst hl;simp at hk;subst hk;exact⟨_,rfl,.inl ⟨rfl,rfl⟩⟩
 |some x=>
  have:=cQ h hC hg hl;rw[hk] at this;obtain⟨n,h1,h2,_⟩:=this.int_inv;exact⟨n,h2,.inr ⟨x,rfl,h1⟩⟩
def run_sliceBound {P:Program}{x:Value}{y i:Nat}{k:IntKind}{code:BoundsCode}{w:World}(hx:x=.int k i)(h:i<=y):(Instr.sliceBound x y code).run P w=.ok i w:=by
 subst hx;simp[Instr.sliceBound,asIntOf,h]
def ar2 (h:Inv C S O V own hv w0 σ0 A a w)(hC:CtxOK C σ0)(hg:holds gs O=true){T:TypeId}{x:Operand}{lo hi mx:Option Operand}{r:Sh×List PI}(hr:Cn C S gs dst T x lo hi mx=some r){o:Oper}(ho:o.op=.slice T x lo hi mx):
 fm C S O V hv Z dst a w o r:=by
 unfold Cn at hr;split at hr
 case h_3=>cases hr
 case h_2=>
  rename_i n e hT;split at hr
  case h_2=>cases hr
  simp only[aw] at hr;obtain⟨p,hp,hr⟩:=hr;have aT:=cQ h hC hg hp;split at hr
  case h_2=>cases hr
  rename_i t ts e1;cases hc:(Nat.beq n (ts.length+1)&&ts.all (Ty.beq t)&&t.one&&tc C.P e t&&Nat.ble n maxLen)<;>simp only[hc,zyx,zyw] at hr
  .cases hr
  cases hr;simp only[aq] at hc;obtain⟨⟨⟨⟨c1,c2⟩,c3⟩,c4⟩,c5⟩:=hc;have hn:=aA c1;have hm:=lg c5;obtain⟨inf,pD,hs⟩:=Ni c4;rw[e1] at aT;obtain⟨k,off,x0,y,wv,hd,hr0,jK⟩:=aT.ref_inv;obtain⟨vs,ds,rfl,rfl,l1,l2,jL,_⟩:=hr0.agg_inv
  have aI:∀(i:Nat),i<n->(t::ts)[i]?=some t:=λi hi=>by
   cases i with
   |zero=>rfl
   |succ i=>
    have ah:i<ts.length:=by omega
    rw[HR,bE ah];rw[Ty.beq_eq _ _ (bJ.1 c2 _ (cY ah))]
  have QE:vs.length=n:=by rw[l1,hn];rfl
  have BF:ds.length=n:=by rw[l2,hn];rfl
  have df:t.size=1:=by cases t<;>simp_all [Ty.one,Ty.size]
  refine fm.dat (v:=.slice (some ⟨k,off,none⟩) n n) ?_ ?_
  .have:Addr.add ⟨k,off,none⟩ 0=⟨k,off,none⟩:=by simp[Addr.add]
   simp[execOp,ho,Instr.sliceAt,run_underlying hT,wv,Instr.sureAddr,Instr.sliceBounds,Go.sizeOf,run_typeInfo w pD,this]
  .have anJ:(PE.lst ((List.range n).map λi=>.cell (.deref p.2) i)).ev O=.list ds:=by
        simp only[PE.ev]
        congr 1
        have bX:∀l:List PE,PE.evs O l=l.map λe=>e.ev O:=λl=>by induction l with|nil=>rfl|cons e l ih=>simp[PE.evs,ih]
        rw[bX,NY];apply NS;intro i;rw[cV];by_cases hi:i<n
        .rw[rH hi,bE (by omega)];simp only[lU,Function.comp,PE.ev,hd,D.deref,D.c,D.cells];rw[aN,bE (by omega)];rfl
        .rw[tB (by simp;omega),tB (by omega)];rfl
   rw[anJ];refine .slice t k off n n ds (λi=>vs.getD i undef) BF (aY _) hm (λi x hx=>?_) (λi j u hi hu=>?_)
   .have ah:i<n:=by rw[<-BF];exact(eV.1 hx).1
    have:=jL i t (aI i ah);rw[tY hx] at this;exact this.unf
   .have h1:=(jL i t (aI i hi)).oneCell c3;rw[h1.1] at hu;cases j with
    |zero=>
     simp at hu;have:=jK i (vs.getD i undef) (by
      simp only[Value.cells];rw[HS,bE (by omega),aN,bE (by omega)];rfl)
     rw[df,<-hu];simpa using this
    |succ j=>simp at hu
 rename_i e hT;simp only[aw] at hr;obtain⟨p,hp,hr⟩:=hr;have aT:=cQ h hC hg hp;split at hr
 case h_2=>cases hr
 rename_i t e1;rw[e1] at aT;simp only[aw] at hr;obtain⟨l,hl,u,hu,hr⟩:=hr;split at hr
 case h_2=>cases hr
 rename_i k1 k2 e2 e3;cases aH:tc C.P e t<;>simp only[aH,zyx,zyw] at hr
 .cases hr
 cases hr;obtain⟨inf,pD,hs⟩:=Ni aH;obtain⟨n1,bm,yx⟩:=axs h hC hg hl e2;obtain⟨n2,dZ,Qv⟩:=axq h hC hg hu e3;obtain⟨xs,hd,sk⟩:=Rep.slice_inv aT;refine .datc hg λhc=>?_;simp only[PE.ev,hd,bm,dZ,D.l_list,D.i_int,D.b_bool,decide_eq_true_eq] at hc;obtain⟨m1,rfl⟩:=vl hc.1;obtain⟨m2,rfl⟩:=vl (show 0<=n2 by omega);have sd:m1<=m2:=by omega
 have h2l:m2<=xs.length:=by omega
 have Z6:∀c,xs.length<=c->(Instr.sliceBounds true xs.length c (lo.map a.eval) (hi.map a.eval) none).run C.P w=.ok (m1,m2,c) w:=by
  intro c l5
  have hh:∀code,(match hi.map a.eval with|some v=>Instr.sliceBound v c code|none=>(pure xs.length:Sem Nat)).run C.P w=.ok m2 w:=by
   intro code;rcases Qv with⟨rfl,e⟩|⟨y,rfl,e⟩
   .rw[hd,D.l_list] at e;simp;omega
   .simp only[lU];exact run_sliceBound e (by omega)
  have qK:∀code,(match lo.map a.eval with|some v=>Instr.sliceBound v m2 code|none=>(pure 0:Sem Nat)).run C.P w=.ok m1 w:=by
   intro code;rcases yx with⟨rfl,e⟩|⟨y,rfl,e⟩
   .simp;omega
   .simp only[lU];exact run_sliceBound e sd
  have hh':=hh .sliceAcap;have aax:=qK .sliceB;unfold Instr.sliceBounds;cases hi<;>cases lo<;>simp at hh' aax ⊢<;>simp[hh',aax]
 rcases sk with⟨⟨p0,wv⟩,rfl⟩|⟨k,off,c,wv,h1,h2,vs,h3,h4⟩
 .have:m2=0:=by simpa using h2l
  have:m1=0:=by omega
  subst_vars
  refine⟨.slice p0 0 0,?_,?_⟩
  .have hb:=Z6 0 (aY _);simp only[tE] at hb;cases p0 with
   |none=>simp[execOp,ho,Instr.sliceAt,Instr.slice,run_underlying hT,wv,hb,Go.sizeOf,run_typeInfo w pD]
   |some a0=>simp[execOp,ho,Instr.sliceAt,Instr.slice,run_underlying hT,wv,hb,Go.sizeOf,run_typeInfo w pD]
  .simp only[PE.ev,hd,bm,dZ,D.l_list,D.i_int];cases p0 with
   |none=>exact .nil t
   |some a0=>exact .emp t a0
 .refine⟨.slice (some (if c=m1 then⟨k,off,none⟩ else⟨k,off+m1*inf.size,none⟩)) (m2-m1) (c-m1),?_,?_⟩
  .have hb:=Z6 c h1;simp only[execOp,ho,Option.map_none,Instr.sliceAt,run_underlying hT,wv];simp[run_underlying hT,Instr.slice,hb,Go.sizeOf,run_typeInfo w pD,tJ];split<;>simp
  .simp only[PE.ev,hd,bm,dZ,D.l_list,D.i_int,xD];have hlen:((xs.take m2).drop m1).length=m2-m1:=by simp;omega
   have jL:∀(i:Nat) (y:D),((xs.take m2).drop m1)[i]?=some y->xs[m1+i]?=some y:=by
        intro i y hy;simp only[eH,dJ] at hy;split at hy
        .exact hy
        .cases hy
   have jK:∀(i j:Nat) (v:Value),i<m2-m1->(vs (m1+i)).cells[j]?=some v->V.c k (off+m1*inf.size+i*t.size+j)=some v:=by
        intro i j v hi hj;have:=h4 (m1+i) j v (by omega) hj;rw[qm] at this;rw[hs]
        rwa [<-vu] at this
   split
   .rename_i Bv;refine .slice t k off (m2-m1) (c-m1) _ (λi=>vs (m1+i)) hlen (by omega) (by omega) (λi y hy=>h3 _ _ (jL i y hy)) (λi j v hi hj=>by omega)
   .exact .slice t k (off+m1*inf.size) (m2-m1) (c-m1) _ (λi=>vs (m1+i)) hlen (by omega) (by omega) (λi y hy=>h3 _ _ (jL i y hy)) jK
def ahh (h:Inv C S O V own hv w0 σ0 A a w)(hC:CtxOK C σ0)(hg:holds gs O=true):∀(xs:List Operand) (r:List Ty×List PE),lN C S gs xs=some r->
 r.1.length=xs.length/\r.2.length=xs.length/\∀(i:Nat) (t:Ty),r.1[i]?=some t->Rep C.cap V t ((xs.map a.eval).getD i undef) ((PE.evs O r.2).getD i .none):=by
 intro xs
 induction xs with
 |nil=>intro r hr;simp[lN] at hr;subst hr;exact⟨rfl,rfl,by simp⟩
 |cons x xs ih=>
  intro r hr;simp only[lN,aw,aC] at hr;obtain⟨p,hp,q,hq,rfl⟩:=hr;obtain⟨l1,l2,aI⟩:=ih q hq;refine⟨by simp[l1],by simp[l2],λi t hi=>?_⟩;cases i with
  |zero=>simp at hi;subst hi;simpa [PE.evs] using cQ h hC hg hp
  |succ i=>simp at hi;simpa [PE.evs] using aI i t hi
def arL (h:Inv C S O V own hv w0 σ0 A a w)(hC:CtxOK C σ0)(hg:holds gs O=true){fn:Fn}{first caps:Array Operand}{r:Sh×List PI}(hr:SR C S gs dst fn first caps=some r){o:Oper}(ho:o.op=.makeFunc fn first caps):
 fm C S O V hv Z dst a w o r:=by
 unfold SR at hr;split at hr
 case h_2=>cases hr
 rename_i f EM;have EJ:first=#[]:=by simpa using EM
 subst EJ;simp only[aw] at hr;obtain⟨cs,dY,p,hp,hr⟩:=hr;cases hb:Ty.subs p.1 cs.caps<;>simp only[hb,zyx,zyw] at hr
 .cases hr
 cases hr;obtain⟨l1,l2,aI⟩:=ahh h hC hg _ _ hp;have hl:=Ty.subs_len _ _ hb;refine .dat (v:=.func (.func f) #[] (caps.map a.eval)) ?_ ?_
 .simp[execOp,ho,Instr.makeFunc]
 .simp only[PE.ev];have:caps.map a.eval=(caps.toList.map a.eval).toArray:=by apply tq;rw[xy]
  rw[this];have e1:(caps.toList.map a.eval).length=cs.caps.length:=by rw[gp];omega
  have e2:(PE.evs O p.2).length=cs.caps.length:=by rw[PE.evs_eq,gp];omega
  refine .fn f cs _ _ dY e1 e2 (λi t hi=>?_);obtain⟨s,hs,bZ⟩:=Ty.subs_get _ _ hb i t hi;exact(aI i s hs).sub bZ
def arX (h:Inv C S O V own hv w0 σ0 A a w)(hC:CtxOK C σ0)(hg:holds gs O=true){x:Operand}{r:Sh×List PI}(hr:Cl C S gs dst x=some r){o:Oper}(ho:o.op=.nilCheck x):
 fm C S O V hv Z dst a w o r:=by
 have ao:∀k off,a.eval x=.pointer (some ⟨k,off,none⟩)->(execOp a.eval o).run C.P w=.ok (.value (a.eval x)) w:=by
  intro k off e;simp[execOp,ho,e]
 unfold Cl at hr;split at hr
 .rename_i t e hu;cases hr;have aT:=cQ h hC hg hu;obtain⟨k,off,v,y,aQ,bm,bY,jK⟩:=Rep.ref_inv aT;exact .dat (ao k off aQ) aT
 .split at hr
  .rename_i t _;obtain⟨hs,eY⟩:=nQ h hg t;split at hr
   .rename_i j ver off es;rw[es] at hs;cases hb:Nat.beq ver (S.ver j)<;>simp only[hb,zyx,zyw] at hr
    .cases hr
    cases hr;obtain⟨k,fK,gK⟩:=hs.2 (aA hb);intro O' Fb;exact⟨_,_,u7 Fb,ao k off gK,hs,λ_ _ e=>by cases e⟩
   .rename_i j ver sz off es;rw[es] at hs;cases hb:Nat.beq ver (S.ver j)<;>simp only[hb,zyx,zyw] at hr
    .cases hr
    cases hr;have fe:=hs;obtain⟨k,n,c,ik,i,fK,vR,bp,gK⟩:=hs.2 (aA hb);intro O' Fb;exact⟨_,_,u7 Fb,ao _ _ gK,fe,λ_ _ e=>by cases e⟩
   .cases hr
  .cases hr
def ahs {cap:Nat->Option CSig}{t:Ty}{z:Ty×D}{v:Value}(h:rD t=some z)(hz:zF t v=true):Rep cap V z.1 v z.2/\z.1.one=true/\Ty.sub z.1 t=true:=by
 unfold zF at hz;split at hz
 .simp at hz;obtain⟨rfl,rfl⟩:=hz;simp[rD] at h;subst h;exact⟨.int _ 0 (by rename_i k;cases k<;>decide) (by rename_i k;cases k<;>decide),rfl,by simp[Ty.sub,Ty.beq]⟩
 .simp at hz;subst hz;simp[rD] at h;subst h;exact⟨.bool false,rfl,rfl⟩
 .rename_i s;have:s=ByteArray.empty:=by
   have:s.size=0:=by simpa using hz
   cases s with|mk d=>simp[ByteArray.size] at this;subst this;rfl
  subst this;simp[rD] at h;subst h;exact⟨.str _ (by decide),rfl,rfl⟩
 .simp[rD] at h;subst h;exact⟨.nils _,rfl,rfl⟩
 .simp[rD] at h;subst h;refine⟨.mapnil _ _,rfl,?_⟩;simp only[Ty.sub];exact Ty.beq_refl _
 .simp[rD] at h;subst h;exact⟨.fnnil _ _,rfl,by simp only[Ty.sub];exact Ty.beq_refl _⟩
 .cases hz
end
def mapM_some {α β:Type}(f:α->Option β):∀(l:List α) (r:List β),l.mapM f=some r->r.length=l.length/\∀(i:Nat) (x:α),l[i]?=some x->∃y,r[i]?=some y/\f x=some y
 |[],r,h=>by simp at h;subst h;exact⟨rfl,by simp⟩
 |x::l,r,h=>by
  simp only[XO,Option.bind_eq_bind,aw] at h;obtain⟨y,hy,ys,uy,h⟩:=h;cases h;obtain⟨h1,h2⟩:=mapM_some f l ys uy;refine⟨by simp[h1],λi z hi=>?_⟩;cases i with
  |zero=>simp at hi;subst hi;exact⟨y,rfl,hy⟩
  |succ i=>simp at hi;simpa using h2 i z hi
def Xt:∀(ts:List Ty) (vs:List Value),Dc ts vs=true->vs.length=ts.length/\∀(i:Nat) (t:Ty),ts[i]?=some t->∃v,vs[i]?=some v/\zF t v=true
 |[],vs,h=>by cases vs<;>simp_all [Dc]
 |t::ts,vs,h=>by
  cases vs with
  |nil=>simp[Dc] at h
  |cons v vs=>
   simp only[Dc,aq] at h;obtain⟨h1,h2⟩:=Xt ts vs h.2;refine⟨by simp[h1],λi u hi=>?_⟩;cases i with
   |zero=>simp at hi;subst hi;exact⟨v,rfl,h.1⟩
   |succ i=>simp at hi;simpa using h2 i u hi
def zG {cap:Nat->Option CSig}{V:Im}{t:Ty}{z:Ty×D}{v:Value}(h:qg t=some z)(hz:kC t v=true):Rep cap V z.1 v z.2/\Ty.sub z.1 t=true/\z.1.one=t.one:=by
 cases t with
 |agg ts=>
  simp only[qg,aC] at h;obtain⟨zs,uA,rfl⟩:=h;cases v with
  |agg vs=>
   simp only[kC] at hz;obtain⟨l1,h1⟩:=Xt ts vs.toList hz;obtain⟨l2,h2⟩:=mapM_some _ _ _ uA;have key:∀(i:Nat) (t:Ty),ts[i]?=some t->∃y v,zs[i]?=some y/\vs.toList[i]?=some v/\Rep cap V y.1 v y.2/\y.1.one=true/\Ty.sub y.1 t=true:=by
      intro i t hi;obtain⟨y,hy,ux⟩:=h2 i t hi;obtain⟨v,hv,jk⟩:=h1 i t hi;obtain⟨g1,g2,g3⟩:=ahs (cap:=cap) (V:=V) ux jk;exact⟨y,v,hy,hv,g1,g2,g3⟩
   have bU:∀(ts:List Ty) (zs:List (Ty×D)),zs.length=ts.length->(∀(i:Nat) (t:Ty),ts[i]?=some t->∃y,zs[i]?=some y/\Ty.sub y.1 t=true)->Ty.subs (zs.map (·.1)) ts=true:=by
      intro ts
      induction ts with
      |nil=>intro zs hl _;cases zs<;>simp_all [Ty.subs]
      |cons t ts ih=>
       intro zs hl hh;cases zs with
       |nil=>simp at hl
       |cons z zs=>
        simp only[gq,Ty.subs,aq];refine⟨?_,ih zs (by simpa using hl) λi u hu=>by simpa using hh (i+1) u (by simpa using hu)⟩;obtain⟨y,hy,ux⟩:=hh 0 t rfl;simp at hy;subst hy;exact ux
   refine⟨?_,?_,rfl⟩
   .have:vs=vs.toList.toArray:=by simp
    rw[this];refine .agg _ _ _ (by rw[gp];omega) (by simp) (λi t hi=>?_) (λi t hi=>?_)
    .simp only[cV,aC] at hi;obtain⟨q,hq,rfl⟩:=hi;obtain⟨t',BQ⟩:∃t',ts[i]?=some t':=⟨_,bE (by have:=(eV.1 hq).1;omega)⟩
     obtain⟨y,v,hy,hv,g1,g2,g3⟩:=key i t' BQ;rw[hq] at hy;cases hy;rw[tY hv,tY (show(zs.map (·.2))[i]?=some q.2 by simp[hq])];exact g1
    .simp only[cV,aC] at hi;obtain⟨q,hq,rfl⟩:=hi;obtain⟨t',BQ⟩:∃t',ts[i]?=some t':=⟨_,bE (by have:=(eV.1 hq).1;omega)⟩
     obtain⟨y,v,hy,hv,g1,g2,g3⟩:=key i t' BQ;rw[hq] at hy;cases hy;exact g2
   .simp only[Ty.sub];exact bU ts zs l2 λi t hi=>by obtain⟨y,v,hy,hv,g1,g2,g3⟩:=key i t hi;exact⟨y,hy,g3⟩
  |_=>simp[kC] at hz
 |_=>
  obtain⟨g1,g2,g3⟩:=ahs (cap:=cap) (V:=V) (by simpa [qg] using h) (by simpa [kC] using hz);exact⟨g1,g3,(Ty.sub_one _ _ g3).1⟩
def aiB {a b:ByteArray}(h:(a==b)=true):a=b:=by
 cases a with|mk x=>cases b with|mk y=>
 have:(x==y)=true:=h;rw[eq_of_beq this]
def aiC (a:ByteArray):(a==a)=true:=by
 cases a with|mk x=>
 show(x==x)=true;simp
def RJ {P:Program}{K:TypeId}{kt:Ty}(hk:nG P K kt=true):
 (∃k k',kt=.int k/\P.underlying K=some (.int k'))\/(kt=.str/\P.underlying K=some .string)\/(kt=.bool/\P.underlying K=some .bool):=by
 unfold nG at hk;split at hk
 .split at hk
  .exact .inl ⟨_,_,rfl,by assumption⟩
  .cases hk
 .split at hk
  .exact .inr (.inl ⟨rfl,by assumption⟩)
  .cases hk
 .split at hk
  .exact .inr (.inr ⟨rfl,by assumption⟩)
  .cases hk
 .cases hk
def akB {cap:Nat->Option CSig}{V:Im}{P:Program}{K:TypeId}{kt:Ty}{desc:TypeDesc}(hk:nG P K kt=true)(hu:P.underlying K=some desc){v:Value}{d:D}(hv:Rep cap V kt v d):
 ∀(es:List MapEntry) (ds:List (D×D)) (i:Nat),ds.length=es.length->(∀(j:Nat) (e:MapEntry) (p:D×D),es[j]?=some e->ds[j]?=some p->Rep cap V kt e.key p.1)->
  (Instr.findNow desc v es i=some none/\∀(j:Nat) (p:D×D),ds[j]?=some p->fA d p.1=false)\/
  ∃j e p,es[j]?=some e/\ds[j]?=some p/\Instr.findNow desc v es i=some (some (i+j,e.val))/\fA d p.1=true/\Instr.sameBits 10000 e.key v=true/\∀m q,m<j->ds[m]?=some q->fA d q.1=false:=by
 have df:∀(v':Value) (d':D),Rep cap V kt v' d'->Instr.sameNow desc v v'=some (fA d d')/\(fA d d'=true->Instr.sameBits 10000 v' v=true):=by
  intro v' d' h';rcases RJ hk with⟨k,k',rfl,me⟩|⟨rfl,me⟩|⟨rfl,me⟩
  .rw[hu] at me;cases me;obtain⟨n,rfl,rfl,_⟩:=hv.int_inv;obtain⟨m,rfl,rfl,_⟩:=h'.int_inv;refine⟨by simp[Instr.sameNow,fA,D.cells,sy,uD],λe=>?_⟩;have:n=m:=by simpa [fA,D.cells,sy,uD] using e
   subst this;simp[Instr.sameBits]
  .rw[hu] at me;cases me;obtain⟨n,rfl,rfl,_⟩:=hv.str_inv;obtain⟨m,rfl,rfl,_⟩:=h'.str_inv;refine⟨by simp[Instr.sameNow,fA,D.cells,sy,uD],λe=>?_⟩;have:n=m:=aiB (by simpa [fA,D.cells,sy,uD] using e);subst this;simpa [Instr.sameBits] using aiC n
  .rw[hu] at me;cases me;obtain⟨n,rfl,rfl⟩:=hv.bool_inv;obtain⟨m,rfl,rfl⟩:=h'.bool_inv;refine⟨by simp[Instr.sameNow,fA,D.cells,sy,uD],λe=>?_⟩;have:n=m:=by simpa [fA,D.cells,sy,uD] using e
   subst this;simp[Instr.sameBits]
 intro es
 induction es with
 |nil=>intro ds i hl _;left;exact⟨rfl,by cases ds<;>simp_all⟩
 |cons e es ih=>
  intro ds i hl aI;cases ds with
  |nil=>simp at hl
  |cons p ds=>
   obtain⟨hs,hb⟩:=df e.key p.1 (aI 0 e p rfl rfl);cases oz:fA d p.1 with
   |true=>
    right;rw[oz] at hs;exact⟨0,e,p,rfl,rfl,by simp[Instr.findNow,hs],oz,hb oz,λm q hm=>by omega⟩
   |false=>
    rw[oz] at hs;rcases ih ds (i+1) (by simpa using hl) (λj e' p' he hp=>aI (j+1) e' p' (by simpa using he) (by simpa using hp)) with⟨h1,h2⟩|⟨j,e',p',h1,h2,h3,h4,h5,h6⟩
    .left;refine⟨by simp[Instr.findNow,hs,h1],λj q hq=>?_⟩;cases j with
     |zero=>simp at hq;subst hq;exact oz
     |succ j=>exact h2 j q (by simpa using hq)
    .right;refine⟨j+1,e',p',by simpa using h1,by simpa using h2,?_,h4,h5,λm q hm hq=>?_⟩
     .simp[Instr.findNow,hs,h3];omega
     .cases m with
      |zero=>simp at hq;subst hq;exact oz
      |succ m=>exact h6 m q (by omega) (by simpa using hq)
def RV {d:D}:∀{ds:List (D×D)},(∀(j:Nat) (p:D×D),ds[j]?=some p->fA d p.1=false)->nH d ds=none
 |[],_=>rfl
 |p::ds,h=>by simp only[nH,h 0 p rfl];exact RV λj q hq=>h (j+1) q (by simpa using hq)
def RW {d:D}:∀{ds:List (D×D)} {j:Nat} {p:D×D},ds[j]?=some p->fA d p.1=true->(∀(m:Nat) (q:D×D),m<j->ds[m]?=some q->fA d q.1=false)->nH d ds=some p.2
 |[],j,p,hp,_,_=>by simp at hp
 |x::ds,0,p,hp,hk,_=>by simp at hp;subst hp;simp[nH,hk]
 |x::ds,j+1,p,hp,hk,hm=>by
  simp only[nH,hm 0 x (by omega) rfl];exact RW (j:=j) (by simpa using hp) hk λm q ah hq=>hm (m+1) q (by omega) (by simpa using hq)
def Ta {d v:D}:∀{ds:List (D×D)},(∀(j:Nat) (p:D×D),ds[j]?=some p->fA d p.1=false)->ml d v ds=ds++[(d,v)]
 |[],_=>rfl
 |p::ds,h=>by simp only[ml,h 0 p rfl,xA,if_false,HM];rw[Ta λj q hq=>h (j+1) q (by simpa using hq)]
def Tb {d v:D}:∀{ds:List (D×D)} {j:Nat} {p:D×D},ds[j]?=some p->fA d p.1=true->(∀(m:Nat) (q:D×D),m<j->ds[m]?=some q->fA d q.1=false)->ml d v ds=ds.set j (d,v)
 |[],j,p,hp,_,_=>by simp at hp
 |x::ds,0,p,hp,hk,_=>by simp at hp;subst hp;simp[ml,hk]
 |x::ds,j+1,p,hp,hk,hm=>by
  simp only[ml,hm 0 x (by omega) rfl,xA,if_false,List.set_cons_succ];rw[Tb (j:=j) (by simpa using hp) hk λm q ah hq=>hm (m+1) q (by omega) (by simpa using hq)]
def abE {P:Program}{K:TypeId}{kt:Ty}(hk:BY P K kt=true):
 ∃k k' e q i,kt=.agg [.int k,.int k']/\P.underlying K=some (.array 2 e)/\P.underlying e=some (.int q)/\P.plainKey e=true/\P.info? e=some i/\P.cellsOf e=1:=by
 unfold BY at hk;split at hk
 case h_2=>cases hk
 rename_i k k';split at hk
 case h_2=>cases hk
 rename_i n e hu;simp only[aq] at hk;obtain⟨⟨⟨h1,h2⟩,h3⟩,h4⟩:=hk;have hn:=aA h1;subst hn;split at h2
 case h_2=>cases h2
 rename_i q hq;split at h4
 case h_2=>cases h4
 rename_i i hi;exact⟨k,k',e,q,i,rfl,hu,hq,h3,hi,aA h4⟩
def Rep.pair_inv {cap:Nat->Option CSig}{V:Im}{k k':IntKind}{v:Value}{d:D}(h:Rep cap V (.agg [.int k,.int k']) v d):∃a b,v=.agg #[.int k a,.int k' b]/\d=.agg [.v (.int k a),.v (.int k' b)]:=by
 generalize ht:Ty.agg [.int k,.int k']=t at h;cases h with
 |agg ts vs ds h1 h2 h ho=>
  cases ht;obtain⟨x,y,rfl⟩:∃x y,vs=[x,y]:=by
   match vs,h1 with
   |[x,y],_=>exact⟨x,y,rfl⟩
  obtain⟨p,q,rfl⟩:∃x y,ds=[x,y]:=by
   match ds,h2 with
   |[x,y],_=>exact⟨x,y,rfl⟩
  obtain⟨a,e1,e2,_⟩:=(h 0 _ rfl).int_inv;obtain⟨b,e3,e4,_⟩:=(h 1 _ rfl).int_inv;simp at e1 e2 e3 e4;subst e1 e2 e3 e4;exact⟨a,b,rfl,rfl⟩
 |_=>cases ht
def at2 {P:Program}{K e:TypeId}{q:IntKind}{i:TypeInfo}(hu:P.underlying K=some (.array 2 e))(hq:P.underlying e=some (.int q))(hp:P.plainKey e=true)(hi:P.info? e=some i)(hc:P.cellsOf e=1)(k k':IntKind)(a b c d:Int)(w:World):
 (Op.equal K (.agg #[.int k a,.int k' b]) (.agg #[.int k c,.int k' d])).run P w=.ok (a==c&&b==d) w:=by
 unfold Op.equal;show(Op.equalIn (9999+1) K _ _).run P w=_;rw[run_equalIn_array w 9999 _ _ hu hi,hc];have e0:List.range 2=[0,1]:=rfl;have p0:∀(x y:Value) (w:World),(part e #[x,y] 0).run P w=.ok x w:=λx y w=>run_part_plain w hp rfl;have p1:∀(x y:Value) (w:World),(part e #[x,y] 1).run P w=.ok y w:=λx y w=>run_part_plain w hp rfl;have q0:∀(k:IntKind) (a b:Int) (w:World),(Op.equalIn 9999 e (.int k a) (.int k b)).run P w=.ok (a==b) w:=λk a b w=>run_equalIn_int w 9998 e k q a b hq;rw[e0];simp only[Op.eqItems,Sem.run_bind,Nat.zero_mul,Nat.one_mul,p0,p1,Result.andThen_ok,q0];cases a==c
 .simp
 .simp only[tw,xA,if_false,Sem.run_bind,p1,Result.andThen_ok,q0];cases b==d<;>simp
def abD {P:Program}{K:TypeId}{kt:Ty}(hk:wA P K kt=true):nG P K kt=true\/BY P K kt=true:=by
 unfold wA at hk;simpa using hk
def aiX {cap:Nat->Option CSig}{V:Im}{P:Program}{K:TypeId}{kt:Ty}(hk:BY P K kt=true){v:Value}{d:D}(hv:Rep cap V kt v d){w:World}{b:Bool}:(Instr.checkKey b 10000 K v).run P w=.ok () w:=by
 obtain⟨k,k',e,q,i,rfl,hu,hq,hp,hi,hc⟩:=abE hk;obtain⟨x,y,rfl,_⟩:=hv.pair_inv;have p0:∀(x y:Value) (w:World),(part e #[x,y] 0).run P w=.ok x w:=λx y w=>run_part_plain w hp rfl;have p1:∀(x y:Value) (w:World),(part e #[x,y] 1).run P w=.ok y w:=λx y w=>run_part_plain w hp rfl
 have c0:∀(m:Nat) (k:IntKind) (n:Int) (w:World),(Instr.checkKey b (m+1) e (.int k n)).run P w=.ok () w:=λm k n w=>by
  simp[Instr.checkKey,run_underlying hq]
 have s0:∀w:World,(Go.sizeOf e).run P w=Result.ok 1 w:=λw=>by rw[run_sizeOf w hi,hc]
 have main:∀m,(Instr.checkKey b (m+1+1) K (.agg #[.int k x,.int k' y])).run P w=.ok () w:=by
  intro m;rw[Instr.checkKey];simp only[Sem.run_bind,run_underlying hu,Result.andThen_ok,Std.Legacy.Range.forIn_eq_forIn_range',Std.Legacy.Range.size,Nat.sub_zero,Nat.add_one_sub_one,Nat.div_one];simp[List.range',s0,p0,p1,c0,Sem.run_bind,Result.andThen_ok]
 exact main 9998
def YA {cap:Nat->Option CSig}{V:Im}{P:Program}{K:TypeId}{kt:Ty}(hk:wA P K kt=true){v:Value}{d:D}(hv:Rep cap V kt v d){w:World}{b:Bool}:(Instr.checkKey b 10000 K v).run P w=.ok () w:=by
 rcases abD hk with hk|hk
 case inr=>exact aiX hk hv
 have:∀n,(Instr.checkKey b (n+1) K v).run P w=.ok () w:=by
  intro n;rcases RJ hk with⟨k,k',rfl,hu⟩|⟨rfl,hu⟩|⟨rfl,hu⟩<;>cases v<;>simp[Instr.checkKey,run_underlying hu]
 exact this 9999
section
variable {C:Ctx} {S:St} {O:Env} {V:Im} {own:Nat->Option Nat} {hv:Nat->Value} {w0:World} {σ0:Base} {A:Nat->Prop} {a:Act} {w:World} {gs:List (Nat×Bool)} {Z:aV} {dst:Nat}
def apl {P:Program}{K:TypeId}{kt:Ty}(hk:nG P K kt=true):∃desc,P.underlying K=some desc:=by
 rcases RJ hk with⟨k,k',rfl,hu⟩|⟨rfl,hu⟩|⟨rfl,hu⟩<;>exact⟨_,hu⟩
def at3 {cap:Nat->Option CSig}{P:Program}{K:TypeId}{kt et:Ty}(hk:BY P K kt=true){v:Value}{d:D}(hv:Rep cap V kt v d)(arr:Array MapEntry)(ds:List (D×D))(hl:ds.length=arr.size)
 (aI:∀(j:Nat) (e:MapEntry) (p:D×D),arr[j]?=some e->ds[j]?=some p->Rep cap V kt e.key p.1/\Rep cap V et e.val p.2) (w:World):
 ((Instr.findKey K v arr.toList).run P w=.ok none w/\nH d ds=none/\∀u,ml d u ds=ds++[(d,u)])\/
 ∃j e p,arr[j]?=some e/\ds[j]?=some p/\(Instr.findKey K v arr.toList).run P w=.ok (some (j,e.val)) w/\nH d ds=some p.2/\(∀u,ml d u ds=ds.set j (d,u))/\Instr.sameBits 10000 e.key v=true:=by
 obtain⟨k,k',e,q,i,rfl,hu,hq,hp,hi,hc⟩:=abE hk;have df:∀(v':Value) (d':D),Rep cap V (.agg [.int k,.int k']) v' d'->(Op.equal K v v').run P w=.ok (fA d d') w/\(fA d d'=true->Instr.sameBits 10000 v' v=true)/\Instr.sameNow (.array 2 e) v v'=none:=by
  intro v' d' h';obtain⟨a,b,rfl,rfl⟩:=hv.pair_inv;obtain⟨a',b',rfl,rfl⟩:=h'.pair_inv;refine⟨?_,λhe=>?_,rfl⟩
  .rw[at2 hu hq hp hi hc];simp[fA,D.cells,sy,uD]
  .have:a=a'/\b=b':=by simpa [fA,D.cells,sy,uD] using he
   obtain⟨rfl,rfl⟩:=this;simp[Instr.sameBits]
 have ask:∀(es:List MapEntry) (ds:List (D×D)) (i:Nat),ds.length=es.length->(∀(j:Nat) (e:MapEntry) (p:D×D),es[j]?=some e->ds[j]?=some p->Rep cap V (.agg [.int k,.int k']) e.key p.1)->
  ((Instr.findAsking K v es i).run P w=.ok none w/\∀(j:Nat) (p:D×D),ds[j]?=some p->fA d p.1=false)\/
  ∃j e p,es[j]?=some e/\ds[j]?=some p/\(Instr.findAsking K v es i).run P w=.ok (some (i+j,e.val)) w/\fA d p.1=true/\Instr.sameBits 10000 e.key v=true/\∀m q,m<j->ds[m]?=some q->fA d q.1=false:=by
  intro es
  induction es with
  |nil=>intro ds i hl _;left;exact⟨by simp[Instr.findAsking],by cases ds<;>simp_all⟩
  |cons en es ih=>
   intro ds i hl aI;cases ds with
   |nil=>simp at hl
   |cons p ds=>
    obtain⟨hs,hb,_⟩:=df en.key p.1 (aI 0 en p rfl rfl);cases oz:fA d p.1 with
    |true=>
     right;rw[oz] at hs;exact⟨0,en,p,rfl,rfl,by simp[Instr.findAsking,hs],oz,hb oz,λm q hm=>by omega⟩
    |false=>
     rw[oz] at hs;rcases ih ds (i+1) (by simpa using hl) (λj e' p' he hp=>aI (j+1) e' p' (by simpa using he) (by simpa using hp)) with⟨h1,h2⟩|⟨j,e',p',h1,h2,h3,h4,h5,h6⟩
     .left;refine⟨by simp[Instr.findAsking,hs,h1],λj q hq=>?_⟩;cases j with
      |zero=>simp at hq;subst hq;exact oz
      |succ j=>exact h2 j q (by simpa using hq)
     .right;refine⟨j+1,e',p',by simpa using h1,by simpa using h2,?_,h4,h5,λm q hm hq=>?_⟩
      .simp[Instr.findAsking,hs,h3];omega
      .cases m with
       |zero=>simp at hq;subst hq;exact oz
       |succ m=>exact h6 m q (by omega) (by simpa using hq)
 have l9:(Instr.findKey K v arr.toList).run P w=(Instr.findAsking K v arr.toList 0).run P w:=by
  cases ke:arr.toList with
  |nil=>simp[Instr.findKey,run_underlying hu,Instr.findNow,Instr.findAsking]
  |cons en es=>
   obtain⟨p,BK⟩:∃p,ds[0]?=some p:=by
        have:0<ds.length:=by rw[hl];have:=congrArg List.length ke;simp at this;omega
        exact⟨_,bE this⟩
   have Qq:arr[0]?=some en:=by rw[<-zH,ke];rfl
   have:=(df en.key p.1 (aI 0 en p Qq BK).1).2.2;simp[Instr.findKey,run_underlying hu,Instr.findNow,this]
 rw[l9];rcases ask arr.toList ds 0 (by simpa using hl) (λj e p he hp=>(aI j e p (by simpa using he) hp).1) with⟨h1,h2⟩|⟨j,e,p,h1,h2,h3,h4,h5,h6⟩
 .left;exact⟨h1,RV h2,λu=>Ta h2⟩
 .right;simp only[fR] at h3;exact⟨j,e,p,by simpa using h1,h2,h3,RW h2 h4 h6,λu=>Tb h2 h4 h6,h5⟩
def run_findKey {cap:Nat->Option CSig}{P:Program}{K:TypeId}{kt et:Ty}(vY:wA P K kt=true){v:Value}{d:D}(hv:Rep cap V kt v d)(arr:Array MapEntry)(ds:List (D×D))(hl:ds.length=arr.size)
 (aI:∀(j:Nat) (e:MapEntry) (p:D×D),arr[j]?=some e->ds[j]?=some p->Rep cap V kt e.key p.1/\Rep cap V et e.val p.2) (w:World):
 ((Instr.findKey K v arr.toList).run P w=.ok none w/\nH d ds=none/\∀u,ml d u ds=ds++[(d,u)])\/
 ∃j e p,arr[j]?=some e/\ds[j]?=some p/\(Instr.findKey K v arr.toList).run P w=.ok (some (j,e.val)) w/\nH d ds=some p.2/\(∀u,ml d u ds=ds.set j (d,u))/\Instr.sameBits 10000 e.key v=true:=by
 rcases abD vY with hk|hk
 case inr=>exact at3 hk hv arr ds hl aI w
 obtain⟨desc,hu⟩:=apl hk;rcases akB hk hu hv arr.toList ds 0 (by simpa using hl) (λj e p he hp=>(aI j e p (by simpa using he) hp).1) with⟨h1,h2⟩|⟨j,e,p,h1,h2,h3,h4,h5,h6⟩
 .left;exact⟨by simp[Instr.findKey,run_underlying hu,h1],RV h2,λu=>Ta h2⟩
 .right;refine⟨j,e,p,by simpa using h1,h2,?_,RW h2 h4 h6,λu=>Tb h2 h4 h6,h5⟩;simp only[fR] at h3;simp[Instr.findKey,run_underlying hu,h3]
def arV (h:Inv C S O V own hv w0 σ0 A a w)(hC:CtxOK C σ0)(hg:holds gs O=true){T:TypeId}{m k:Operand}{ok:Bool}{r:Sh×List PI}(hr:Ck C S gs dst T m k ok=some r){o:Oper}(ho:o.op=.lookup T m k ok):
 fm C S O V hv Z dst a w o r:=by
 unfold Ck at hr;split at hr
 case h_2=>cases hr
 rename_i K E hT;simp only[aw] at hr;obtain⟨p,hp,q,hq,hr⟩:=hr;have aT:=Xo h hC hg hp;have eD:=cQ h hC hg hq;split at hr
 case h_2=>cases hr
 rename_i kt et e1;rw[e1] at aT;split at hr
 case h_2=>cases hr
 rename_i z inf hz pD;cases hc:(Ty.beq q.1 kt&&wA C.P K kt&&Ty.sub z.1 et&&vg inf et)<;>simp only[hc,zyx,zyw] at hr
 .cases hr
 simp only[aq] at hc;obtain⟨⟨⟨KO,EV⟩,bU⟩,hzero⟩:=hc;rw[Ty.beq_eq _ _ KO] at eD;obtain⟨v0,uu,Fx⟩:∃v0,inf.zero=some v0/\Rep C.cap V et v0 z.2:=by
  unfold vg at hzero;split at hzero
  .rename_i v0 e0;exact⟨v0,e0,(zG hz hzero).1.sub bU⟩
  .cases hzero
 have ana:∃(arr:Array MapEntry) (ds:List (D×D)),(p.2.ev O).m=ds/\ds.length=arr.size/\
  (∀(j:Nat) (e:MapEntry) (p:D×D),arr[j]?=some e->ds[j]?=some p->Rep C.cap V kt e.key p.1/\Rep C.cap V et e.val p.2)/\
  ((a.eval m=.map none/\arr=#[])\/∃g clock,a.eval m=.map (some g)/\w.heap[g]?=some (.map arr clock)):=by
  rcases aT with aT|⟨T',e,cells,xs,ht,_⟩|⟨g,arr,clock,es,kt',et',ht,hvm,hb,hd,hl,hx,aI⟩
  .generalize yP:a.eval m=v at aT;generalize EF:p.2.ev O=d at aT;cases aT with
   |mapnil=>exact⟨#[],[],by simp[D.m],rfl,by simp,.inl ⟨rfl,rfl⟩⟩
   |map kt et r kB es hm hl hx hk he=>
    obtain⟨_,arr,clock,hb,ke⟩:=(h.ok.m _ _ hm).resolve_right (λe=>FN hl hk e.1);have hn:es.length=arr.size:=by rw[hl,<-ke];simp[entriesOf]
    refine⟨arr,es,by simp[D.m],hn,λj e p hj hp=>?_,.inr ⟨r,clock,rfl,hb⟩⟩;have:kB[j]?=some (e.key,e.val):=by rw[<-ke];simp[entriesOf,hj]
    exact⟨hk j _ p this hp,he j _ p this hp⟩
  .cases ht
  .cases ht;exact⟨arr,es,by rw[hd];rfl,hl,aI,.inr ⟨g,clock,hvm,hb⟩⟩
 obtain⟨arr,ds,hd,hl,aI,cO⟩:=ana;have ls:∀b,(Instr.checkKey b 10000 K (a.eval k)).run C.P w=.ok () w:=λb=>YA (cap:=C.cap) (V:=V) EV eD;have QG:∃u b x,(Instr.lookup T (a.eval m) (a.eval k) ok).run C.P w=.ok (if ok then .tuple #[u,.bool b] else u) w/\(nH (q.2.ev O) (p.2.ev O).m).getD z.2=x/\(nH (q.2.ev O) (p.2.ev O).m).isSome=b/\Rep C.cap V et u x:=by
  rw[hd];rcases run_findKey EV eD arr ds hl aI w with⟨h1,h2,_⟩|⟨j,e,x,h1,h2,h3,h4,_,_⟩
  .refine⟨v0,false,z.2,?_,by rw[h2];rfl,by rw[h2];rfl,Fx⟩;rcases cO with⟨em,rfl⟩|⟨g,clock,em,hb⟩
   .simp only[List.toList_toArray] at h1;cases ok<;>simp[Instr.lookup,run_underlying hT,em,ls,h1,zeroValue,run_typeInfo w pD,uu]
   .cases ok<;>simp[Instr.lookup,run_underlying hT,em,getObj,Sem.run,hb,ls,h1,zeroValue,run_typeInfo w pD,uu]
  .refine⟨e.val,true,x.2,?_,by rw[h4];rfl,by rw[h4];rfl,(aI j e x h1 h2).2⟩;rcases cO with⟨em,rfl⟩|⟨g,clock,em,hb⟩
   .simp at h1
   .cases ok<;>simp[Instr.lookup,run_underlying hT,em,getObj,Sem.run,hb,ls,h3]
 obtain⟨u,b,x,ao,cg,dA,bY⟩:=QG;cases ok with
 |true=>
  simp only[zyx] at hr;cases hr;refine .dat (v:=.tuple #[u,.bool b]) (by simp[execOp,ho,ao]) ?_;simp only[PE.ev,PE.evs,cg,dA];refine .tup [et,.bool] [u,.bool b] [x,.v (.bool b)] rfl rfl (λi t hi=>?_)
  match i,hi with
  |0,hi=>simp at hi;subst hi;exact bY
  |1,hi=>simp at hi;subst hi;exact .bool b
  |i+2,hi=>simp at hi
 |false=>
  simp only[zyw] at hr;cases hr;refine .dat (v:=u) (by simp[execOp,ho,ao]) ?_;simp only[PE.ev,cg];exact bY
end
def Zw (off:Nat):∀(l:List Value) (s:Nat) (cells:Array Value),off+s+l.length<=cells.size->
 ((l.zipIdx s).foldl (λcs (x:Value×Nat)=>cs.setIfInBounds (off+x.2) x.1) cells).size=cells.size/\
 ∀p,((l.zipIdx s).foldl (λcs (x:Value×Nat)=>cs.setIfInBounds (off+x.2) x.1) cells)[p]?=if off+s<=p/\p<off+s+l.length then l[p-(off+s)]? else cells[p]?
 |[],s,cells,_=>by
  refine⟨rfl,λp=>?_⟩;have:¬(off+s<=p/\p<off+s+0):=by omega
  simp only[List.zipIdx_nil,XM,tE];rw[if_neg this]
 |v::l,s,cells,h=>by
  simp only[mA] at h;obtain⟨h1,h2⟩:=Zw off l (s+1) (cells.setIfInBounds (off+s) v) (by simp;omega);simp only[List.zipIdx_cons,HQ];refine⟨by rw[h1];simp,λp=>?_⟩;rw[h2 p];by_cases hp:p=off+s
  .subst hp;have c1:¬(off+(s+1)<=off+s/\off+s<off+(s+1)+l.length):=by omega
   have c2:off+s<=off+s/\off+s<off+s+(v::l).length:=by simp
   rw[if_neg c1,if_pos c2,xw,if_pos rfl,if_pos (by omega)];simp
  .by_cases hc:off+(s+1)<=p/\p<off+(s+1)+l.length
   .have c2:off+s<=p/\p<off+s+(v::l).length:=by simp only[mA];omega
    rw[if_pos hc,if_pos c2];rw[show p-(off+s)=(p-(off+(s+1)))+1 by omega];simp
   .have c2:¬(off+s<=p/\p<off+s+(v::l).length):=by simp only[mA];omega
    rw[if_neg hc,if_neg c2,xw];rw[if_neg (by omega)]
def PF (place:Nat->Option (Nat×Nat)):∀(parts:List (Nat×Value)) (cells:Array Value),
 (∀p,p∈parts->∃o,place p.1=some (o,p.2.cells.size)/\o+p.2.cells.size<=cells.size)->
 (∀i j oi si oj sj,i≠j->place i=some (oi,si)->place j=some (oj,sj)->oi+si<=oj\/oj+sj<=oi)->(parts.map (·.1)).Nodup->
 ∃dK,Instr.fill place cells parts=some dK/\dK.size=cells.size/\
  (∀i v o,(i,v)∈parts->place i=some (o,v.cells.size)->∀m,m<v.cells.size->dK[o+m]?=v.cells[m]?)/\
  (∀i o s,i∉parts.map (·.1)->place i=some (o,s)->∀m,m<s->dK[o+m]?=cells[o+m]?)
 |[],cells,_,_,_=>⟨cells,rfl,rfl,by simp,λ_ _ _ _ _ _ _=>rfl⟩
 |(i,v)::parts,cells,h,By,bn=>by
  obtain⟨o,hp,hle⟩:=h (i,v) (er ..);simp only at hp hle;obtain⟨g1,g2⟩:=Zw o v.cells.toList 0 cells (by simp;omega);simp only[gq,nX] at bn
  have hz:v.cells.zipIdx.foldl (λcs (x:Value×Nat)=>cs.setIfInBounds (o+x.2) x.1) cells=(v.cells.toList.zipIdx 0).foldl (λcs (x:Value×Nat)=>cs.setIfInBounds (o+x.2) x.1) cells:=by
    rw[<-Array.foldl_toList];simp
  generalize EC:(v.cells.toList.zipIdx 0).foldl (λcs (x:Value×Nat)=>cs.setIfInBounds (o+x.2) x.1) cells=c1 at g1 g2 hz
  obtain⟨dK,k1,k2,k3,k4⟩:=PF place parts c1 (λp hm=>by
    obtain⟨o',h1,h2⟩:=h p (dW _ hm);exact⟨o',h1,by rw[g1];exact h2⟩) By bn.2
  refine⟨dK,?_,k2.trans g1,?_,?_⟩
  .simp only[Instr.fill,hp];have:¬((v.cells.size≠v.cells.size||decide (o+v.cells.size>cells.size))=true):=by simp;omega
   rw[if_neg this];rw[<-k1,<-hz]
  .intro j u o' hm BL m ah;rcases cZ.1 hm with e|dM
   .cases e;rw[hp] at BL;cases BL;rw[k4 i o v.cells.size bn.1 hp m ah,g2];rw[if_pos (by simp;omega)];simp
   .exact k3 j u o' dM BL m ah
  .intro j o' s' yC BL m ah;simp only[gq,cZ,not_or] at yC;rw[k4 j o' s' yC.2 BL m ah,g2];have:=By i j o v.cells.size o' s' (λe=>yC.1 e.symm) hp BL;rw[if_neg (by simp;omega)]
section
variable {C:Ctx} {S:St} {O:Env} {V:Im} {own:Nat->Option Nat} {hv:Nat->Value} {w0:World} {σ0:Base} {A:Nat->Prop} {a:Act} {w:World} {gs:List (Nat×Bool)} {Z:aV} {dst:Nat}
def Rep.flat {cap:Nat->Option CSig}{t:Ty}{v:Value}{d:D}(h:Rep cap V t v d)(ht:t.rowT=true\/t.one=true):
 t.flat.length=t.size/\d.cells.length=t.size/\∀(m:Nat) (tm:Ty),t.flat[m]?=some tm->tm.one=true/\Rep cap V tm (v.cells.getD m undef) (d.cells.getD m .none):=by
 cases h with
 |agg ts vs ds h1 h2 h ho=>
  refine⟨rfl,by simp[D.cells,Ty.size,h2],λm tm hm=>⟨ho m tm hm,?_⟩⟩;have:=h m tm hm;simpa [Value.cells,D.cells,fb,aN] using this
 |tup ts vs ds h1 h2 h=>simp[Ty.rowT,Ty.one] at ht
 |_=>
  refine⟨rfl,rfl,λm tm hm=>?_⟩
  match m,hm with
  |0,hm=>
   simp only[Ty.flat,NV,aS] at hm;subst hm;refine⟨rfl,?_⟩;simp only[Value.cells,D.cells,vm];constructor<;>assumption
  |m+1,hm=>simp[Ty.flat] at hm
def nJ:∀{l:List Nat},iy l=true->l.Nodup
 |[],_=>List.nodup_nil
 |a::r,h=>by
  simp only[iy,aq,iY] at h;refine nX.2 ⟨λhm=>?_,nJ h.2⟩;have:=zL.1 h.1 a hm;simp at this
def Laid (P:Program):List Field->Nat->Prop
 |[],_=>True
 |f::fs,off=>f.offset=off/\∃inf,P.info? f.type=some inf/\Laid P fs (off+inf.size)
def Laid.get {P:Program}:∀{fs:List Field} {off:Nat},Laid P fs off->∀(i:Nat) (f:Field),fs[i]?=some f->∃inf,P.info? f.type=some inf/\off<=f.offset/\
 ∀(j:Nat) (g:Field),i<j->fs[j]?=some g->f.offset+inf.size<=g.offset
 |[],_,_,i,f,hi=>by simp at hi
 |f0::fs,off,h,i,f,hi=>by
  obtain⟨h1,inf,h2,h3⟩:=h;cases i with
  |zero=>
   simp at hi;subst hi;refine⟨inf,h2,by omega,λj g hj hg=>?_⟩;cases j with
   |zero=>omega
   |succ j=>obtain⟨_,_,h4,_⟩:=h3.get j g (by simpa using hg);omega
  |succ i=>
   simp at hi;obtain⟨ao7,k1,k2,k3⟩:=h3.get i f hi;refine⟨ao7,k1,by omega,λj g hj hg=>?_⟩;cases j with
   |zero=>omega
   |succ j=>exact k3 j g (by omega) (by simpa using hg)
def aeo {ft:Ty}{x:Operand}{y:List AgC×PE}(h:uK C S gs ft x=some y):y.1.length=ft.size:=by
 have PN:∀t:Ty,t.flat.length=t.size:=λt=>by cases t<;>simp[Ty.flat,Ty.size]
 unfold uK at h;split at h
 .rename_i a _;cases hs:(Ty.sub a.1 ft&&(a.1.rowT||a.1.one))<;>simp only[hs,zyx,zyw] at h
  .cases h
  cases h;simp only[aq] at hs;rw[gp,PN,(Ty.sub_one _ _ hs.1).2]
 .split at h
  .rename_i j ver _;cases hb:(Nat.beq ver (S.ver j)&&RH (S.o j)&&Nat.beq ft.size 1)<;>simp only[hb,zyx,zyw] at h
   .cases h
   cases h;simp only[aq] at hb;exact(aA hb.2).symm
  .cases h
def aep (h:Inv C S O V own hv w0 σ0 A a w)(hC:CtxOK C σ0)(hg:holds gs O=true){ft:Ty}{x:Operand}{y:List AgC×PE}(hy:uK C S gs ft x=some y):
 (a.eval x).cells.size=ft.size/\(y.2.ev O).cells.length=ft.size/\∀(m:Nat) (c:AgC),y.1[m]?=some c->nV C S V hv c ((a.eval x).cells.getD m undef) ((y.2.ev O).cells.getD m .none):=by
 unfold uK at hy;split at hy
 .rename_i q hq;cases hs:(Ty.sub q.1 ft&&(q.1.rowT||q.1.one))<;>simp only[hs,zyx,zyw] at hy
  .cases hy
  cases hy;simp only[aq,fQ] at hs;have hr:=cQ h hC hg hq;obtain⟨f1,f2,f3⟩:=hr.flat hs.2;have e:=(Ty.sub_one _ _ hs.1).2;refine⟨by rw[hr.size,e],by rw[f2,e],λm c hm=>?_⟩;simp only[cV,aC] at hm;obtain⟨t,ht,rfl⟩:=hm;exact f3 m t ht
 .split at hy
  .rename_i j ver ff;cases hb:(Nat.beq ver (S.ver j)&&RH (S.o j)&&Nat.beq ft.size 1)<;>simp only[hb,zyx,zyw] at hy
   .cases hy
   cases hy;simp only[aq] at hb;obtain⟨⟨cH,bC⟩,fV⟩:=hb;have ed:=aA cH;have aH:=aA fV;have eM:aK C S O V hv (fO S gs x) (a.eval x) ((rz x).ev O):=by
        cases x with
        |tmp t=>exact(nQ h hg t).1
        |_=>cases ff
   rw[ff] at eM;have aQ:=eM.2 ed;have ba:=h.objs j;have hc:(a.eval x).cells=#[a.eval x]:=by
        rw[aQ];cases ho:S.o j with
        |row T e=>
         rw[ho] at ba;obtain⟨cells,xs,_,h2,_⟩:=ba;rcases h2.2 with⟨e1,_⟩|⟨g,cap,cur,e1,_⟩<;>rw[e1]<;>rfl
        |_=>rw[ho] at bC;cases bC
   refine⟨by rw[hc,aH];rfl,by rw[aH];rfl,λm c hm=>?_⟩;cases m with
   |zero=>
    simp at hm;subst hm;rw[hc];exact eM
   |succ m=>simp at hm
  .cases hy
def aiF {zs:List Value}{parts:List (Nat×Operand)}:∀(fs:List Field) (i off:Nat) (r:List AgC×List PE),lV C S gs zs parts fs i off=some r->Laid C.P fs off:=by
 intro fs
 induction fs with
 |nil=>intro i off r _;trivial
 |cons f fs ih=>
  intro i off r h;simp only[lV] at h;split at h
  case h_2=>cases h
  rename_i inf ft hi ht;cases hc:(Nat.beq f.offset off&&Nat.beq inf.size ft.size)<;>simp only[hc,zyx,zyw] at h
  .cases h
  simp only[aq] at hc;simp only[aw] at h;obtain⟨q,hq,_⟩:=h;exact⟨aA hc.1,inf,hi,ih _ _ _ hq⟩
def Yn {zs:List Value}{parts:List (Nat×Operand)}:∀(fs:List Field) (i off:Nat) (r:List AgC×List PE),lV C S gs zs parts fs i off=some r->off<=zs.length:=by
 intro fs
 induction fs with
 |nil=>intro i off r h;simp only[lV] at h;cases hb:Nat.beq off zs.length<;>simp[hb] at h;exact Nat.le_of_eq (aA hb)
 |cons f fs ih=>
  intro i off r h;simp only[lV] at h;split at h
  case h_2=>cases h
  rename_i inf ft hi ht;cases hc:(Nat.beq f.offset off&&Nat.beq inf.size ft.size)<;>simp only[hc,zyx,zyw] at h
  .cases h
  simp only[aw] at h;obtain⟨q,hq,_⟩:=h;have:=ih _ _ _ hq;omega
def aiE {zs:List Value}{parts:List (Nat×Operand)}:∀(fs:List Field) (i off:Nat) (r:List AgC×List PE),lV C S gs zs parts fs i off=some r->
 ∃ft:List AgC×List PE,r=ft/\(∀(m:Nat) (f:Field) (inf:TypeInfo),fs[m]?=some f->C.P.info? f.type=some inf->f.offset+inf.size<=zs.length)/\(∀(m:Nat) (x:Nat×Operand) (f:Field) (inf:TypeInfo),fs[m]?=some f->C.P.info? f.type=some inf->parts.find? (λp=>Nat.beq p.1 (i+m))=some x->∃y ft,uK C S gs ft x.2=some y/\ft.size=inf.size)/\off+r.1.length=zs.length:=by
 intro fs
 induction fs with
 |nil=>intro i off r h;simp only[lV] at h;cases hb:Nat.beq off zs.length<;>simp[hb] at h;subst h;exact⟨_,rfl,by simp,by simp,by simpa using aA hb⟩
 |cons f fs ih=>
  intro i off r h;simp only[lV] at h;split at h
  case h_2=>cases h
  rename_i inf ft hi ht;cases hc:(Nat.beq f.offset off&&Nat.beq inf.size ft.size)<;>simp only[hc,zyx,zyw] at h
  .cases h
  simp only[aq] at hc;have kf:=aA hc.1;have aH:=aA hc.2;simp only[aw] at h;obtain⟨q,hq,h⟩:=h;have hle:=Yn _ _ _ _ hq;obtain⟨_,rfl,k1,k2,k3⟩:=ih _ _ _ hq;have e1:∀(m:Nat) (g:Field) (ig:TypeInfo),(f::fs)[m]?=some g->C.P.info? g.type=some ig->g.offset+ig.size<=zs.length:=by
   intro m g ig hm gX;cases m with
   |zero=>simp at hm;subst hm;rw[hi] at gX;cases gX;omega
   |succ m=>exact k1 m g ig (by simpa using hm) gX
  have PN:∀t:Ty,t.flat.length=t.size:=λt=>by cases t<;>simp[Ty.flat,Ty.size]
  split at h
  .rename_i x hx;simp only[aC] at h;obtain⟨y,hy,rfl⟩:=h;refine⟨_,rfl,e1,λm x' g ig hm gX hf=>?_,?_⟩
   .cases m with
    |zero=>
     simp at hm;subst hm;rw[hi] at gX;cases gX;simp only[iZ] at hf;rw[hx] at hf;cases hf;exact⟨y,ft,hy,aH.symm⟩
    |succ m=>exact k2 m x' g ig (by simpa using hm) gX (by rwa [show i+(m+1)=i+1+m by omega] at hf)
   .have:=aeo hy;simp only[jY];omega
  .rename_i hx;cases nE:kC ft (rowOf ft.rowT ((zs.drop off).take inf.size))<;>simp only[nE,zyx,zyw] at h
   .cases h
   simp only[aC] at h;obtain⟨z,hz,rfl⟩:=h;have bN:=(zG (cap:=C.cap) (V:=⟨λ_ _=>none,λ_=>none⟩) hz nE).2.1;refine⟨_,rfl,e1,λm x' g ig hm gX hf=>?_,?_⟩
   .cases m with
    |zero=>simp only[iZ] at hf;rw[hx] at hf;cases hf
    |succ m=>exact k2 m x' g ig (by simpa using hm) gX (by rwa [show i+(m+1)=i+1+m by omega] at hf)
   .have:=(Ty.sub_one _ _ bN).2;simp only[jY,gp,PN];omega
def aiG (h:Inv C S O V own hv w0 σ0 A a w)(hC:CtxOK C σ0)(hg:holds gs O=true){zs:List Value}{parts:List (Nat×Operand)}(cells:Array Value):
 ∀(fs:List Field) (i off:Nat) (r:List AgC×List PE),lV C S gs zs parts fs i off=some r->
  (∀(m:Nat) (f:Field) (inf:TypeInfo),fs[m]?=some f->C.P.info? f.type=some inf->
        (∀x,parts.find? (λp=>Nat.beq p.1 (i+m))=some x->∀q,q<inf.size->cells[f.offset+q]?=(a.eval x.2).cells[q]?)/\
        (parts.find? (λp=>Nat.beq p.1 (i+m))=none->∀q,q<inf.size->cells[f.offset+q]?=zs[f.offset+q]?))->
  (PE.evc O r.2).length=r.1.length/\∀(m:Nat) (c:AgC),r.1[m]?=some c->nV C S V hv c (cells.getD (off+m) undef) ((PE.evc O r.2).getD m .none):=by
 intro fs
 induction fs with
 |nil=>intro i off r hr _;simp only[lV] at hr;cases hb:Nat.beq off zs.length<;>simp[hb] at hr;subst hr;simp[PE.evc]
 |cons f fs ih=>
  intro i off r hr aI;simp only[lV] at hr;split at hr
  case h_2=>cases hr
  rename_i inf ft hi ht;cases hc:(Nat.beq f.offset off&&Nat.beq inf.size ft.size)<;>simp only[hc,zyx,zyw] at hr
  .cases hr
  simp only[aq] at hc;have kf:=aA hc.1;have aH:=aA hc.2;simp only[aw] at hr;obtain⟨q,hq,hr⟩:=hr
  obtain⟨l1,wg⟩:=ih (i+1) (off+inf.size) q hq (λm g ao8 hm gX=>by
   have:=aI (m+1) g ao8 (by simpa using hm) gX
   rwa [show i+(m+1)=i+1+m by omega] at this)
  obtain⟨hp,hn⟩:=aI 0 f inf rfl hi;have join:∀(l:List AgC) (v:Value) (d:D) (pe:PE),pe.ev O=d->l.length=inf.size->d.cells.length=inf.size->(∀m c,l[m]?=some c->nV C S V hv c (v.cells.getD m undef) (d.cells.getD m .none))->(∀m,m<inf.size->cells[f.offset+m]?=v.cells[m]?)->
        (PE.evc O (pe::q.2)).length=(l++q.1).length/\∀(m:Nat) (c:AgC),(l++q.1)[m]?=some c->nV C S V hv c (cells.getD (off+m) undef) ((PE.evc O (pe::q.2)).getD m .none):=by
   intro l v d pe v8 f1 f2 f3 aR;simp only[PE.evc,v8];refine⟨by simp[f1,f2,l1],λm t' hm=>?_⟩;rw[ni] at hm;split at hm
   .rename_i ah;have g2:=f3 m t' hm;have e1:cells.getD (off+m) undef=v.cells.getD m undef:=by
     rw[fb,fb,<-kf,aR m (by omega)]
    have e2:(d.cells++PE.evc O q.2).getD m .none=d.cells.getD m .none:=by
     rw[aN,aN,lT (by omega)]
    rw[e1,e2];exact g2
   .rename_i gx;have g2:=wg _ t' hm;have e1:off+inf.size+(m-l.length)=off+m:=by omega
    have e2:(d.cells++PE.evc O q.2).getD m .none=(PE.evc O q.2).getD (m-l.length) .none:=by
     rw[aN,aN,jX (by omega)];rw[f1,<-f2]
    rw[e1] at g2;rw[e2];exact g2
  simp only[iZ] at hp hn;split at hr
  .rename_i x hx;simp only[aC] at hr;obtain⟨y,hy,rfl⟩:=hr;obtain⟨g1,g2,g3⟩:=aep h hC hg hy;exact join y.1 (a.eval x.2) (y.2.ev O) y.2 rfl (by rw[aeo hy,aH]) (by rw[g2,aH]) g3 (hp x hx)
  .rename_i hx;cases nE:kC ft (rowOf ft.rowT ((zs.drop off).take inf.size))<;>simp only[nE,zyx,zyw] at hr
   .cases hr
   simp only[aC] at hr;obtain⟨z,hz,rfl⟩:=hr;obtain⟨k1,k2,k3⟩:=zG (cap:=C.cap) (V:=V) hz nE;have KS:(rowOf ft.rowT ((zs.drop off).take inf.size)).cells.size=inf.size:=by rw[k1.size,(Ty.sub_one _ _ k2).2,aH]
   have jj:z.1.rowT=true\/z.1.one=true:=by
        cases ft<;>simp[qg,rD] at hz<;>first|(subst hz;simp[Ty.one])|(obtain⟨_,_,rfl⟩:=hz;simp[Ty.rowT])
   obtain⟨z1,z2,z3⟩:=k1.flat jj;have ez:z.1.size=inf.size:=by rw[(Ty.sub_one _ _ k2).2,aH]
   refine join (z.1.flat.map .dat) (rowOf ft.rowT ((zs.drop off).take inf.size)) z.2 (.con z.2) rfl (by rw[gp,z1,ez]) (by rw[z2,ez]) (λm c hm=>?_) (λm hm=>?_)
   .simp only[cV,aC] at hm;obtain⟨t,ht,rfl⟩:=hm;exact z3 m t ht
   .rw[hn hx m hm,kf];cases wh:ft.rowT with
    |true=>simp[rowOf,Value.cells,dJ,eH,hm]
    |false=>
     rw[wh] at KS k1;have h1:(z.1).rowT=false:=by
       have:=(Ty.sub_one _ _ k2)
       cases ft<;>simp[Ty.rowT] at wh<;>simp[qg,rD] at hz<;>subst hz<;>rfl
     rw[k1.cells1 h1] at KS ⊢;simp at KS;have hm0:m=0:=by omega
     subst hm0;have:∃u,zs[off]?=some u:=⟨_,bE (show off<zs.length by have:=Yn _ _ _ _ hq;omega)⟩
     simp[rowOf,aN,dJ,eH,<-KS];obtain⟨u,hu⟩:=this;simp[hu]
def abF {P:Program}:∀(fs:List Field) (off:Nat),Laid P fs off->
 ∃l:List (Nat×Nat),fs.mapM (λf=>(P.info? f.type).map λi=>(f.offset,i.size))=some l/\l.length=fs.length/\
  ∀(i:Nat) (f:Field) (inf:TypeInfo),fs[i]?=some f->P.info? f.type=some inf->l[i]?=some (f.offset,inf.size)
 |[],_,_=>⟨[],rfl,rfl,by simp⟩
 |f::fs,off,h=>by
  obtain⟨h1,inf,h2,h3⟩:=h;obtain⟨l,k1,k2,k3⟩:=abF fs _ h3;refine⟨(f.offset,inf.size)::l,?_,by simp[k2],λi g ig hi gX=>?_⟩
  .simp[XO,h2,k1]
  .cases i with
   |zero=>simp at hi;subst hi;rw[h2] at gX;cases gX;rfl
   |succ i=>simp at hi;simpa using k3 i g ig hi gX
def Zi {parts:List (Nat×Operand)}(bn:(parts.map (·.1)).Nodup){i:Nat}{x:Operand}(h:(i,x)∈parts):parts.find? (λp=>Nat.beq p.1 i)=some (i,x):=by
 induction parts with
 |nil=>cases h
 |cons p ps ih=>
  simp only[gq,nX] at bn;rcases cZ.1 h with e|hm
  .subst e;simp
  .have:¬p.1=i:=λe=>bn.1 (e▸List.mem_map_of_mem (f:=(·.1)) hm);rw[List.find?_cons_of_neg (by simpa using this)];exact ih bn.2 hm
def arA (h:Inv C S O V own hv w0 σ0 A a w)(hC:CtxOK C σ0)(hg:holds gs O=true){T:TypeId}{ps:Array (Nat×Operand)}{r:Sh×List PI}(hr:Cc C S gs dst T ps.toList=some r){o:Oper}(ho:o.op=.build T ps):
 fm C S O V hv Z dst a w o r:=by
 unfold Cc at hr;split at hr
 case h_3=>cases hr
 case h_2=>
  rename_i n e inf hT pD;split at hr
  case h_2=>cases hr
  rename_i zs ie hz hie;split at hr
  case h_2=>cases hr
  rename_i x y ur;simp only[aw] at hr;obtain⟨p,hp,q,hq,hr⟩:=hr;split at hr
  case h_2=>cases hr
  rename_i k k' hk bM;cases hc:(Nat.beq n 2&&Nat.beq zs.size 2&&Nat.beq ie.size 1)<;>simp only[hc,zyx,zyw] at hr
  .cases hr
  cases hr;simp only[aq] at hc;obtain⟨⟨c1,c2⟩,c3⟩:=hc;have c1:=aA c1;have c2:=aA c2;have c3:=aA c3;subst c1;have hx:=cQ h hC hg hp;have hy:=cQ h hC hg hq;rw[hk] at hx;rw[bM] at hy;obtain⟨a1,Ps,ea2,_⟩:=hx.int_inv;obtain⟨b1,Pt,eb2,_⟩:=hy.int_inv;have aoh:ps=#[(0,x),(1,y)]:=by rw[<-vi];exact ur
  obtain⟨z0,z1,rfl⟩:∃z0 z1,zs=#[z0,z1]:=by
   match zs,c2 with
   |⟨[z0,z1]⟩,_=>exact⟨z0,z1,rfl⟩
  have Qf:C.P.built T [(0,a.eval x),(1,a.eval y)]=some #[a.eval x,a.eval y]:=by
   rw[Ps,Pt];simp only[Program.built,pD,hT,hz,hie,c3];simp[Instr.fill,Value.cells]
  have ao:(execOp a.eval o).run C.P w=.ok (.value (.agg #[a.eval x,a.eval y])) w:=by
   have:=run_build (P:=C.P) w T (ps.map λ(x:Nat×Operand)=>(x.1,a.eval x.2)) #[a.eval x,a.eval y] (by rw[aoh];simpa using Qf);simp[execOp,ho,this]
  refine .dat ao ?_;have e1:(PE.mk [p.2,q.2]).ev O=.agg [p.2.ev O,q.2.ev O]:=by simp[PE.ev,PE.evc,ea2,eb2,D.cells]
  rw[e1];refine .agg _ [a.eval x,a.eval y] _ rfl rfl (λi t hi=>?_) (λi t hi=>?_)
  .match i,hi with
   |0,hi=>simp at hi;subst hi;rw[hk];simpa using hx
   |1,hi=>simp at hi;subst hi;rw[bM];simpa using hy
   |i+2,hi=>simp at hi
  .match i,hi with
   |0,hi=>simp at hi;subst hi;rw[hk];rfl
   |1,hi=>simp at hi;subst hi;rw[bM];rfl
   |i+2,hi=>simp at hi
 rename_i fs inf hT pD;split at hr
 case h_2=>cases hr
 rename_i zs hz;cases hc:(iy (ps.toList.map (·.1))&&ps.toList.all (λp=>Nat.blt p.1 fs.size))<;>simp only[hc,zyx,zyw] at hr
 .cases hr
 simp only[aq] at hc;obtain⟨bn,ah⟩:=hc;simp only[aC] at hr;obtain⟨q,hq,rfl⟩:=hr;have KQ:=aiF _ _ _ _ hq;have kP:=nJ bn;obtain⟨_,rfl,bp,aoP,uh⟩:=aiE _ _ _ _ hq;obtain⟨pl,dO,aCg,E8⟩:=abF _ _ KQ
 have kR:∀p,p∈(ps.toList.map λ(x:Nat×Operand)=>(x.1,a.eval x.2))->∃o,pl.toArray[p.1]?=some (o,p.2.cells.size)/\o+p.2.cells.size<=zs.size:=by
  intro p hp;obtain⟨x,hx,rfl⟩:=dX.1 hp;have yS:x.1<fs.toList.length:=by
   have:=bJ.1 ah x hx;have h2:x.1<fs.size:=by simpa [jB] using this
   simpa using h2
  obtain⟨f,hf⟩:∃f,fs.toList[x.1]?=some f:=⟨_,bE yS⟩
  obtain⟨ig,gX,_,_⟩:=KQ.get _ _ hf;have EL:=Zi kP (i:=x.1) (x:=x.2) hx;obtain⟨y,ft,hy,aH⟩:=aoP x.1 (x.1,x.2) f ig hf gX (by simpa using EL);have wj:=(aep h hC hg hy).1;rw[aH] at wj;simp only;refine⟨f.offset,?_,?_⟩
  .rw[wj];simpa using E8 x.1 f ig hf gX
  .rw[wj];simpa using bp x.1 f ig hf gX
 have By:∀(i j oi si oj sj:Nat),i≠j->pl.toArray[i]?=some (oi,si)->pl.toArray[j]?=some (oj,sj)->oi+si<=oj\/oj+sj<=oi:=by
  intro i j oi si oj sj aB hi hj;simp only[HS] at hi hj;obtain⟨f,hf⟩:∃f,fs.toList[i]?=some f:=⟨_,bE (by have:=(eV.1 hi).1;omega)⟩
  obtain⟨g,ox⟩:∃g,fs.toList[j]?=some g:=⟨_,bE (by have:=(eV.1 hj).1;omega)⟩
  obtain⟨ig,gX,_,anL⟩:=KQ.get _ _ hf;obtain⟨jg,hjg,_,anM⟩:=KQ.get _ _ ox;rw[E8 i f ig hf gX] at hi;rw[E8 j g jg ox hjg] at hj;cases hi;cases hj;rcases H2 i j with ah|gx
  .exact .inl (anL j g ah ox)
  .exact .inr (anM i f (by omega) hf)
 obtain⟨dK,f1,f2,f3,f4⟩:=PF (pl.toArray[·]?) (ps.toList.map λ(x:Nat×Operand)=>(x.1,a.eval x.2)) zs kR By (by simpa [HL] using kP)
 have Qf:C.P.built T (ps.toList.map λ(x:Nat×Operand)=>(x.1,a.eval x.2))=some dK:=by
  simp only[Program.built,pD,hT,hz,dO];exact f1
 have ao:(execOp a.eval o).run C.P w=.ok (.value (.agg dK)) w:=by
  have:=run_build (P:=C.P) w T (ps.map λ(x:Nat×Operand)=>(x.1,a.eval x.2)) dK (by rw[xy];exact Qf);simp[execOp,ho,this]
 have yi:∀(m:Nat) (f:Field) (ig:TypeInfo),fs.toList[m]?=some f->C.P.info? f.type=some ig->
  (∀x,ps.toList.find? (λp=>Nat.beq p.1 (0+m))=some x->∀q,q<ig.size->dK[f.offset+q]?=(a.eval x.2).cells[q]?)/\
  (ps.toList.find? (λp=>Nat.beq p.1 (0+m))=none->∀q,q<ig.size->dK[f.offset+q]?=zs.toList[f.offset+q]?):=by
  intro m f ig hm gX;refine⟨λx hx p hp=>?_,λhx p hp=>?_⟩
  .have cg:x.1=m:=by have:=HP hx;simpa using this
   have yT:(x.1,a.eval x.2)∈(ps.toList.map λ(x:Nat×Operand)=>(x.1,a.eval x.2)):=dX.2 ⟨x,rI hx,rfl⟩;obtain⟨o',eC,hle⟩:=kR _ yT;simp only at eC hle;have aaS:=E8 m f ig hm gX;simp only[HS,cg] at eC;rw[aaS] at eC;simp only[aS,pg] at eC;obtain⟨e1,e2⟩:=eC;exact f3 x.1 (a.eval x.2) f.offset yT (by simp[cg,aaS,<-e2]) p (by omega)
  .have yC:m∉(ps.toList.map λ(x:Nat×Operand)=>(x.1,a.eval x.2)).map (·.1):=by
        intro cL;simp only[NY,dX,HL] at cL;obtain⟨x,yT,e⟩:=cL;have:=qk.1 hx x yT;simp[e] at this
   rw[f4 m f.offset ig.size yC (by simpa using E8 m f ig hm gX) p hp];simp
 obtain⟨l1,aI⟩:=aiG h hC hg dK _ _ _ _ hq yi;have Bt:dK=dK.toList.toArray:=by simp
 have hlen:dK.toList.length=q.1.length:=by simp[f2] at uh ⊢;omega
 have jH:∀(i:Nat) (c:AgC),q.1[i]?=some c->nV C S V hv c (dK.toList.getD i undef) ((PE.evc O q.2).getD i .none):=λi c hi=>by
  have:=aI i c hi;simpa [fb,aN] using this
 cases Ql:q.1.all abq
 .simp only[zyw];exact λO' pJ=>⟨_,_,u7 pJ,ao,⟨dK.toList,PE.evc O q.2,by rw[<-Bt],by simp only[PE.ev],hlen,l1,jH⟩,λ_ _ e=>by cases e⟩
 .simp only[zyx];refine .dat ao ?_;simp only[PE.ev];rw[Bt]
  have qH:∀(i:Nat) (t:Ty),(q.1.map AgC.ty)[i]?=some t->t.one=true/\Rep C.cap V t (dK.toList.getD i undef) ((PE.evc O q.2).getD i .none):=λi t hi=>by
   simp only[cV,aC] at hi;obtain⟨c,hc,rfl⟩:=hi;have h1:=jH i c hc;have h2:=bJ.1 Ql c (lf hc);cases c with
   |dat t=>exact h1
   |obj j ver=>cases h2
  exact .agg _ _ _ (by rw[gp];exact hlen) (by rw[gp];exact l1) (λi t hi=>(qH i t hi).2) (λi t hi=>(qH i t hi).1)
end
end Cx
