/-
  Shared texts of this claim.
-/
import Derived.Test.YtopjnikcppafdaaGreatDoorMAA
import Derived.ChangeKeysEq
import Derived.Laws.Tables
set_option linter.defProp false
set_option linter.unusedSimpArgs false
set_option linter.unusedVariables false
namespace Cx
open Go Go.RowKit
def Rep.int_inv {cap:Nat->Option CSig}{V:Im}{k:IntKind}{v:Value}{d:D}(h:Rep cap V (.int k) v d):∃n,v=.int k n/\d=.v (.int k n)/\k.min<=n/\n<=k.max:=by
 cases h with
 |int k n h1 h2=>exact⟨n,rfl,rfl,h1,h2⟩
def Rep.bool_inv {cap:Nat->Option CSig}{V:Im}{v:Value}{d:D}(h:Rep cap V .bool v d):∃b,v=.bool b/\d=.v (.bool b):=by
 cases h with
 |bool b=>exact⟨b,rfl,rfl⟩
def Rep.str_inv {cap:Nat->Option CSig}{V:Im}{v:Value}{d:D}(h:Rep cap V .str v d):∃s,v=.string s/\d=.v (.string s)/\s.size<=maxLen:=by
 cases h with
 |str s h=>exact⟨s,rfl,rfl,h⟩
def Rep.slice_inv {cap:Nat->Option CSig}{V:Im}{e:Ty}{v:Value}{d:D}(h:Rep cap V (.slice e) v d):∃xs,d=.list xs/\
 (((∃p,v=.slice p 0 0)/\xs=[])\/∃k o c,v=.slice (some ⟨k,o,none⟩) xs.length c/\xs.length<=c/\c<=maxLen/\
   ∃vs:Nat->Value,(∀(i:Nat) (x:D),xs[i]?=some x->Rep cap V e.unf (vs i) x)/\∀(i j:Nat) (u:Value),i<xs.length->(vs i).cells[j]?=some u->V.c k (o+i*e.size+j)=some u):=by
 cases h with
 |nil e=>exact⟨[],rfl,.inl ⟨⟨_,rfl⟩,rfl⟩⟩
 |emp e a=>exact⟨[],rfl,.inl ⟨⟨_,rfl⟩,rfl⟩⟩
 |slice e k o n c xs vs hn hc hm h hv hz=>subst hn;exact⟨xs,rfl,.inr ⟨k,o,c,rfl,hc,hm,vs,h,hv⟩⟩
def Rep.slice_inv' {cap:Nat->Option CSig}{V:Im}{e:Ty}{v:Value}{d:D}(h:Rep cap V (.slice e) v d):∃xs,d=.list xs/\
 (((∃p,v=.slice p 0 0)/\xs=[])\/∃k o c,v=.slice (some ⟨k,o,none⟩) xs.length c/\xs.length<=c/\c<=maxLen/\(e=.int .i64->V.m k=some mH)/\
   ∃vs:Nat->Value,(∀(i:Nat) (x:D),xs[i]?=some x->Rep cap V e.unf (vs i) x)/\∀(i j:Nat) (u:Value),i<xs.length->(vs i).cells[j]?=some u->V.c k (o+i*e.size+j)=some u):=by
 cases h with
 |nil e=>exact⟨[],rfl,.inl ⟨⟨_,rfl⟩,rfl⟩⟩
 |emp e a=>exact⟨[],rfl,.inl ⟨⟨_,rfl⟩,rfl⟩⟩
 |slice e k o n c xs vs hn hc hm h hv hz=>subst hn;exact⟨xs,rfl,.inr ⟨k,o,c,rfl,hc,hm,hz,vs,h,hv⟩⟩
def Rep.ref_inv {cap:Nat->Option CSig}{V:Im}{t:Ty}{v:Value}{d:D}(h:Rep cap V (.ref t) v d):∃k o x y,v=.pointer (some ⟨k,o,none⟩)/\d=.ref y/\Rep cap V t x y/\∀(j:Nat) (u:Value),x.cells[j]?=some u->V.c k (o+j)=some u:=by
 cases h with
 |ref t k o x y h hv=>exact⟨k,o,x,y,rfl,rfl,h,hv⟩
def Rep.agg_inv {cap:Nat->Option CSig}{V:Im}{ts:List Ty}{v:Value}{d:D}(h:Rep cap V (.agg ts) v d):∃(vs:List Value) (ds:List D),v=.agg vs.toArray/\d=.agg ds/\vs.length=ts.length/\ds.length=ts.length/\
 (∀(i:Nat) (t:Ty),ts[i]?=some t->Rep cap V t (vs.getD i undef) (ds.getD i .none))/\∀(i:Nat) (t:Ty),ts[i]?=some t->t.one=true:=by
 cases h with
 |agg ts vs ds h1 h2 h ho=>exact⟨vs,ds,rfl,rfl,h1,h2,h,ho⟩
def Rep.tup_inv {cap:Nat->Option CSig}{V:Im}{ts:List Ty}{v:Value}{d:D}(h:Rep cap V (.tup ts) v d):∃(vs:List Value) (ds:List D),v=.tuple vs.toArray/\d=.tup ds/\vs.length=ts.length/\ds.length=ts.length/\
 (∀(i:Nat) (t:Ty),ts[i]?=some t->Rep cap V t (vs.getD i undef) (ds.getD i .none)):=by
 cases h with
 |tup ts vs ds h1 h2 h=>exact⟨vs,ds,rfl,rfl,h1,h2,h⟩
def uf (k:IntKind)(n:Int):k.min<=k.wrap n/\k.wrap n<=k.max:=by
 cases k<;>simp only[IntKind.min,IntKind.max,IntKind.wrap,IntKind.signed,IntKind.bits]<;>simp<;>(try split)<;>omega
def ajz (k:IntKind){a b:Int}(ha:k.min<=a/\a<=k.max):k.min<=a.tmod b/\a.tmod b<=k.max:=by
 have h1:k.min<=0:=by cases k<;>decide
 have h2:0<=k.max:=by cases k<;>decide
 have hn:(a.tmod b).natAbs<=a.natAbs:=by rw[Int.natAbs_tmod];exact Nat.mod_le _ _
 rcases Int.le_total 0 a with h|h
 .have:=Int.tmod_nonneg b h;omega
 .have:a.tmod b<=0:=by
   have:=Int.tmod_nonneg b (a:=-a) (by omega);rw[Int.neg_tmod] at this;omega
  omega
def ace (k:IntKind){a:Int}(n:Nat)(ha:k.min<=a/\a<=k.max):k.min<=a.fdiv (2^n)/\a.fdiv (2^n)<=k.max:=by
 have h1:k.min<=0:=by cases k<;>decide
 have h2:0<=k.max:=by cases k<;>decide
 have hp:(0:Int)<2^n:=Int.pow_pos (by decide);rw[akj _ (by omega)];rcases Int.le_total 0 a with h|h
 .have h3:=aam h (by omega:(0:Int)<=2^n);have h4:=Int.ediv_le_self (b:=2^n) h;omega
 .have h3:a/2^n<=0:=by
   have:=aal hp h;simpa using this
  have h4:a<=a/2^n:=by
   rw[Int.le_ediv_iff_mul_le hp];have:a*2^n<=a*1:=Int.mul_le_mul_of_nonpos_left h (by omega);omega
  omega
section
variable {C:Ctx} {S:St} {O:Env} {V:Im} {own:Nat->Option Nat} {hv:Nat->Value} {w0:World} {σ0:Base} {A:Nat->Prop} {a:Act} {w:World} {gs:List (Nat×Bool)} {Z:aS} {dst:Nat}
def vl {e:PE}{O':Env}(h:PI.runs Z [.setR dst e] O=some O'):O'=O.setR dst (e.ev O):=by
 simp[PI.runs,PI.run] at h;exact h.symm
def WT (hg:holds gs O=true){c e:PE}{O':Env}(h:PI.runs Z [sR gs c,.setR dst e] O=some O'):(c.ev O).b=true/\O'=O.setR dst (e.ev O):=by
 simp only[PI.runs,PI.run,sR] at h;cases eC:gs with
 |nil=>
  subst eC;simp only at h;cases hb:(c.ev O).b<;>simp[hb] at h;exact⟨rfl,h.symm⟩
 |cons g r=>
  rw[eC] at h;simp only at h;rw[eC] at hg;cases hb:(c.ev O).b
  .simp[PE.ev,hg,hb,D.b_bool] at h
  .simp[PE.ev,hg,hb,D.b_bool] at h;exact⟨rfl,h.symm⟩
def eL (C:Ctx)(S:St)(O:Env)(V:Im)(hv:Nat->Value)(Z:aS)(dst:Nat)(a:Act)(w:World)(o:Oper)(r:Sh×List PI):Prop:=
 ∀O',PI.runs Z r.2 O=some O'->∃v d,O'=O.setR dst d/\(execOp a.eval o).run C.P w=.ok (.value v) w/\aG C S O V hv r.1 v d/\∀gs s,r.1≠.opt gs s
def eL.dat {o:Oper}{t:Ty}{e:PE}{v:Value}(hx:(execOp a.eval o).run C.P w=.ok (.value v) w)(hr:Rep C.cap V t v (e.ev O)):
 eL C S O V hv Z dst a w o (.dat t,[.setR dst e]):=by
 intro O' h;exact⟨v,e.ev O,vl h,hx,hr,λ_ _ e=>by cases e⟩
def eL.datc (hg:holds gs O=true){o:Oper}{t:Ty}{c e:PE}(hx:(c.ev O).b=true->∃v,(execOp a.eval o).run C.P w=.ok (.value v) w/\Rep C.cap V t v (e.ev O)):
 eL C S O V hv Z dst a w o (.dat t,[sR gs c,.setR dst e]):=by
 intro O' h;obtain⟨hb,he⟩:=WT hg h;obtain⟨v,h1,h2⟩:=hx hb;exact⟨v,e.ev O,he,h1,h2,λ_ _ e=>by cases e⟩
def ahp (h:Inv C S O V own hv w0 σ0 A a w)(hC:CtxOK C σ0)(hg:holds gs O=true){x:Operand}{r:Sh×List PI}(hr:zt C S gs dst x=some r){o:Oper}(ho:o.op=.move x\/o.op=.assign x):
 eL C S O V hv Z dst a w o r:=by
 have hx:(execOp a.eval o).run C.P w=.ok (.value (a.eval x)) w:=by rcases ho with ho|ho<;>simp[execOp,ho,Sem.run,pure]
 unfold zt at hr;split at hr
 .rename_i y hy;cases hr;exact .dat hx (cv h hC hg hy)
 .split at hr
  .rename_i t _;obtain⟨hs,hn⟩:=nD h hg t;split at hr
   .cases hr
   .cases hr
   .cases hr;intro O' h';exact⟨_,_,vl h',hx,hs,hn⟩
  .cases hr
def auX (h:Inv C S O V own hv w0 σ0 A a w)(hC:CtxOK C σ0)(hg:holds gs O=true){c x y:Operand}{r:Sh×List PI}(hr:U0 C S gs dst c x y=some r){o:Oper}(ho:o.op=.pick c x y):
 eL C S O V hv Z dst a w o r:=by
 unfold U0 at hr;split at hr
 .rename_i t;split at hr
  .rename_i es;obtain⟨hs,_⟩:=nD h hg t;rw[es] at hs;obtain⟨b,aL,bu⟩:=Rep.bool_inv hs;simp only[az] at hr;obtain⟨q1,h1,q2,h2,hr⟩:=hr;cases hb:Ty.beq q1.1 q2.1<;>simp only[hb,zyy,zyx] at hr
   .cases hr
   .cases hr;have e2:=Ty.beq_eq _ _ hb;have ak:(execOp a.eval o).run C.P w=.ok (.value (if b then a.eval x else a.eval y)) w:=by
     have:a.eval (.tmp t)=.bool b:=aL;simp[execOp,ho,this,asBool,Sem.run,pure,bind,Sem.bind]
    refine .dat ak ?_;show Rep C.cap V q1.1 _ (bif (O.r t).b then q1.2.ev O else q2.2.ev O);have fE:(O.r t).b=b:=by rw[bu];rfl
    cases b with
    |true=>
     simp only[fE,zyy,if_true];exact cv h hC (by simp only[holds,sJ,fE];exact hg) h1
    |false=>
     simp only[fE,zyx];rw[e2];exact cv h hC (by simp only[holds,sJ,fE];exact hg) h2
  .cases hr
 .cases hr
def Ot {op:BinOp}{T T':TypeId}{x y:Operand}{v v':Value}{o:Oper}(ho:o.op=.binOp op T x y T')(hv:a.eval x=v)(hv':a.eval y=v')(h1:∀u,v≠.agg u)(h2:v≠.nilIface):
 (execOp a.eval o).run C.P w=((binOp op T v v').bind λr=>.pure (.value r)).run C.P w:=by
 have he:eqGuard op T x y v v'=.pure ():=by
  cases v<;>first|(exact absurd rfl h2)|(exact absurd rfl (h1 _))|(cases op<;>simp[eqGuard]<;>rfl)
 simp only[execOp,ho,hv,hv',he];rfl
def ab7 {P:Program}{cap:Nat->Option CSig}{V:Im}{O:Env}{x y:PE}(w:World)(d:Nat){t:Ty}{T:TypeId}{v u:Value}{e:PE}(hk:nm P T t=true)(he:yu t x y=some e)(g1:Rep cap V t v (x.ev O))(g2:Rep cap V t u (y.ev O)):
 ∃b,e.ev O=.v (.bool b)/\(Op.equalIn (d+1) T v u).run P w=.ok b w:=by
 cases t with
 |int k=>
  obtain⟨n,v1,d1,_⟩:=g1.int_inv;obtain⟨m,v2,d2,_⟩:=g2.int_inv;simp only[yu,aZ] at he;subst he;have hu:∃k',P.underlying T=some (.int k'):=by
   simp only[nm] at hk;split at hk
   .exact⟨_,by assumption⟩
   .cases hk
  obtain⟨k',hu⟩:=hu;exact⟨n==m,by simp only[PE.ev,d1,d2];rfl,by rw[v1,v2];exact run_equalIn_int w d T k k' n m hu⟩
 |bool=>
  obtain⟨n,v1,d1⟩:=g1.bool_inv;obtain⟨m,v2,d2⟩:=g2.bool_inv;simp only[yu,aZ] at he;subst he;have hu:P.underlying T=some .bool:=by
   simp only[nm] at hk;split at hk
   .assumption
   .cases hk
  exact⟨n==m,by simp only[PE.ev,d1,d2];rfl,by rw[v1,v2];exact run_equalIn_bool' w d T n m hu⟩
 |str=>
  obtain⟨n,v1,d1,_⟩:=g1.str_inv;obtain⟨m,v2,d2,_⟩:=g2.str_inv;simp only[yu,aZ] at he;subst he;have hu:P.underlying T=some .string:=by
   simp only[nm] at hk;split at hk
   .assumption
   .cases hk
  exact⟨n.toList==m.toList,by simp only[PE.ev,d1,d2];rfl,by rw[v1,v2];exact run_equalIn_string w d T n m hu⟩
 |_=>simp[yu] at he
def anJ {P:Program}{cap:Nat->Option CSig}{V:Im}{O:Env}{x y:PE}{X Y:List D}(w:World)(hx:x.ev O=.agg X)(hy:y.ev O=.agg Y){vs us:List Value}(b d:Nat):
 ∀(fs:List Field) (i:Nat) (ts:List Ty) (e:PE),yr P x y b fs i ts=some e->(∀j t,ts[j]?=some t->Rep cap V t (vs.getD (i+j) undef) (X.getD (b+i+j) .none)/\Rep cap V t (us.getD (i+j) undef) (Y.getD (b+i+j) .none))->
  i+ts.length<=vs.length->i+ts.length<=us.length->
  ∃b,e.ev O=.v (.bool b)/\(Op.eqFields (d+1) vs.toArray us.toArray fs).run P w=.ok b w:=by
 intro fs
 induction fs with
 |nil=>
  intro i ts e h _ _ _;cases ts with
  |nil=>simp only[yr,aZ] at h;subst h;exact⟨true,rfl,rfl⟩
  |cons t ts=>simp[yr] at h
 |cons f fs ih=>
  intro i ts e h hr l1 l2;cases ts with
  |nil=>simp[yr] at h
  |cons t ts=>
   simp only[yr] at h;cases hc:((f.name != "_")&&Nat.beq f.offset i&&nm P f.type t&&P.plainKey f.type)<;>simp only[hc,zyy,zyx] at h
   .cases h
   simp only[ao,bne_iff_ne,ne_eq] at hc;obtain⟨⟨⟨hn,ho⟩,hk⟩,hp⟩:=hc;have ho:=ay ho;simp only[az,aB] at h;obtain⟨e1,rH,r,ng,rfl⟩:=h
   obtain⟨b2,de,Gc⟩:=ih (i+1) ts r ng (λj t hj=>by
        have:=hr (j+1) t (by simpa using hj)
        rwa [show i+(j+1)=i+1+j by omega,show b+i+(j+1)=b+(i+1)+j by omega] at this) (by simp at l1;omega) (by simp at l2;omega)
   obtain⟨g1,g2⟩:=hr 0 t rfl;rw[iU,iU] at g1 g2;simp only[qT] at l1 l2;have wy:vs.toArray[f.offset]?=some (vs.getD i undef):=by rw[ho];simp[aE,show i<vs.length by omega]
   have Ta:us.toArray[f.offset]?=some (us.getD i undef):=by rw[ho];simp[aE,show i<us.length by omega]
   have p1:=run_part_plain (P:=P) (w:=w) hp wy;have p2:=run_part_plain (P:=P) (w:=w) hp Ta;have ex:(PE.cell x (b+i)).ev O=X.getD (b+i) .none:=by simp only[PE.ev,hx];rfl
   have ey:(PE.cell y (b+i)).ev O=Y.getD (b+i) .none:=by simp only[PE.ev,hy];rfl
   obtain⟨b1,gu,qe⟩:=ab7 (P:=P) w d (O:=O) hk rH (by rw[ex];exact g1) (by rw[ey];exact g2);refine⟨b1&&b2,by simp only[PE.ev,gu,de];rfl,?_⟩;simp only[Op.eqFields,if_pos hn,Sem.run_bind,p1,p2,qe,Result.andThen_ok];cases b1
   .rfl
   .simpa using Gc
def anI {P:Program}{cap:Nat->Option CSig}{V:Im}{O:Env}{x y:PE}{X Y:List D}(w:World)(hx:x.ev O=.agg X)(hy:y.ev O=.agg Y){vs us:List Value}(d:Nat):
 ∀(fs:List Field) (i:Nat) (ts:List Ty) (e:PE),yt P x y fs i ts=some e->(∀j t,ts[j]?=some t->Rep cap V t (vs.getD (i+j) undef) (X.getD (i+j) .none)/\Rep cap V t (us.getD (i+j) undef) (Y.getD (i+j) .none))->
  i+ts.length<=vs.length->i+ts.length<=us.length->
  ∃b,e.ev O=.v (.bool b)/\(Op.eqFields (d+2) vs.toArray us.toArray fs).run P w=.ok b w:=by
 intro fs
 induction fs with
 |nil=>
  intro i ts e h _ _ _;cases ts with
  |nil=>simp only[yt,aZ] at h;subst h;exact⟨true,rfl,rfl⟩
  |cons t ts=>simp[yt] at h
 |cons f fs ih=>
  intro i ts e h hr l1 l2;unfold yt at h;split at h
  .rename_i n bO;cases hb:Nat.ble n ts.length<;>simp only[hb,zyy,zyx] at h
   .cases h
   have hn:=jI hb;simp only[az,aB] at h;obtain⟨e1,rH,r,ng,rfl⟩:=h
   obtain⟨b2,de,Gc⟩:=ih (i+n) (ts.drop n) r ng (λj t hj=>by
        have:=hr (n+j) t (by rw[gl] at hj;exact hj)
        rwa [show i+(n+j)=i+n+j by omega] at this) (by rw[Pp];omega) (by rw[Pp];omega)
   unfold aem at bO;split at bO
   case h_2=>cases bO
   rename_i fs' hu;cases hc:((f.name != "_")&&Nat.beq f.offset i&& !P.stoodInHeld f.type)<;>simp only[hc,zyy,zyx] at bO
   .cases bO
   cases bO;simp only[ao,bne_iff_ne,ne_eq,kK] at hc;obtain⟨⟨au,ho⟩,cA⟩:=hc;have ho:=ay ho;have vW:P.underlying f.type=some (.struct (P.fieldsOf f.type)):=by unfold Program.fieldsOf;rw[hu]
   obtain⟨inf,hi⟩:=info_of_underlying hu
   have qa:∀zs:List Value,(part f.type zs.toArray f.offset).run P w=.ok (.agg ((zs.drop i).take (P.cellsOf f.type)).toArray) w:=λzs=>by
        have:(zs.toArray.extract f.offset (f.offset+P.cellsOf f.type))=((zs.drop i).take (P.cellsOf f.type)).toArray:=by
         rw[ho];apply uh;rw[Array.toList_extract];simp[List.extract]
        rw[<-this];simp[part,isAgg,run_underlying hu,run_sizeOf w hi]
   obtain⟨b1,gu,qe⟩:=anJ (P:=P) (cap:=cap) (V:=V) (O:=O) w hx hy (vs:=(vs.drop i).take (P.cellsOf f.type)) (us:=(us.drop i).take (P.cellsOf f.type)) i d _ 0 (ts.take (P.cellsOf f.type)) e1 rH (λj t hj=>by
        rw[fQ] at hj;split at hj
        .rename_i yM;have:=hr j t hj;simpa [aE,fQ,yM,gl] using this
        .cases hj) (by simp only[dO,Pp];omega) (by simp only[dO,Pp];omega)
   have arA:(Op.equalIn (d+2) f.type (.agg ((vs.drop i).take (P.cellsOf f.type)).toArray) (.agg ((us.drop i).take (P.cellsOf f.type)).toArray)).run P w=.ok b1 w:=by
        rw[run_equalIn_struct w (d+1) f.type _ _ vW cA];exact qe
   refine⟨b1&&b2,by simp only[PE.ev,gu,de];rfl,?_⟩;simp only[Op.eqFields,if_pos au,Sem.run_bind,qa,arA,Result.andThen_ok];cases b1
   .rfl
   .simpa using Gc
  .split at h
   .rename_i t ts;cases hc:((f.name != "_")&&Nat.beq f.offset i&&nm P f.type t&&P.plainKey f.type)<;>simp only[hc,zyy,zyx] at h
    .cases h
    simp only[ao,bne_iff_ne,ne_eq] at hc;obtain⟨⟨⟨hn,ho⟩,hk⟩,hp⟩:=hc;have ho:=ay ho;simp only[az,aB] at h;obtain⟨e1,rH,r,ng,rfl⟩:=h
    obtain⟨b2,de,Gc⟩:=ih (i+1) ts r ng (λj t hj=>by
     have:=hr (j+1) t (by simpa using hj)
     rwa [show i+(j+1)=i+1+j by omega] at this) (by simp at l1;omega) (by simp at l2;omega)
    obtain⟨g1,g2⟩:=hr 0 t rfl;rw[iU] at g1 g2;simp only[qT] at l1 l2;have wy:vs.toArray[f.offset]?=some (vs.getD i undef):=by rw[ho];simp[aE,show i<vs.length by omega]
    have Ta:us.toArray[f.offset]?=some (us.getD i undef):=by rw[ho];simp[aE,show i<us.length by omega]
    have p1:=run_part_plain (P:=P) (w:=w) hp wy;have p2:=run_part_plain (P:=P) (w:=w) hp Ta;have ex:(PE.cell x i).ev O=X.getD i .none:=by simp only[PE.ev,hx];rfl
    have ey:(PE.cell y i).ev O=Y.getD i .none:=by simp only[PE.ev,hy];rfl
    obtain⟨b1,gu,qe⟩:=ab7 (P:=P) w (d+1) (O:=O) hk rH (by rw[ex];exact g1) (by rw[ey];exact g2);refine⟨b1&&b2,by simp only[PE.ev,gu,de];rfl,?_⟩;simp only[Op.eqFields,if_pos hn,Sem.run_bind,p1,p2,qe,Result.andThen_ok];cases b1
    .rfl
    .simpa using Gc
   .cases h
def auK (h:Inv C S O V own hv w0 σ0 A a w)(hC:CtxOK C σ0)(hg:holds gs O=true){op:BinOp}{T T':TypeId}{x y:Operand}{r:Sh×List PI}(hr:UN C S gs dst op T x y=some r){o:Oper}(ho:o.op=.binOp op T x y T'):
 eL C S O V hv Z dst a w o r:=by
 simp only[UN,az] at hr;obtain⟨p,hp,q,hq,hr⟩:=hr;have aV:=cv h hC hg hp;have dL:=cv h hC hg hq;split at hr
 .rename_i k k' e1 e2;rw[e1] at aV;rw[e2] at dL;obtain⟨n,aL,bu,b1,b2⟩:=aV.int_inv;obtain⟨m,iK,dD,b3,b4⟩:=dL.int_inv;have ak:=Ot (C:=C) (w:=w) ho aL iK (by intro u e;cases e) (by intro e;cases e);cases jV:(op==.shl||op==.shr)<;>simp only[jV,zyy,zyx] at hr
  .cases vZ:(k==k')<;>simp only[vZ,zyy,zyx] at hr
   .cases hr
   .have Sb:k=k':=by simpa using vZ
    subst Sb;cases yV:(op==.quo||op==.rem)<;>simp only[yV,zyy,zyx] at hr
    .cases har:Jl op<;>simp only[har,zyy,zyx] at hr
     .cases oF:BD op<;>simp only[oF,zyy,zyx] at hr
      .cases hr
      .cases hr;refine .dat (v:=.bool (jN op n m)) ?_ ?_
       .rw[ak];cases op<;>simp_all [BD]<;>simp[binOp,Op.intCmp,jN,Sem.run,pure,Sem.bind]
       .simp only[PE.ev,bu,dD,D.i_int];exact .bool _
     .cases hr;refine .dat (v:=.int k (bV op k n m)) ?_ ?_
      .rw[ak];cases op<;>simp_all [Jl]<;>simp[binOp,Op.intArith,Op.intBits,bV,Sem.run,pure,Sem.bind]
      .simp only[PE.ev,bu,dD,D.i_int];refine .int _ _ ?_ ?_<;>(cases op<;>simp_all [Jl]<;>first|exact(uf _ _).1|exact(uf _ _).2)
    .cases hr;refine .datc hg λhc=>⟨.int k (bV op k n m),?_,?_⟩
     .have au:m≠0:=by simpa [PE.ev,dD,D.i_int,D.b_bool,jN,D.int] using hc
      rw[ak];rcases(by simpa using yV:op=.quo\/op=.rem) with rfl|rfl<;>simp[binOp,Op.intDiv,bV,Sem.run,pure,Sem.bind,au]
     .simp only[PE.ev,bu,dD,D.i_int];cases op<;>simp_all
      .exact .int _ _ (uf _ _).1 (uf _ _).2
      .exact .int _ _ (ajz k ⟨b1,b2⟩).1 (ajz k ⟨b1,b2⟩).2
  .cases hr;refine .datc hg λhc=>⟨.int k (bV op k n m),?_,?_⟩
   .have au:¬m<0:=by
     have:0<=m:=by simpa [PE.ev,dD,D.i_int,D.b_bool,jN,D.int] using hc
     omega
    rw[ak];rcases(by simpa using jV:op=.shl\/op=.shr) with rfl|rfl<;>simp[binOp,Op.shift,bV,Sem.run,pure,Sem.bind,au]
   .simp only[PE.ev,bu,dD,D.i_int];cases op<;>simp_all
    .exact .int _ _ (uf _ _).1 (uf _ _).2
    .exact .int _ _ (ace k _ ⟨b1,b2⟩).1 (ace k _ ⟨b1,b2⟩).2
 .rename_i e1 e2;rw[e1] at aV;rw[e2] at dL;obtain⟨n,aL,bu⟩:=aV.bool_inv;obtain⟨m,iK,dD⟩:=dL.bool_inv;have ak:=Ot (C:=C) (w:=w) ho aL iK (by intro u e;cases e) (by intro e;cases e);cases eD:((op==.eql||op==.neq)&&Tt C.P T)<;>simp only[eD,zyy,zyx] at hr
  .cases hr
  .cases hr;simp only[ao] at eD;obtain⟨eD,hT⟩:=eD;have BZ:C.P.underlying T=some .bool:=by
        unfold Tt at hT;split at hT
        .assumption
        .cases hT
   have heq:(Op.equal T (.bool n) (.bool m)).run C.P w=.ok (n==m) w:=by
        have:∀d,(Op.equalIn (d+1) T (.bool n) (.bool m)).run C.P w=.ok (n==m) w:=λd=>by simp[Op.equalIn,run_underlying BZ]
        exact this 9999
   refine .dat (v:=.bool (BC op n m)) ?_ ?_
   .rw[ak];rcases(by simpa using eD:op=.eql\/op=.neq) with rfl|rfl<;>simp[binOp,BC,heq,Sem.run_bind']
   .simp only[PE.ev,bu,dD,D.b_bool];exact .bool _
 .rename_i e1 e2;rw[e1] at aV;rw[e2] at dL;obtain⟨n,aL,bu,_⟩:=aV.str_inv;obtain⟨m,iK,dD,_⟩:=dL.str_inv;have ak:=Ot (C:=C) (w:=w) ho aL iK (by intro u e;cases e) (by intro e;cases e);cases eD:BD op<;>simp only[eD,zyy,zyx] at hr
  .cases hr
  .cases hr;refine .dat (v:=.bool (BE op n m)) ?_ ?_
   .rw[ak];cases op<;>simp_all [BD]<;>simp[binOp,Op.stringOp,BE,Sem.run,pure,Sem.bind]
   .simp only[PE.ev,bu,dD,D.s_str];exact .bool _
 .rename_i e e' e1 e2;rw[e1] at aV;rw[e2] at dL;split at hr
  case h_2=>cases hr
  rename_i E hT;cases eD:(op==.eql||op==.neq)<;>simp only[eD,zyy,zyx] at hr
  .cases hr
  cases hr;obtain⟨n,xs,aL,bu,adG⟩:∃(n:Bool) (xs:List D),(n=true/\a.eval x=.slice none 0 0\/n=false/\∃k o m c,a.eval x=.slice (some ⟨k,o,none⟩) m c)/\p.2.ev O=.list xs/\n=decide (xs=[]):=by
   generalize a.eval x=vv at aV;generalize p.2.ev O=dd at aV;cases aV with
   |nsl0=>exact⟨true,[],.inl ⟨rfl,rfl⟩,rfl,rfl⟩
   |nsl _ k o m c xs h hx=>exact⟨false,xs,.inr ⟨rfl,k,o,m,c,rfl⟩,rfl,by simp[hx]⟩
  have iK:a.eval y=.slice none 0 0:=by
   generalize a.eval y=vv at dL;generalize q.2.ev O=dd at dL;cases dL;rfl
  have heq:(Op.equal T (a.eval x) (a.eval y)).run C.P w=.ok n w:=by
   have:∀d,(Op.equalIn (d+1) T (a.eval x) (a.eval y)).run C.P w=.ok n w:=λd=>by
        rw[iK];rcases aL with⟨rfl,h1⟩|⟨rfl,k,o,m,c,h1⟩<;>rw[h1]<;>simp[Op.equalIn,run_underlying hT]
   exact this 9999
  have ak:=Ot (C:=C) (w:=w) ho rfl rfl (by
   intro u e;rcases aL with⟨_,h1⟩|⟨_,k,o,m,c,h1⟩<;>rw[h1] at e<;>cases e) (by
   intro e;rcases aL with⟨_,h1⟩|⟨_,k,o,m,c,h1⟩<;>rw[h1] at e<;>cases e)
  refine .dat (v:=.bool (jN op xs.length 0)) ?_ ?_
  .have au:∀(y:D) (ys:List D),¬((ys.length:Int)+1=0):=λy ys=>by omega
   rw[ak,iK];rw[iK] at heq;rcases aL with⟨_,h1⟩|⟨_,k,o,m,c,h1⟩<;>rw[h1] at heq ⊢<;>rcases(by simpa using eD:op=.eql\/op=.neq) with rfl|rfl<;>cases xs<;>simp[binOp,heq,Sem.run_bind',jN,adG]<;>(try omega)
  .simp only[PE.ev,bu,D.l_list,D.int,D.i_int];exact .bool _
 .rename_i ts us e1 e2;rw[e1] at aV;rw[e2] at dL;cases eD:((op==.eql||op==.neq)&&Ty.beqs ts us&&Rf C.P T)<;>simp only[eD,zyy,zyx] at hr
  .cases hr
  simp only[ao] at eD;obtain⟨⟨eD,Cq⟩,cA⟩:=eD;have:=Ty.beqs_eq _ _ Cq;subst this;simp only[Rf,ao,kK] at cA;obtain⟨⟨ad0,arR⟩,arS⟩:=cA;have vW:C.P.underlying T=some (.struct (C.P.fieldsOf T)):=by
   unfold Program.fieldsOf;split at ad0
   .rename_i fs hu;rw[hu]
   .cases ad0
  simp only[aB] at hr;obtain⟨e,he,rfl⟩:=hr;obtain⟨vs,ds,aL,bu,l1,l2,aK,_⟩:=aV.agg_inv;obtain⟨Ab,ds',iK,dD,l3,l4,uN,_⟩:=dL.agg_inv
  obtain⟨b,hb,ak⟩:=anI (P:=C.P) (cap:=C.cap) (V:=V) (O:=O) w bu dD (vs:=vs) (us:=Ab) 9997 _ 0 ts e he (λj t hj=>by
   rw[fw];exact⟨aK j t hj,uN j t hj⟩) (by omega) (by omega)
  have heq:(Op.equalIn 10000 T (.agg vs.toArray) (.agg Ab.toArray)).run C.P w=.ok b w:=by
   rw[run_equalIn_struct w 9999 T _ _ vW arR];exact ak
  have oH:=run_eqGuard_agg (P:=C.P) (w:=w) op T x y vs.toArray Ab.toArray arS
  have ac9:(execOp a.eval o).run C.P w=((binOp op T (.agg vs.toArray) (.agg Ab.toArray)).run C.P w).andThen λr w'=>.ok (.value r) w':=by
   simp only[execOp,ho,aL,iK,Sem.run_bind,oH,Result.andThen_ok];rfl
  rcases(by simpa using eD:op=.eql\/op=.neq) with rfl|rfl
  .refine .dat (v:=.bool b) ?_ ?_
   .rw[ac9,run_eql_struct,heq];rfl
   .show Rep _ _ .bool _ (PE.ev O e);rw[hb];exact .bool _
  .refine .dat (v:=.bool (!b)) ?_ ?_
   .rw[ac9,run_neq_struct,heq];rfl
   .show Rep _ _ .bool _ (PE.ev O (.nt e));simp only[PE.ev,hb];exact .bool _
 .cases hr
def au0 (h:Inv C S O V own hv w0 σ0 A a w)(hC:CtxOK C σ0)(hg:holds gs O=true){op:UnOp}{T:TypeId}{x:Operand}{r:Sh×List PI}(hr:U2 C S gs dst op x=some r){o:Oper}(ho:o.op=.unOp op T x):
 eL C S O V hv Z dst a w o r:=by
 simp only[U2,az] at hr;obtain⟨p,hp,hr⟩:=hr;have aV:=cv h hC hg hp;split at hr
 .rename_i k e1;rw[e1] at aV;obtain⟨n,aL,bu,b1,b2⟩:=aV.int_inv;cases hr;refine .dat (v:=.int k (bV .sub k 0 n)) ?_ ?_
  .simp[execOp,ho,aL,Op.unary,Op.intArith,bV,Sem.run,pure,bind,Sem.bind]
  .simp only[PE.ev,bu,D.i_int];exact .int _ _ (uf _ _).1 (uf _ _).2
 .rename_i e1;rw[e1] at aV;obtain⟨n,aL,bu⟩:=aV.bool_inv;cases hr;refine .dat (v:=.bool (!n)) ?_ ?_
  .simp[execOp,ho,aL,Op.unary,Sem.run,pure,bind,Sem.bind]
  .simp only[PE.ev,bu,D.b_bool];exact .bool _
 .cases hr
def auM (h:Inv C S O V own hv w0 σ0 A a w)(hC:CtxOK C σ0)(hg:holds gs O=true){s d:TypeId}{x:Operand}{r:Sh×List PI}(hr:UP C S gs dst s d x=some r){o:Oper}(ho:o.op=.convert s d x):
 eL C S O V hv Z dst a w o r:=by
 simp only[UP,az] at hr;obtain⟨p,hp,hr⟩:=hr;have aV:=cv h hC hg hp;split at hr
 .rename_i k0 k k1 u1 u2 e1;rw[e1] at aV;obtain⟨n,aL,bu,b1,b2⟩:=aV.int_inv;cases hr;refine .dat (v:=.int k (k.wrap n)) ?_ ?_
  .simp[execOp,ho,aL,convert,run_underlying u1,run_underlying u2,Conv.intToInt]
  .simp only[PE.ev,bu,D.i_int];exact .int _ _ (uf _ _).1 (uf _ _).2
 .rename_i u1 u2 e1;rw[e1] at aV;obtain⟨n,aL,bu,b1⟩:=aV.str_inv;cases hr;refine .dat (v:=.string n) ?_ ?_
  .simp[execOp,ho,aL,convert,run_underlying u1,run_underlying u2]
  .rw[bu];exact .str _ b1
 .cases hr
end
def wJ {n:Nat}(h:n<=maxLen):IntKind.i64.min<=(n:Int)/\(n:Int)<=IntKind.i64.max:=by
 simp only[maxLen] at h;simp only[IntKind.min,IntKind.max,IntKind.signed,IntKind.bits];simp;omega
section
variable {C:Ctx} {S:St} {O:Env} {V:Im} {own:Nat->Option Nat} {hv:Nat->Value} {w0:World} {σ0:Base} {A:Nat->Prop} {a:Act} {w:World} {gs:List (Nat×Bool)} {Z:aS} {dst:Nat}
def PD (C:Ctx)(V:Im)(w:World)(B:Nat)(t:Ty)(v:Value)(d:D):Prop:=
 Rep C.cap V t v d\/
 (∃T e cells xs,t=.slice e.rol/\d=.list xs/\w.ownsRow B T e.size v xs.length cells/\dh C.cap V e cells xs)\/
 (∃k arr clock es kt et,t=.map kt et/\v=.map (some k)/\w.heap[k]?=some (.map arr clock)/\d=.map es/\es.length=arr.size/\es.length<=maxLen/\
    ∀(i:Nat) (e:MapEntry) (p:D×D),arr[i]?=some e->es[i]?=some p->Rep C.cap V kt e.key p.1/\Rep C.cap V et e.val p.2)
def ZV (h:Inv C S O V own hv w0 σ0 A a w)(hC:CtxOK C σ0)(hg:holds gs O=true){x:Operand}{r:Ty×PE}(hu:view C S gs x=some r):PD C V w w0.heap.size r.1 (a.eval x) (r.2.ev O):=by
 unfold view at hu;split at hu
 .rename_i r' oO;cases hu;exact .inl (cv h hC hg oO)
 .split at hu
  .rename_i t _;obtain⟨hs,_⟩:=nD h hg t;split at hu
   .rename_i j ver e;rw[e] at hs;cases hb:Nat.beq ver (S.ver j)<;>simp only[hb,zyy,zyx] at hu
    .cases hu
    .have dF:=ay hb;have ho:=h.objs j;have ct:a.eval (.tmp t)=hv j:=hs.2 dF;split at hu
     .rename_i T e eo;rw[eo] at ho;cases hu;obtain⟨cells,xs,h1,h2,h3,h4⟩:=ho;rw[ct];exact .inr (.inl ⟨T,e,cells,xs,rfl,h1,h2,h3⟩)
     .rename_i kt et eo;rw[eo] at ho;cases hu;obtain⟨k,arr,clock,es,h1,h2,h3,h4,h5,⟨hx,_⟩,h6⟩:=ho;rw[ct];exact .inr (.inr ⟨k,arr,clock,es,kt,et,rfl,h1,h3,h4,h5,hx,h6⟩)
     .cases hu
   .cases hu
  .cases hu
def zz {w:World}{B e size n:Nat}{v:Value}{cells:List Value}(h:w.ownsRow B e size v n cells):∃b c,v=.slice b n c/\n<=maxLen/\n<=c:=by
 rcases h.2 with⟨rfl,rfl⟩|⟨g,cap,cur,rfl,h1,h2,h3,h4,h5⟩
 .exact⟨none,0,rfl,by decide,aX _⟩
 .exact⟨_,cap,rfl,gm h3 h4,h3⟩
def WQ {b:Builtin}{args:Array Operand}{ts:Array TypeId}{o:Oper}(ho:o.op=.call {callee:=.builtin b,args:=args,argTypes:=ts}):
 ∃cs,(execOp a.eval o).run C.P w=(builtin b ts o.type cs (args.map a.eval)).run C.P w:=
 ⟨_,by simp only[execOp,ho,resolve,invoke];rfl⟩
def auT (h:Inv C S O V own hv w0 σ0 A a w)(hC:CtxOK C σ0)(hg:holds gs O=true){T:TypeId}{x:Operand}{r:Sh×List PI}(hr:UX C S gs dst T x=some r){o:Oper}
 (ho:o.op=.call {callee:=.builtin .len,args:=#[x],argTypes:=#[T]}):eL C S O V hv Z dst a w o r:=by
 simp only[UX,az] at hr;obtain⟨p,hp,hr⟩:=hr;have aV:=ZV h hC hg hp;obtain⟨cs,ak⟩:=WQ (C:=C) (w:=w) (a:=a) ho;split at hr
 .rename_i e T' e1 e2;rw[e1] at aV;cases hr;have hx:∃b n c xs,a.eval x=.slice b n c/\p.2.ev O=.list xs/\xs.length=n/\n<=maxLen:=by
   rcases aV with aV|⟨T,e,cells,xs,ht,hd,bp,cU⟩|⟨k,arr,clock,es,kt,et,ht,_⟩
   .obtain⟨xs,hd,⟨⟨p0,aL⟩,rfl⟩|⟨k,o,c,aL,h1,h2,_⟩⟩:=aV.slice_inv
    .exact⟨p0,0,0,[],aL,hd,rfl,by decide⟩
    .exact⟨_,_,c,xs,aL,hd,rfl,by omega⟩
   .obtain⟨b,c,aL,h1,_⟩:=zz bp;exact⟨b,_,c,xs,aL,hd,rfl,h1⟩
   .cases ht
  obtain⟨b,n,c,xs,aL,hd,hl,hm⟩:=hx;refine .dat (v:=.int .i64 n) ?_ ?_
  .rw[ak];simp[builtin,Builtin.len_,aL,run_underlying e2,goInt]
  .simp only[PE.ev,hd,D.l_list,hl];exact .int _ _ (wJ hm).1 (wJ hm).2
 .rename_i e T' e1 e2;rw[e1] at aV;cases hr;rcases aV with aV|⟨T,e,cells,xs,ht,_⟩|⟨k,arr,clock,es,kt,et,ht,_⟩
  .generalize y5:a.eval x=v at aV;generalize Fw:p.2.ev O=d at aV;cases aV;refine .dat (v:=.int .i64 0) ?_ ?_
   .rw[ak];simp[builtin,Builtin.len_,y5,run_underlying e2,goInt]
   .simp only[PE.ev,Fw,D.l_list];exact .int _ _ (by decide) (by decide)
  .cases ht
  .cases ht
 .rename_i e1 e2;rw[e1] at aV;cases hr;rcases aV with aV|⟨T,e,cells,xs,ht,_⟩|⟨k,arr,clock,es,kt,et,ht,_⟩
  .obtain⟨n,aL,bu,hm⟩:=aV.str_inv;refine .dat (v:=.int .i64 n.size) ?_ ?_
   .rw[ak];simp[builtin,Builtin.len_,aL,run_underlying e2,goInt]
   .simp only[PE.ev,bu,D.s_str];exact .int _ _ (wJ hm).1 (wJ hm).2
  .cases ht
  .cases ht
 .rename_i k0 e0 a0 b0 e1 e2;rw[e1] at aV;cases hr;rcases aV with aV|⟨T,e,cells,xs,ht,_⟩|⟨k,arr,clock,es,kt,et,ht,aL,hb,bu,hl,hx,_⟩
  .generalize y5:a.eval x=v at aV;generalize Fw:p.2.ev O=d at aV;cases aV with
   |mapnil=>
    refine .dat (v:=.int .i64 0) ?_ ?_
    .rw[ak];simp[builtin,Builtin.len_,y5,run_underlying e2,goInt]
    .simp only[PE.ev,Fw,D.m];exact .int _ _ (by decide) (by decide)
   |map kt et r ij es hm hl hx hk _=>
    obtain⟨arr,clock,hb,jT⟩:=(h.ok.m _ _ hm).mp (GI hl hk) (afD hl hk);have hn:arr.size=es.length:=by rw[hl,<-jT];simp[entriesOf]
    refine .dat (v:=.int .i64 arr.size) ?_ ?_
    .rw[ak];simp[builtin,Builtin.len_,y5,run_underlying e2,goInt,getObj,Sem.run,hb]
    .simp only[PE.ev,Fw,D.m,hn];exact .int _ _ (wJ hx).1 (wJ hx).2
  .cases ht
  .refine .dat (v:=.int .i64 arr.size) ?_ ?_
   .rw[ak];simp[builtin,Builtin.len_,aL,run_underlying e2,goInt,getObj,Sem.run,hb]
   .simp only[PE.ev,bu,D.m,hl];exact .int _ _ (wJ (hl▸hx)).1 (wJ (hl▸hx)).2
 .cases hr
def aho (h:Inv C S O V own hv w0 σ0 A a w)(hC:CtxOK C σ0)(hg:holds gs O=true){mx:Bool}{x y:Operand}{ts:Array TypeId}{r:Sh×List PI}(hr:M4 C S gs dst mx x y=some r){o:Oper}
 (ho:o.op=.call {callee:=.builtin (bif mx then .max else .min),args:=#[x,y],argTypes:=ts}):eL C S O V hv Z dst a w o r:=by
 simp only[M4,az] at hr;obtain⟨p,hp,q,hq,hr⟩:=hr;have aV:=cv h hC hg hp;have dL:=cv h hC hg hq;obtain⟨cs,ak⟩:=WQ (C:=C) (w:=w) (a:=a) ho;split at hr
 .rename_i k k' e1 e2;rw[e1] at aV;rw[e2] at dL;obtain⟨n,aL,bu,b1,b2⟩:=aV.int_inv;obtain⟨m,iK,dD,b3,b4⟩:=dL.int_inv;cases vZ:(k==k')<;>simp only[vZ,zyy,zyx] at hr
  .cases hr
  .have Sb:k=k':=by simpa using vZ
   subst Sb;cases hr;cases mx with
   |true=>
    refine .dat (v:=.int k (if m>n then m else n)) ?_ ?_
    .rw[ak];simp[builtin,Builtin.max_,Builtin.max2,aL,iK]
    .simp only[zyy,PE.ev,bu,dD,D.i_int];by_cases af:m>n<;>simp[af]<;>constructor<;>assumption
   |false=>
    refine .dat (v:=.int k (if m<n then m else n)) ?_ ?_
    .rw[ak];simp[builtin,Builtin.min_,Builtin.min2,aL,iK]
    .simp only[zyx,PE.ev,bu,dD,D.i_int];by_cases af:m<n<;>simp[af]<;>constructor<;>assumption
 .cases hr
def auN (h:Inv C S O V own hv w0 σ0 A a w)(hC:CtxOK C σ0)(hg:holds gs O=true){x:Operand}{i:Nat}{r:Sh×List PI}(hr:UQ C S gs dst x i=some r){o:Oper}(ho:o.op=.extract x i):
 eL C S O V hv Z dst a w o r:=by
 simp only[UQ,az] at hr;obtain⟨p,hp,hr⟩:=hr;have aV:=cv h hC hg hp;split at hr
 .rename_i ts e1;rw[e1] at aV;simp only[aB] at hr;obtain⟨t,ht,rfl⟩:=hr;obtain⟨vs,ds,aL,bu,l1,l2,aK⟩:=aV.tup_inv;have hi:i<vs.length:=by rw[l1];exact(eu.1 ht).1
  refine .dat (v:=vs.getD i undef) ?_ ?_
  .obtain⟨u,hu⟩:∃u,vs[i]?=some u:=⟨_,aU hi⟩
   have oH:vs.getD i undef=u:=by rw[aE,hu];rfl
   rw[oH];simp[execOp,ho,aL,Instr.extract,hu]
  .simp only[PE.ev,bu];exact aK i t ht
 .cases hr
end
def wD {P:Program}{T:TypeId}{ag:Bool}(h:rP P T=some ag)(w:World):(isAgg T).run P w=.ok ag w:=by
 unfold rP at h;split at h
 .rename_i fs hu;cases h;simp[isAgg,run_underlying hu]
 .rename_i n e hu;cases h;simp[isAgg,run_underlying hu]
 .rename_i d h1 h2 hu;cases h;cases d<;>simp_all [isAgg,run_underlying hu]
 .cases h
def sO (k o n:Nat):(⟨k,o,none⟩:Addr).add n=⟨k,o+n,none⟩:=by
 unfold Addr.add;split<;>simp_all
def Ou {P:Program}{T:TypeId}{inf:TypeInfo}{ag:Bool}{w:World}{k o:Nat}{cs:List Value}(hi:P.info? T=some inf)(ha:rP P T=some ag)(hl:cs.length=inf.size)
 (h1:ag=false->cs.length=1) (hc:∀j u,cs[j]?=some u->w.cell? ⟨k,o+j,none⟩=some u):(loadVar T ⟨k,o,none⟩).run P w=.ok (rowOf ag cs) w:=by
 cases ag with
 |true=>
  have:=run_loadCells_list (P:=P) w ⟨k,o,none⟩ cs (λj v hv=>by rw[sO];exact hc j v hv);rw[hl] at this;simp[loadVar,wD ha,Go.sizeOf,run_typeInfo w hi,this,rowOf]
 |false=>
  obtain⟨u,hu⟩:∃u,cs=[u]:=by
   have:=h1 rfl
   match cs,this with
   |[u],_=>exact⟨u,rfl⟩
  subst hu;have h0:=hc 0 u rfl;simp only[iU] at h0;simp[loadVar,wD ha,rowOf,run_load,h0]
section
variable {C:Ctx} {S:St} {O:Env} {V:Im} {own:Nat->Option Nat} {hv:Nat->Value} {w0:World} {σ0:Base} {A:Nat->Prop} {a:Act} {w:World} {gs:List (Nat×Bool)} {Z:aS} {dst:Nat}
def xh {o:Oper}{T:TypeId}{x:Operand}{v:Value}{k off:Nat}(ho:o.op=.load T x)(hx:a.eval x=.pointer (some ⟨k,off,none⟩))(hl:(loadVar T ⟨k,off,none⟩).run C.P w=.ok v w):
 (execOp a.eval o).run C.P w=.ok (.value v) w:=by
 simp[execOp,ho,Instr.loadAt,hx,Instr.sureAddr,hl]
def uH {α:Type}{l:List α}{i:Nat}{x d:α}(h:l[i]?=some x):l.getD i d=x:=by
 rw[aE,h];rfl
def Na {cap:Nat->Option CSig}{ts:List Ty}{vs:List Value}{ds:List D}{ag:Bool}{n off:Nat}{ty:Ty}(hp:wR ag n ts off=some ty)
 (h1:vs.length=ts.length) (h2:ds.length=ts.length) (hr:∀(i:Nat) (t:Ty),ts[i]?=some t->Rep cap V t (vs.getD i undef) (ds.getD i .none)) (ho:∀(i:Nat) (t:Ty),ts[i]?=some t->t.one=true):
 Rep cap V ty (rowOf ag ((vs.drop off).take n)) (bif ag then .agg ((ds.drop off).take n) else ds.getD off .none)/\((vs.drop off).take n).length=n/\(ag=false->n=1):=by
 unfold wR at hp;cases hle:Nat.ble (off+n) ts.length<;>simp only[hle,zyy,zyx] at hp
 .cases hp
 .have oK:=jI hle;have hlen:((vs.drop off).take n).length=n:=by simp;omega
  cases ag with
  |true=>
   simp only[zyy] at hp;cases hp;refine⟨?_,hlen,λe=>by cases e⟩;simp only[rowOf,if_true,zyy];refine .agg _ _ _ (by simp;omega) (by simp;omega) (λi t hi=>?_) (λi t hi=>?_)
   .simp only[fQ,gl] at hi;split at hi
    .rename_i bO;have:=hr (off+i) t hi;simpa [aE,fQ,gl,bO] using this
    .cases hi
   .simp only[fQ,gl] at hi;split at hi
    .exact ho _ t hi
    .cases hi
  |false=>
   simp only[zyx] at hp;cases hn:Nat.beq n 1<;>simp only[hn,zyy,zyx] at hp
   .cases hp
   .have kQ:=ay hn;subst kQ;refine⟨?_,hlen,λ_=>rfl⟩;have:=hr off ty hp;have af:off<vs.length:=by omega
    simpa [rowOf,aE,fQ,gl] using this
def M9 {ag:Bool}{n:Nat}{e:PE}{off:Nat}{ds:List D}(h:e.ev O=.agg ds):(CS ag n e off).ev O=bif ag then .agg ((ds.drop off).take n) else ds.getD off .none:=by
 cases ag<;>simp[CS,PE.ev,h,D.cells,D.c]
def Inv.cell (h:Inv C S O V own hv w0 σ0 A a w){k o:Nat}{u:Value}(hc:V.c k o=some u):w.cell? ⟨k,o,none⟩=some u:=h.ok.c _ _ _ hc
def Rep.rowOf {cap:Nat->Option CSig}{t:Ty}{v:Value}{d:D}(h:Rep cap V t v d):v=Cx.rowOf t.rowT v.cells.toList:=by
 cases h<;>simp[Cx.rowOf,Ty.rowT,Value.cells]
def Rep.cells1 {cap:Nat->Option CSig}{t:Ty}{v:Value}{d:D}(h:Rep cap V t v d)(ht:t.rowT=false):v.cells=#[v]:=by
 cases h<;>simp_all [Ty.rowT,Value.cells]
def auU (h:Inv C S O V own hv w0 σ0 A a w){T:TypeId}{x:Operand}{inf:TypeInfo}{ag:Bool}(hi:C.P.info? T=some inf)(ha:rP C.P T=some ag){o:Oper}(ho:o.op=.load T x)
 {ty:Ty} {e:PE} (hr:Rep C.cap V (.ref ty) (a.eval x) (e.ev O)) (hs:Nat.beq inf.size ty.size=true) (Lx:(ag==ty.rowT)=true):
 eL C S O V hv Z dst a w o (.dat ty,[.setR dst (.deref e)]):=by
 obtain⟨k,off,v,y,aL,bu,bI,jw⟩:=hr.ref_inv;have eh:=ay hs;have Fo:ag=ty.rowT:=by simpa using Lx
 have hz:=bI.size;have cW:=bI.rowOf;refine .dat (v:=v) (xh ho aL ?_) ?_
 .rw[cW,<-Fo];refine Ou hi ha (by simp[hz,eh]) (λe=>?_) (λj u hu=>?_)
  .subst e;simp[bI.cells1 Fo.symm]
  .exact h.cell (jw j u (by simpa using hu))
 .simp only[PE.ev,bu,D.deref];exact bI
def Eo {w:World}{k:Nat}{cs:Array Value}{T:TypeId}{fr:Nat×Nat}(hb:w.heap[k]?=some (.cells cs T fr)){i:Nat}(hi:i<cs.size):w.cell? ⟨k,i,none⟩=some (cs.getD i undef):=by
 simp[World.cell?,hb,fe,ir hi]
def BU (cs:Array Value)(i:Nat):cs.toList.getD i undef=cs.getD i undef:=by
 simp[aE,fe]
def aaV {cs:Array Value}{ds:List D}:∀(shs:List Sh) (i:Nat) (l:List AgC),D4 S shs=some l->(∀m s,shs[m]?=some s->aG C S O V hv s (cs.getD (i+m) undef) (ds.getD (i+m) .none))->
 l.length=shs.length/\∀(m:Nat) (c:AgC),l[m]?=some c->nM C S V hv c (cs.getD (i+m) undef) (ds.getD (i+m) .none)
 |[],i,l,hl,_=>by simp only[D4,aZ] at hl;subst hl;exact⟨rfl,λm c hm=>by simp at hm⟩
 |s::r,i,l,hl,aK=>by
  simp only[D4,az] at hl;obtain⟨x,hx,hl⟩:=hl
  obtain⟨g1,g3⟩:=aaV r (i+1) x hx λm s hm=>by
   have:=aK (m+1) s (by simpa using hm)
   rwa [show i+(m+1)=i+1+m by omega] at this
  have h0:=aK 0 s rfl;rw[iU] at h0;split at hl
  .rename_i t;cases dE:t.one<;>simp only[dE,zyy,zyx] at hl
   .cases hl
   cases hl;refine⟨by simp[g1],λm c hm=>?_⟩;cases m with
   |zero=>simp at hm;subst hm;exact⟨dE,h0⟩
   |succ m=>simp at hm;have:=g3 m c hm;rwa [show i+1+m=i+(m+1) by omega] at this
  .rename_i j ver;cases hb:Nat.beq ver (S.ver j)<;>simp only[hb,zyy,zyx] at hl
   .cases hl
   cases hl;refine⟨by simp[g1],λm c hm=>?_⟩;cases m with
   |zero=>simp at hm;subst hm;exact h0
   |succ m=>simp at hm;have:=g3 m c hm;rwa [show i+1+m=i+(m+1) by omega] at this
  .cases hl
def akH {j off n len:Nat}{ds:List D}(h:O.o j=.agg ds)(hl:ds.length=len):(PJ j off n len).ev O=.agg ((ds.drop off).take n):=by
 unfold PJ;cases hb:(Nat.beq off 0&&Nat.beq n len)
 .simp only[zyx,PE.ev,h];rfl
 .simp only[ao] at hb;obtain rfl:=ay hb.1;obtain rfl:=ay hb.2;simp only[zyy,PE.ev,h,List.drop_zero,<-hl,Au]
def GN (h:Inv C S O V own hv w0 σ0 A a w)(hC:CtxOK C σ0)(hg:holds gs O=true){T:TypeId}{x:Operand}{r:Sh×List PI}(hr:CO C S gs dst T x=some r){o:Oper}(ho:o.op=.load T x):
 eL C S O V hv Z dst a w o r:=by
 unfold CO at hr;split at hr
 case h_2=>cases hr
 rename_i inf ag hi ha;have dV:aG C S O V hv (gL S gs x) (a.eval x) ((sB x).ev O):=by
  cases x with
  |tmp t=>exact(nD h hg t).1
  |_=>trivial
 split at hr
 ·
  rename_i j ver off es;rw[es] at dV;cases hb:Nat.beq ver (S.ver j)<;>simp only[hb,zyy,zyx] at hr
  .cases hr
  have dF:=ay hb;obtain⟨k,eX,fV⟩:=dV.2 dF;have bj:=h.objs j;split at hr
  .rename_i bag shs eo;rw[eo] at bj;obtain⟨k',cs,T',ds,h1,h2,h3,h4,h5,h6,h7⟩:=bj;rw[eX] at h1;cases h1;cases ag with
   |true=>
    simp only[zyy] at hr;cases hle:Nat.ble (off+inf.size) shs.length<;>simp only[hle,zyy,zyx] at hr
    .cases hr
    have oK:=jI hle;have hlen:((shs.drop off).take inf.size).length=inf.size:=by simp;omega
    have cH:∀m u,((cs.toList.drop off).take inf.size)[m]?=some u->w.cell? ⟨k,off+m,none⟩=some u:=λm u hu=>by
     simp only[fQ,gl] at hu;split at hu
     .rename_i hm;have:=Eo h3 (i:=off+m) (by omega);rw[this,<-BU];exact congrArg some (uH hu)
     .cases hu
    have adX:=xh ho fV (Ou hi ha (by simp;omega) (λe=>by cases e) cH);split at hr
    .rename_i l hl;cases hr
     revert hl
     cases PG C j
     .intro hl;cases hl
     intro hl
     obtain⟨ll,lo⟩:=aaV (cs:=cs) (ds:=ds) _ off l hl (λm s hm=>by
      simp only[fQ,gl] at hm;split at hm
      .exact(h7 (off+m) s hm).2
      .cases hm)
     rw[hlen] at ll;refine λO' ak=>⟨_,_,vl ak,adX,⟨(cs.toList.drop off).take inf.size,(ds.drop off).take inf.size,by simp[rowOf],akH h5 h6,by simp;omega,by simp;omega,λm c hm=>?_⟩,λ_ _ e=>by cases e⟩
     have rK:m<inf.size:=by have:=(eu.1 hm).1;omega
     have:=lo m c hm;simpa [aE,fQ,gl,rK] using this
    simp only[aB] at hr;obtain⟨p,hp,rfl⟩:=hr
    obtain⟨l1,es,⟨he,_⟩,l2,bI⟩:=QH (b:=.o j) h (cs:=cs.toList) h5 _ off p (λm s hm=>by
     simp only[fQ,gl] at hm;split at hm
     .have:=(h7 (off+m) s hm).2;rw[BU];exact this
     .cases hm) hp
    refine .dat (v:=rowOf true ((cs.toList.drop off).take inf.size)) adX ?_
    .simp only[PE.ev,rowOf,if_true,he];refine .agg _ _ _ (by simp;omega) (by omega) (λm t hm=>?_) (λm t hm=>(bI m t hm).1);have rK:m<inf.size:=by have:=(eu.1 hm).1;omega
     have:=(bI m t hm).2;simpa [aE,fQ,gl,rK] using this
   |false=>
    simp only[zyx] at hr;split at hr
    .rename_i ty hs;cases dE:ty.one<;>simp only[dE,zyy,zyx] at hr
     .cases hr
     cases hr;have kr:=(h7 off _ hs).2;have af:off<shs.length:=(eu.1 hs).1;have yQ:(loadVar T ⟨k,off,none⟩).run C.P w=.ok (cs.getD off undef) w:=by
      simp[loadVar,wD ha,run_load,Eo h3 (i:=off) (by omega)]
     refine .dat (v:=cs.getD off undef) (xh ho fV yQ) ?_;simp only[PE.ev,h5,D.c,D.cells];exact kr
    .rename_i j' nJ hs;cases hr;have kr:=(h7 off _ hs).2;have af:off<shs.length:=(eu.1 hs).1;have yQ:(loadVar T ⟨k,off,none⟩).run C.P w=.ok (cs.getD off undef) w:=by
      simp[loadVar,wD ha,run_load,Eo h3 (i:=off) (by omega)]
     intro O' ak;exact⟨_,_,vl ak,xh ho fV yQ,kr,λ_ _ e=>by cases e⟩
    .cases hr
  .rename_i ts eo;rw[eo] at bj;obtain⟨k',v,h1,h2,h3⟩:=bj;rw[eX] at h1;cases h1;simp only[aB] at hr;obtain⟨ty,br,rfl⟩:=hr;obtain⟨vs,ds,rfl,hd,l1,l2,aK,dE⟩:=h2.agg_inv;obtain⟨bI,hlen,kQ⟩:=Na br l1 l2 aK dE;refine .dat (xh ho fV (Ou hi ha hlen (λe=>by rw[hlen];exact kQ e) (λm u hu=>h.cell ?_))) (by rw[M9 (e:=.o j) hd];exact bI);simp only[fQ,gl] at hu;split at hu
   .exact h3 (off+m) u (by simpa [Value.cells] using hu)
   .cases hu
  .rename_i ty au eo;rw[eo] at bj;obtain⟨k',v,h1,h2,h3⟩:=bj;rw[eX] at h1;cases h1;cases hc:(!ag&&ty.one&&Nat.beq off 0)<;>simp only[hc,zyy,zyx] at hr
   .cases hr
   cases hr;simp only[ao,kK] at hc;have jc:=ay hc.2;subst jc;have yQ:(loadVar T ⟨k,0,none⟩).run C.P w=.ok v w:=by
        have:=h.cell (h3 0 v (by simp[(h2.oneCell hc.1.2).1]));rw[hc.1.1] at ha;simp[loadVar,wD ha,run_load,this]
   exact .dat (xh ho fV yQ) h2
  .cases hr
 ·
  rename_i j ver size off es;rw[es] at dV;cases hb:Nat.beq ver (S.ver j)<;>simp only[hb,zyy,zyx] at hr
  .cases hr
  have dF:=ay hb;obtain⟨k,n,c,ik,i,eX,vV,bO,fV⟩:=dV.2 dF;have bj:=h.objs j;split at hr
  .rename_i T' ts eo;rw[eo] at bj;obtain⟨cells,xs,h1,h2,⟨vs,h3,h4⟩,h5⟩:=bj;cases aI:Nat.beq size ts.length<;>simp only[aI,zyy,zyx] at hr
   .cases hr
   have wu:=ay aI;simp only[aB] at hr;obtain⟨ty,br,rfl⟩:=hr;rw[eX] at h2;have aY:=h2.cells (g:=k) rfl;obtain⟨b,c',e1,FO,FP⟩:=zz h2;cases e1;obtain⟨y,hy⟩:∃y,xs[i]?=some y:=⟨_,aU bO⟩
   have L7:=h3 i y hy;obtain⟨us,ds,wy,hd,l1,l2,aK,dE⟩:=L7.agg_inv;obtain⟨bI,hlen,kQ⟩:=Na br l1 l2 aK dE;have aq9:(PE.nth (.o j) (sB x)).ev O=.agg ds:=by
        simp only[PE.ev,h1,D.l_list,vV,D.i_int,xK];rw[uH hy,hd]
   refine .dat (xh ho fV (Ou hi ha hlen (λe=>by rw[hlen];exact kQ e) (λm u hu=>?_))) (by rw[M9 aq9];exact bI);simp only[fQ,gl] at hu;split at hu
   .have:=h4 i (off+m) u (by omega) (by rw[wy];simpa [Value.cells] using hu);have:=aY _ _ this;rw[sO] at this;simpa [Ty.size,wu,qU] using this
   .cases hu
  .rename_i T' e au eo;rw[eo] at bj;obtain⟨cells,xs,h1,h2,⟨vs,h3,h4⟩,h5⟩:=bj;cases hc:(!ag&&e.one&&Nat.beq off 0&&Nat.beq size 1)<;>simp only[hc,zyy,zyx] at hr
   .cases hr
   cases hr;simp only[ao,kK] at hc;have jc:=ay hc.1.2;have aI:=ay hc.2;subst jc;subst aI;rw[eX] at h2;have aY:=h2.cells (g:=k) rfl;obtain⟨b,c',e1,FO,FP⟩:=zz h2;cases e1;obtain⟨y,hy⟩:∃y,xs[i]?=some y:=⟨_,aU bO⟩
   have L7:=h3 i y hy;have yQ:(loadVar T ⟨k,i*1+0,none⟩).run C.P w=.ok (vs i) w:=by
        have h6:=h4 i 0 (vs i) bO (by simp[(L7.oneCell hc.1.1.2).1]);have:=aY _ _ h6;rw[sO] at this;have FA:e.size=1:=by cases e<;>simp_all [Ty.size,Ty.one]
        rw[hc.1.1.1] at ha;rw[FA] at this;simp only[fw,iU,Ja] at this;simp[loadVar,wD ha,run_load,this]
   refine .dat (xh ho fV yQ) ?_;simp only[PE.ev,h1,D.l_list,vV,D.i_int,xK];rw[uH hy];exact L7
  .cases hr
 .simp only[az] at hr;obtain⟨p,hp,hr⟩:=hr;have aV:=cv h hC hg hp;split at hr
  .rename_i ty e1;rw[e1] at aV;cases hc:(Nat.beq inf.size ty.size&&(ag==ty.rowT))<;>simp only[hc,zyy,zyx] at hr
   .cases hr
   cases hr;simp only[ao] at hc;exact auU h hi ha ho aV hc.1 hc.2
  .cases hr
def ua (h:Inv C S O V own hv w0 σ0 A a w)(hg:holds gs O=true)(x:Operand):aG C S O V hv (gL S gs x) (a.eval x) ((sB x).ev O)/\∀bM s,gL S gs x≠.opt bM s:=by
 cases x with
 |tmp t=>exact nD h hg t
 |_=>exact⟨trivial,λ_ _ e=>by cases e⟩
def acf {P:Program}{T:TypeId}{i:Nat}{f:Field}(h:E5 P T i=some f):∃fs,P.underlying T=some (.struct fs)/\fs[i]?=some f:=by
 unfold E5 at h;split at h
 .rename_i fs hu;exact⟨fs,hu,h⟩
 .cases h
def WR {o:Oper}{T:TypeId}{x:Operand}{i:Nat}{f:Field}{inf:TypeInfo}{k off:Nat}(ho:o.op=.fieldAddr T x i)(hf:E5 C.P T i=some f)(hi:C.P.info? f.type=some inf)(hn:Nat.beq inf.size 0=false)
 (hx:a.eval x=.pointer (some ⟨k,off,none⟩)):(execOp a.eval o).run C.P w=.ok (.value (.pointer (some ⟨k,off+f.offset,none⟩))) w:=by
 obtain⟨fs,hu,vX⟩:=acf hf;have lI:inf.size≠0:=by intro e;simp[e] at hn
 simp[execOp,ho,Instr.fieldAt,run_underlying hu,vX,hx,Instr.sureAddr,fieldPlace,Go.sizeOf,run_typeInfo w hi,lI,sO]
def auO (h:Inv C S O V own hv w0 σ0 A a w)(hC:CtxOK C σ0)(hg:holds gs O=true){T:TypeId}{x:Operand}{i:Nat}{r:Sh×List PI}(hr:US C S gs dst T x i=some r){o:Oper}(ho:o.op=.fieldAddr T x i):
 eL C S O V hv Z dst a w o r:=by
 simp only[US,az] at hr;obtain⟨f,hf,hr⟩:=hr;obtain⟨dV,fH⟩:=ua h hg x;split at hr
 case h_2=>cases hr
 rename_i inf ag hi ha;cases hn:Nat.beq inf.size 0<;>simp only[hn,zyy,zyx] at hr
 case true=>cases hr
 split at hr
 .rename_i j ver size off es;cases hb:Nat.beq ver (S.ver j)<;>simp only[hb,zyy,zyx] at hr
  .cases hr
  cases hr;rw[es] at dV;intro O' ak;obtain⟨k,n,c,ik,idx,eX,vV,bO,fV⟩:=dV.2 (ay hb);exact⟨_,_,vl ak,WR ho hf hi hn fV,⟨dV.1,λ_=>⟨k,n,c,ik,idx,eX,vV,bO,by rw[qU]⟩⟩,λ_ _ e=>by cases e⟩
 .split at hr
  .rename_i ts e hu;have aV:=cv h hC hg hu;simp only[aB] at hr;obtain⟨ty,br,rfl⟩:=hr;obtain⟨k,off,v,y,aL,bu,bI,jw⟩:=Rep.ref_inv aV;obtain⟨vs,ds,rfl,rfl,l1,l2,aK,dE⟩:=bI.agg_inv;obtain⟨qa,hlen,kQ⟩:=Na br l1 l2 aK dE;refine .dat (WR ho hf hi hn aL) ?_;have hde:(PE.deref e).ev O=.agg ds:=by simp only[PE.ev,bu,D.deref]
   simp only[PE.ev];rw[M9 hde];refine .ref ty k (off+f.offset) _ _ qa (λj u hu=>?_);have lJ:((vs.drop f.offset).take inf.size)[j]?=some u:=by
        cases ag with
        |true=>simpa [rowOf,Value.cells] using hu
        |false=>
         have:=kQ rfl;rw[this] at hlen ⊢;obtain⟨q,hq⟩:∃q,(vs.drop f.offset).take 1=[q]:=by
          match(vs.drop f.offset).take 1,hlen with
          |[q],_=>exact⟨q,rfl⟩
         rw[this] at qa hu;rw[hq] at qa hu ⊢;simp only[rowOf,qQ] at qa hu;have wh:ty.rowT=false:=by
          unfold wR at br;cases hle:Nat.ble (f.offset+inf.size) ts.length<;>simp only[hle,zyy,zyx] at br
          .cases br
          .cases hb:Nat.beq inf.size 1<;>simp only[hb,zyy,zyx] at br
           .cases br
           .have:=dE _ _ br;cases ty<;>simp_all [Ty.one,Ty.rowT]
         rw[qa.cells1 wh] at hu;simpa using hu
   simp only[fQ,gl] at lJ;split at lJ
   .have:=jw (f.offset+j) u (by simpa [Value.cells] using lJ)
    rwa [<-qU] at this
   .cases lJ
  .split at hr
   .rename_i j ver off es;cases hb:Nat.beq ver (S.ver j)<;>simp only[hb,zyy,zyx] at hr
    .cases hr
    cases hr;rw[es] at dV;intro O' ak;obtain⟨k,eX,fV⟩:=dV.2 (ay hb);exact⟨_,_,vl ak,WR ho hf hi hn fV,⟨dV.1,λ_=>⟨k,eX,rfl⟩⟩,λ_ _ e=>by cases e⟩
   .cases hr
def auP (h:Inv C S O V own hv w0 σ0 A a w)(hC:CtxOK C σ0)(hg:holds gs O=true){T:TypeId}{x:Operand}{i:Nat}{r:Sh×List PI}(hr:UR C S gs dst T x i=some r){o:Oper}(ho:o.op=.field T x i):
 eL C S O V hv Z dst a w o r:=by
 simp only[UR,az] at hr;obtain⟨f,hf,hr⟩:=hr;split at hr
 case h_2=>cases hr
 rename_i inf ag hi ha;split at hr
 case h_2=>cases hr
 rename_i ts e hu;have aV:=cv h hC hg hu;simp only[aB] at hr;obtain⟨ty,br,rfl⟩:=hr;obtain⟨vs,ds,aL,bu,l1,l2,aK,dE⟩:=Rep.agg_inv aV;obtain⟨qa,hlen,kQ⟩:=Na br l1 l2 aK dE;obtain⟨fs,lJ,vX⟩:=acf hf;have hle:f.offset+inf.size<=ts.length:=by
  unfold wR at br;cases hle:Nat.ble (f.offset+inf.size) ts.length<;>simp only[hle,zyy,zyx] at br
  .cases br
  .exact jI hle
 refine .dat (v:=rowOf ag ((vs.drop f.offset).take inf.size)) ?_ (by rw[M9 bu];exact qa);cases ag with
 |true=>
  simp only[execOp,ho,Instr.field,aL,asAgg,part];simp[run_underlying lJ,vX,wD ha,Go.sizeOf,run_typeInfo w hi,rowOf]
 |false=>
  have hn:=kQ rfl;have af:f.offset<vs.length:=by omega
  simp only[execOp,ho,Instr.field,aL,asAgg,part];simp[run_underlying lJ,vX,wD ha,rowOf,hn,aU af,aE,fQ,gl]
def ai8 {o:Oper}{T e:TypeId}{x i:Operand}{inf:TypeInfo}{k off n c idx:Nat}{ik:IntKind}(ho:o.op=.indexAddr T x i)(hT:C.P.underlying T=some (.slice e))(hi:C.P.info? e=some inf)
 (hx:a.eval x=.slice (some ⟨k,off,none⟩) n c) (aqA:a.eval i=.int ik idx) (af:idx<n):(execOp a.eval o).run C.P w=.ok (.value (.pointer (some ⟨k,off+idx*inf.size,none⟩))) w:=by
 simp[execOp,ho,Instr.indexAt,run_underlying hT,hx,aqA,asIntOf,af,Go.sizeOf,run_typeInfo w hi,sO]
def Oy {P:Program}{T:TypeId}{t:Ty}(h:ub P T t=true):∃inf,P.info? T=some inf/\inf.size=t.size:=by
 unfold ub at h;split at h
 .rename_i i hi;exact⟨i,hi,ay h⟩
 .cases h
def auR (h:Inv C S O V own hv w0 σ0 A a w)(hC:CtxOK C σ0)(hg:holds gs O=true){T:TypeId}{x i:Operand}{r:Sh×List PI}(hr:UW C S gs dst T x i=some r){o:Oper}(ho:o.op=.indexAddr T x i):
 eL C S O V hv Z dst a w o r:=by
 unfold UW at hr;split at hr
 case h_2=>cases hr
 rename_i e hT;simp only[az] at hr;obtain⟨p,hp,hr⟩:=hr;have aV:=cv h hC hg hp;split at hr
 case h_2=>cases hr
 rename_i ik e1;rw[e1] at aV;obtain⟨idx,aL,bu,b1,b2⟩:=aV.int_inv;split at hr
 .rename_i t pe hu;have da:=cv h hC hg hu;cases aI:ub C.P e t<;>simp only[aI,zyy,zyx] at hr
  .cases hr
  cases hr;obtain⟨inf,hi,hs⟩:=Oy aI;obtain⟨xs,hd,me⟩:=Rep.slice_inv da;refine .datc hg λhc=>?_;simp only[PE.ev,hd,bu,D.l_list,D.i_int,D.b_bool,decide_eq_true_eq] at hc;rcases me with⟨_,rfl⟩|⟨k,off,c,tD,h1,h2,vs,h3,h4⟩
  .simp at hc;omega
  .obtain⟨m,rfl⟩:=qP hc.1;have af:m<xs.length:=by omega
   refine⟨_,ai8 ho hT hi tD aL af,?_⟩;obtain⟨y,hy⟩:∃y,xs[m]?=some y:=⟨_,aU af⟩
   simp only[PE.ev,hd,bu,D.l_list,D.i_int,xK,uH hy];exact .ref t.unf k _ (vs m) y (h3 m y hy) (λj u hu=>by rw[hs];exact h4 m j u af hu)
 .cases hr
 .obtain⟨dV,fH⟩:=ua h hg x;split at hr
  .rename_i j ver es;rw[es] at dV;cases hb:Nat.beq ver (S.ver j)<;>simp only[hb,zyy,zyx] at hr
   .cases hr
   have dF:=ay hb;have bj:=h.objs j;have ct:=dV.2 dF;split at hr
   .rename_i T' t eo;rw[eo] at bj;cases aI:ub C.P e t<;>simp only[aI,zyy,zyx] at hr
    .cases hr
    cases hr;obtain⟨inf,hi,hs⟩:=Oy aI;obtain⟨cells,xs,h1,h2,⟨vs,h3,h4⟩,h5⟩:=bj;intro O' ak;obtain⟨hc,hρ⟩:=WT hg ak;simp only[PE.ev,h1,bu,D.l_list,D.i_int,D.b_bool,decide_eq_true_eq] at hc;obtain⟨m,rfl⟩:=qP hc.1;have af:m<xs.length:=by omega
    rcases h2.2 with⟨_,e0⟩|⟨g,cap,cur,eX,_⟩
    .omega
    .refine⟨_,_,hρ,ai8 ho hT hi (ct.trans eX) aL af,⟨by omega,λ_=>⟨g,xs.length,cap,ik,m,eX,bu,af,?_⟩⟩,λ_ _ e=>by cases e⟩;rw[hs];simp
   .cases hr
  .cases hr
def auS (h:Inv C S O V own hv w0 σ0 A a w)(hC:CtxOK C σ0)(hg:holds gs O=true){T:TypeId}{x i:Operand}{r:Sh×List PI}(hr:UU C S gs dst T x i=some r){o:Oper}(ho:o.op=.index T x i):
 eL C S O V hv Z dst a w o r:=by
 unfold UU at hr;split at hr
 case h_2=>cases hr
 rename_i hT;simp only[az] at hr;obtain⟨p,hp,q,hq,hr⟩:=hr;have aV:=cv h hC hg hp;have dL:=cv h hC hg hq;split at hr
 case h_2=>cases hr
 rename_i ik e1 e2;rw[e1] at aV;rw[e2] at dL;obtain⟨idx,aL,bu,b1,b2⟩:=aV.int_inv;obtain⟨s,iK,dD,_⟩:=dL.str_inv;cases hr;refine .datc hg λhc=>?_;simp only[PE.ev,dD,bu,D.s_str,D.i_int,D.b_bool,decide_eq_true_eq] at hc;obtain⟨m,rfl⟩:=qP hc.1;have af:m<s.size:=by omega
 refine⟨.int .u8 (s.data.getD m 0).toNat,?_,?_⟩
 .have:s[m]?=some (s.data.getD m 0):=by
   rw[getElem?_pos s m af];simp[ByteArray.getElem_eq_getElem_data,fe,ir (show m<s.data.size from af)]
  simp[execOp,ho,Instr.index,run_underlying hT,aL,iK,asIntOf,this]
 .simp only[PE.ev,dD,bu,D.s_str,D.i_int,xK];refine .int _ _ ?_ ?_
  .simp only[IntKind.min,IntKind.signed];simp
  .simp only[IntKind.max,IntKind.signed,IntKind.bits];have:=UInt8.toNat_lt (s.data.getD m 0);simp at this ⊢;omega
def aAu (h:Inv C S O V own hv w0 σ0 A a w)(hC:CtxOK C σ0)(hg:holds gs O=true){lo:Option Operand}{l:Ty×PE}{k:IntKind}(hl:ZT C S gs lo=some l)(hk:l.1=.int k):
 ∃n,l.2.ev O=.v (.int k n)/\((lo=none/\n=0)\/∃x,lo=some x/\a.eval x=.int k n):=by
 cases lo with
 |none=>simp[ZT] at hl;subst hl;simp at hk;subst hk;exact⟨0,rfl,.inl ⟨rfl,rfl⟩⟩
 |some x=>
  have:=cv h hC hg hl;rw[hk] at this;obtain⟨n,h1,h2,_⟩:=this.int_inv;exact⟨n,h2,.inr ⟨x,rfl,h1⟩⟩
def aAt (h:Inv C S O V own hv w0 σ0 A a w)(hC:CtxOK C σ0)(hg:holds gs O=true){e:PE}{hi:Option Operand}{l:Ty×PE}{k:IntKind}(hl:ZS C S gs e hi=some l)(hk:l.1=.int k):
 ∃n,l.2.ev O=.v (.int k n)/\((hi=none/\n=(e.ev O).l.length)\/∃x,hi=some x/\a.eval x=.int k n):=by
 cases hi with
 |none=>simp[ZS] at hl;subst hl;simp at hk;subst hk;exact⟨_,rfl,.inl ⟨rfl,rfl⟩⟩
 |some x=>
  have:=cv h hC hg hl;rw[hk] at this;obtain⟨n,h1,h2,_⟩:=this.int_inv;exact⟨n,h2,.inr ⟨x,rfl,h1⟩⟩
def run_sliceBound {P:Program}{x:Value}{y i:Nat}{k:IntKind}{code:BoundsCode}{w:World}(hx:x=.int k i)(h:i<=y):(Instr.sliceBound x y code).run P w=.ok i w:=by
 subst hx;simp[Instr.sliceBound,asIntOf,h]
def auZ (h:Inv C S O V own hv w0 σ0 A a w)(hC:CtxOK C σ0)(hg:holds gs O=true){T:TypeId}{x:Operand}{lo hi mx:Option Operand}{r:Sh×List PI}(hr:U1 C S gs dst T x lo hi mx=some r){o:Oper}(ho:o.op=.slice T x lo hi mx):
 eL C S O V hv Z dst a w o r:=by
 unfold U1 at hr;split at hr
 case h_3=>cases hr
 case h_2=>
  rename_i n e hT;split at hr
  case h_2=>cases hr
  simp only[az] at hr;obtain⟨p,hp,hr⟩:=hr;have aV:=cv h hC hg hp;split at hr
  case h_2=>cases hr
  rename_i t ts e1;cases hc:(Nat.beq n (ts.length+1)&&ts.all (Ty.beq t)&&t.one&&ub C.P e t&&Nat.ble n maxLen&&(aes x|| !Ty.beq t (.int .i64)))<;>simp only[hc,zyy,zyx] at hr
  .cases hr
  cases hr;simp only[ao] at hc;obtain⟨⟨⟨⟨⟨c1,c2⟩,c3⟩,c4⟩,c5⟩,c6⟩:=hc;have hn:=ay c1;have hm:=jI c5;obtain⟨inf,pZ,hs⟩:=Oy c4;rw[e1] at aV;obtain⟨k,off,x0,y,tD,hd,hr0,jw⟩:=aV.ref_inv;have Cu:t=.int .i64->V.m k=some mH:=by
   rintro rfl;rw[kL] at c6;rcases c6 with c6|c6
   .cases x with
    |global g=>
     simp only[use,aB] at hp;obtain⟨y',hy',_⟩:=hp;have hk:k=g:=by
      have e:a.eval (.global g)=.pointer (some ⟨g,0,none⟩):=rfl;rw[e] at tD;cases tD;rfl
     subst hk;exact h.le.m _ _ (hC.mg _ _ hy')
    |_=>cases c6
   .exact absurd c6 (by decide)
  obtain⟨vs,ds,rfl,rfl,l1,l2,cU,_⟩:=hr0.agg_inv
  have aK:∀(i:Nat),i<n->(t::ts)[i]?=some t:=λi hi=>by
   cases i with
   |zero=>rfl
   |succ i=>
    have af:i<ts.length:=by omega
    rw[I0,aU af];rw[Ty.beq_eq _ _ (cN.1 c2 _ (bU af))]
  have Sf:vs.length=n:=by rw[l1,hn];rfl
  have hld:ds.length=n:=by rw[l2,hn];rfl
  have dE:t.size=1:=by cases t<;>simp_all [Ty.one,Ty.size]
  refine eL.dat (v:=.slice (some ⟨k,off,none⟩) n n) ?_ ?_
  .have:Addr.add ⟨k,off,none⟩ 0=⟨k,off,none⟩:=by simp[Addr.add]
   simp[execOp,ho,Instr.sliceAt,run_underlying hT,tD,Instr.sureAddr,Instr.sliceBounds,Go.sizeOf,run_typeInfo w pZ,this]
  .have aqS:(PE.lst ((List.range n).map λi=>.cell (.deref p.2) i)).ev O=.list ds:=by
        simp only[PE.ev]
        congr 1
        have bL:∀l:List PE,PE.evs O l=l.map λe=>e.ev O:=λl=>by induction l with|nil=>rfl|cons e l ih=>simp[PE.evs,ih]
        rw[bL,nS];apply vx;intro i;rw[bX];by_cases hi:i<n
        .rw[pz hi,aU (by omega)];simp only[kj,Function.comp,PE.ev,hd,D.deref,D.c,D.cells];rw[aE,aU (by omega)];rfl
        .rw[kg (by simp;omega),kg (by omega)];rfl
   rw[aqS];refine .slice t k off n n ds (λi=>vs.getD i undef) hld (aX _) hm (λi x hx=>?_) (λi j u hi hu=>?_) Cu
   .have af:i<n:=by rw[<-hld];exact(eu.1 hx).1
    have:=cU i t (aK i af);rw[uH hx] at this;exact this.unf
   .have h1:=(cU i t (aK i hi)).oneCell c3;rw[h1.1] at hu;cases j with
    |zero=>
     simp at hu;have:=jw i (vs.getD i undef) (by
      simp only[Value.cells];rw[xN,aU (by omega),aE,aU (by omega)];rfl)
     rw[dE,<-hu];simpa using this
    |succ j=>simp at hu
 rename_i e hT;simp only[az] at hr;obtain⟨p,hp,hr⟩:=hr;have aV:=cv h hC hg hp;split at hr
 case h_2=>cases hr
 rename_i t e1;rw[e1] at aV;simp only[az] at hr;obtain⟨l,hl,u,hu,hr⟩:=hr;split at hr
 case h_2=>cases hr
 rename_i k1 k2 e2 e3;cases aI:ub C.P e t<;>simp only[aI,zyy,zyx] at hr
 .cases hr
 cases hr;obtain⟨inf,pZ,hs⟩:=Oy aI;obtain⟨n1,bu,p6⟩:=aAu h hC hg hl e2;obtain⟨n2,dD,Cb⟩:=aAt h hC hg hu e3;obtain⟨xs,hd,me⟩:=Rep.slice_inv' aV;refine .datc hg λhc=>?_;simp only[PE.ev,hd,bu,dD,D.l_list,D.i_int,D.b_bool,decide_eq_true_eq] at hc;obtain⟨m1,rfl⟩:=qP hc.1;obtain⟨m2,rfl⟩:=qP (show 0<=n2 by omega);have RA:m1<=m2:=by omega
 have h2l:m2<=xs.length:=by omega
 have acZ:∀c,xs.length<=c->(Instr.sliceBounds true xs.length c (lo.map a.eval) (hi.map a.eval) none).run C.P w=.ok (m1,m2,c) w:=by
  intro c jv
  have hh:∀code,(match hi.map a.eval with|some v=>Instr.sliceBound v c code|none=>(pure xs.length:Sem Nat)).run C.P w=.ok m2 w:=by
   intro code;rcases Cb with⟨rfl,e⟩|⟨y,rfl,e⟩
   .rw[hd,D.l_list] at e;simp;omega
   .simp only[kj];exact run_sliceBound e (by omega)
  have Se:∀code,(match lo.map a.eval with|some v=>Instr.sliceBound v m2 code|none=>(pure 0:Sem Nat)).run C.P w=.ok m1 w:=by
   intro code;rcases p6 with⟨rfl,e⟩|⟨y,rfl,e⟩
   .simp;omega
   .simp only[kj];exact run_sliceBound e RA
  have hh':=hh .sliceAcap;have adw:=Se .sliceB;unfold Instr.sliceBounds;cases hi<;>cases lo<;>simp at hh' adw ⊢<;>simp[hh',adw]
 rcases me with⟨⟨p0,tD⟩,rfl⟩|⟨k,off,c,tD,h1,h2,Cu,vs,h3,h4⟩
 .have:m2=0:=by simpa using h2l
  have:m1=0:=by omega
  subst_vars
  refine⟨.slice p0 0 0,?_,?_⟩
  .have hb:=acZ 0 (aX _);simp only[Aq] at hb;cases p0 with
   |none=>simp[execOp,ho,Instr.sliceAt,Instr.slice,run_underlying hT,tD,hb,Go.sizeOf,run_typeInfo w pZ]
   |some a0=>simp[execOp,ho,Instr.sliceAt,Instr.slice,run_underlying hT,tD,hb,Go.sizeOf,run_typeInfo w pZ]
  .simp only[PE.ev,hd,bu,dD,D.l_list,D.i_int];cases p0 with
   |none=>exact .nil t
   |some a0=>exact .emp t a0
 .refine⟨.slice (some (if c=m1 then⟨k,off,none⟩ else⟨k,off+m1*inf.size,none⟩)) (m2-m1) (c-m1),?_,?_⟩
  .have hb:=acZ c h1;simp only[execOp,ho,Option.map_none,Instr.sliceAt,run_underlying hT,tD];simp[run_underlying hT,Instr.slice,hb,Go.sizeOf,run_typeInfo w pZ,sO];split<;>simp
  .simp only[PE.ev,hd,bu,dD,D.l_list,D.i_int,xK];have hlen:((xs.take m2).drop m1).length=m2-m1:=by simp;omega
   have cU:∀(i:Nat) (y:D),((xs.take m2).drop m1)[i]?=some y->xs[m1+i]?=some y:=by
        intro i y hy;simp only[gl,fQ] at hy;split at hy
        .exact hy
        .cases hy
   have jw:∀(i j:Nat) (v:Value),i<m2-m1->(vs (m1+i)).cells[j]?=some v->V.c k (off+m1*inf.size+i*t.size+j)=some v:=by
        intro i j v hi hj;have:=h4 (m1+i) j v (by omega) hj;rw[jH] at this;rw[hs]
        rwa [<-qU] at this
   split
   .rename_i oF;refine .slice t k off (m2-m1) (c-m1) _ (λi=>vs (m1+i)) hlen (by omega) (by omega) (λi y hy=>h3 _ _ (cU i y hy)) (λi j v hi hj=>by omega) Cu
   .exact .slice t k (off+m1*inf.size) (m2-m1) (c-m1) _ (λi=>vs (m1+i)) hlen (by omega) (by omega) (λi y hy=>h3 _ _ (cU i y hy)) jw Cu
def ajL (h:Inv C S O V own hv w0 σ0 A a w)(hC:CtxOK C σ0)(hg:holds gs O=true):∀(xs:List Operand) (r:List Ty×List PE),qJ C S gs xs=some r->
 r.1.length=xs.length/\r.2.length=xs.length/\∀(i:Nat) (t:Ty),r.1[i]?=some t->Rep C.cap V t ((xs.map a.eval).getD i undef) ((PE.evs O r.2).getD i .none):=by
 intro xs
 induction xs with
 |nil=>intro r hr;simp[qJ] at hr;subst hr;exact⟨rfl,rfl,by simp⟩
 |cons x xs ih=>
  intro r hr;simp only[qJ,az,aB] at hr;obtain⟨p,hp,q,hq,rfl⟩:=hr;obtain⟨l1,l2,aK⟩:=ih q hq;refine⟨by simp[l1],by simp[l2],λi t hi=>?_⟩;cases i with
  |zero=>simp at hi;subst hi;simpa [PE.evs] using cv h hC hg hp
  |succ i=>simp at hi;simpa [PE.evs] using aK i t hi
def auQ (h:Inv C S O V own hv w0 σ0 A a w)(hC:CtxOK C σ0)(hg:holds gs O=true){fn:Fn}{first caps:Array Operand}{r:Sh×List PI}(hr:UT C S gs dst fn first caps=some r){o:Oper}(ho:o.op=.makeFunc fn first caps):
 eL C S O V hv Z dst a w o r:=by
 unfold UT at hr;split at hr
 case h_2=>cases hr
 rename_i f FE;have R1:first=#[]:=by simpa using FE
 subst R1;simp only[az] at hr;obtain⟨cs,cH,p,hp,hr⟩:=hr;cases hb:Ty.subs p.1 cs.caps<;>simp only[hb,zyy,zyx] at hr
 .cases hr
 cases hr;obtain⟨l1,l2,aK⟩:=ajL h hC hg _ _ hp;have hl:=Ty.subs_len _ _ hb;refine .dat (v:=.func (.func f) #[] (caps.map a.eval)) ?_ ?_
 .simp[execOp,ho,Instr.makeFunc]
 .simp only[PE.ev];have:caps.map a.eval=(caps.toList.map a.eval).toArray:=by apply uh;rw[vu]
  rw[this];have e1:(caps.toList.map a.eval).length=cs.caps.length:=by rw[ef];omega
  have e2:(PE.evs O p.2).length=cs.caps.length:=by rw[PE.evs_eq,ef];omega
  refine .fn f cs _ _ cH e1 e2 (λi t hi=>?_);obtain⟨s,hs,cA⟩:=Ty.subs_get _ _ hb i t hi;exact(aK i s hs).sub cA
def auW (h:Inv C S O V own hv w0 σ0 A a w)(hC:CtxOK C σ0)(hg:holds gs O=true){x:Operand}{r:Sh×List PI}(hr:UZ C S gs dst x=some r){o:Oper}(ho:o.op=.nilCheck x):
 eL C S O V hv Z dst a w o r:=by
 have ak:∀k off,a.eval x=.pointer (some ⟨k,off,none⟩)->(execOp a.eval o).run C.P w=.ok (.value (a.eval x)) w:=by
  intro k off e;simp[execOp,ho,e]
 unfold UZ at hr;split at hr
 .rename_i t e hu;cases hr;have aV:=cv h hC hg hu;obtain⟨k,off,v,y,aL,bu,bI,jw⟩:=Rep.ref_inv aV;exact .dat (ak k off aL) aV
 .split at hr
  .rename_i t _;obtain⟨hs,fH⟩:=nD h hg t;split at hr
   .rename_i j ver off es;rw[es] at hs;cases hb:Nat.beq ver (S.ver j)<;>simp only[hb,zyy,zyx] at hr
    .cases hr
    cases hr;obtain⟨k,eX,fV⟩:=hs.2 (ay hb);intro O' oO;exact⟨_,_,vl oO,ak k off fV,hs,λ_ _ e=>by cases e⟩
   .rename_i j ver sz off es;rw[es] at hs;cases hb:Nat.beq ver (S.ver j)<;>simp only[hb,zyy,zyx] at hr
    .cases hr
    cases hr;have dU:=hs;obtain⟨k,n,c,ik,i,eX,vV,bO,fV⟩:=hs.2 (ay hb);intro O' oO;exact⟨_,_,vl oO,ak _ _ fV,dU,λ_ _ e=>by cases e⟩
   .cases hr
  .cases hr
def aj1 {cap:Nat->Option CSig}{t:Ty}{z:Ty×D}{v:Value}(h:sH t=some z)(hz:Ae t v=true):Rep cap V z.1 v z.2/\z.1.one=true/\Ty.sub z.1 t=true:=by
 unfold Ae at hz;split at hz
 .simp at hz;obtain⟨rfl,rfl⟩:=hz;simp[sH] at h;subst h;exact⟨.int _ 0 (by rename_i k;cases k<;>decide) (by rename_i k;cases k<;>decide),rfl,by simp[Ty.sub,Ty.beq]⟩
 .simp at hz;subst hz;simp[sH] at h;subst h;exact⟨.bool false,rfl,rfl⟩
 .rename_i s;have:s=ByteArray.empty:=by
   have:s.size=0:=by simpa using hz
   cases s with|mk d=>simp[ByteArray.size] at this;subst this;rfl
  subst this;simp[sH] at h;subst h;exact⟨.str _ (by decide),rfl,rfl⟩
 .simp[sH] at h;subst h;exact⟨.nils _,rfl,rfl⟩
 .simp[sH] at h;subst h;refine⟨.mapnil _ _,rfl,?_⟩;simp only[Ty.sub];exact Ty.beq_refl _
 .simp[sH] at h;subst h;exact⟨.fnnil _ _,rfl,by simp only[Ty.sub];exact Ty.beq_refl _⟩
 .cases hz
end
def mapM_some {α β:Type}(f:α->Option β):∀(l:List α) (r:List β),l.mapM f=some r->r.length=l.length/\∀(i:Nat) (x:α),l[i]?=some x->∃y,r[i]?=some y/\f x=some y
 |[],r,h=>by simp at h;subst h;exact⟨rfl,by simp⟩
 |x::l,r,h=>by
  simp only[aaA,Option.bind_eq_bind,az] at h;obtain⟨y,hy,ys,oQ,h⟩:=h;cases h;obtain⟨h1,h2⟩:=mapM_some f l ys oQ;refine⟨by simp[h1],λi z hi=>?_⟩;cases i with
  |zero=>simp at hi;subst hi;exact⟨y,rfl,hy⟩
  |succ i=>simp at hi;simpa using h2 i z hi
def aab:∀(ts:List Ty) (vs:List Value),DK ts vs=true->vs.length=ts.length/\∀(i:Nat) (t:Ty),ts[i]?=some t->∃v,vs[i]?=some v/\Ae t v=true
 |[],vs,h=>by cases vs<;>simp_all [DK]
 |t::ts,vs,h=>by
  cases vs with
  |nil=>simp[DK] at h
  |cons v vs=>
   simp only[DK,ao] at h;obtain⟨h1,h2⟩:=aab ts vs h.2;refine⟨by simp[h1],λi u hi=>?_⟩;cases i with
   |zero=>simp at hi;subst hi;exact⟨v,rfl,h.1⟩
   |succ i=>simp at hi;simpa using h2 i u hi
def Af {cap:Nat->Option CSig}{V:Im}{t:Ty}{z:Ty×D}{v:Value}(h:qK t=some z)(hz:kf t v=true):Rep cap V z.1 v z.2/\Ty.sub z.1 t=true/\z.1.one=t.one:=by
 cases t with
 |agg ts=>
  simp only[qK,aB] at h;obtain⟨zs,jy,rfl⟩:=h;cases v with
  |agg vs=>
   simp only[kf] at hz;obtain⟨l1,h1⟩:=aab ts vs.toList hz;obtain⟨l2,h2⟩:=mapM_some _ _ _ jy;have key:∀(i:Nat) (t:Ty),ts[i]?=some t->∃y v,zs[i]?=some y/\vs.toList[i]?=some v/\Rep cap V y.1 v y.2/\y.1.one=true/\Ty.sub y.1 t=true:=by
      intro i t hi;obtain⟨y,hy,wz⟩:=h2 i t hi;obtain⟨v,hv,iK⟩:=h1 i t hi;obtain⟨g1,g2,g3⟩:=aj1 (cap:=cap) (V:=V) wz iK;exact⟨y,v,hy,hv,g1,g2,g3⟩
   have cg:∀(ts:List Ty) (zs:List (Ty×D)),zs.length=ts.length->(∀(i:Nat) (t:Ty),ts[i]?=some t->∃y,zs[i]?=some y/\Ty.sub y.1 t=true)->Ty.subs (zs.map (·.1)) ts=true:=by
      intro ts
      induction ts with
      |nil=>intro zs hl _;cases zs<;>simp_all [Ty.subs]
      |cons t ts ih=>
       intro zs hl hh;cases zs with
       |nil=>simp at hl
       |cons z zs=>
        simp only[iS,Ty.subs,ao];refine⟨?_,ih zs (by simpa using hl) λi u hu=>by simpa using hh (i+1) u (by simpa using hu)⟩;obtain⟨y,hy,wz⟩:=hh 0 t rfl;simp at hy;subst hy;exact wz
   refine⟨?_,?_,rfl⟩
   .have:vs=vs.toList.toArray:=by simp
    rw[this];refine .agg _ _ _ (by rw[ef];omega) (by simp) (λi t hi=>?_) (λi t hi=>?_)
    .simp only[bX,aB] at hi;obtain⟨q,hq,rfl⟩:=hi;obtain⟨t',wx⟩:∃t',ts[i]?=some t':=⟨_,aU (by have:=(eu.1 hq).1;omega)⟩
     obtain⟨y,v,hy,hv,g1,g2,g3⟩:=key i t' wx;rw[hq] at hy;cases hy;rw[uH hv,uH (show(zs.map (·.2))[i]?=some q.2 by simp[hq])];exact g1
    .simp only[bX,aB] at hi;obtain⟨q,hq,rfl⟩:=hi;obtain⟨t',wx⟩:∃t',ts[i]?=some t':=⟨_,aU (by have:=(eu.1 hq).1;omega)⟩
     obtain⟨y,v,hy,hv,g1,g2,g3⟩:=key i t' wx;rw[hq] at hy;cases hy;exact g2
   .simp only[Ty.sub];exact cg ts zs l2 λi t hi=>by obtain⟨y,v,hy,hv,g1,g2,g3⟩:=key i t hi;exact⟨y,hy,g3⟩
  |_=>simp[kf] at hz
 |_=>
  obtain⟨g1,g2,g3⟩:=aj1 (cap:=cap) (V:=V) (by simpa [qK] using h) (by simpa [kf] using hz);exact⟨g1,g3,(Ty.sub_one _ _ g3).1⟩
def ak7 {a b:ByteArray}(h:(a==b)=true):a=b:=by
 cases a with|mk x=>cases b with|mk y=>
 have:(x==y)=true:=h;rw[eq_of_beq this]
def ak8 (a:ByteArray):(a==a)=true:=by
 cases a with|mk x=>
 show(x==x)=true;simp
def TA {P:Program}{K:TypeId}{kt:Ty}(hk:nm P K kt=true):
 (∃k k',kt=.int k/\P.underlying K=some (.int k'))\/(kt=.str/\P.underlying K=some .string)\/(kt=.bool/\P.underlying K=some .bool):=by
 unfold nm at hk;split at hk
 .split at hk
  .exact .inl ⟨_,_,rfl,by assumption⟩
  .cases hk
 .split at hk
  .exact .inr (.inl ⟨rfl,by assumption⟩)
  .cases hk
 .split at hk
  .exact .inr (.inr ⟨rfl,by assumption⟩)
  .cases hk
 .cases hk
def anT {cap:Nat->Option CSig}{V:Im}{P:Program}{K:TypeId}{kt:Ty}{desc:TypeDesc}(hk:nm P K kt=true)(hu:P.underlying K=some desc){v:Value}{d:D}(hv:Rep cap V kt v d):
 ∀(es:List MapEntry) (ds:List (D×D)) (i:Nat),ds.length=es.length->(∀(j:Nat) (e:MapEntry) (p:D×D),es[j]?=some e->ds[j]?=some p->Rep cap V kt e.key p.1)->
  (Instr.findNow desc v es i=some none/\∀(j:Nat) (p:D×D),ds[j]?=some p->eP d p.1=false)\/
  ∃j e p,es[j]?=some e/\ds[j]?=some p/\Instr.findNow desc v es i=some (some (i+j,e.val))/\eP d p.1=true/\Instr.sameBits 10000 e.key v=true/\∀m q,m<j->ds[m]?=some q->eP d q.1=false:=by
 have dE:∀(v':Value) (d':D),Rep cap V kt v' d'->Instr.sameNow desc v v'=some (eP d d')/\(eP d d'=true->Instr.sameBits 10000 v' v=true):=by
  intro v' d' h';rcases TA hk with⟨k,k',rfl,lJ⟩|⟨rfl,lJ⟩|⟨rfl,lJ⟩
  .rw[hu] at lJ;cases lJ;obtain⟨n,rfl,rfl,_⟩:=hv.int_inv;obtain⟨m,rfl,rfl,_⟩:=h'.int_inv;refine⟨by simp[Instr.sameNow,eP,D.cells,tJ,u7],λe=>?_⟩;have:n=m:=by simpa [eP,D.cells,tJ,u7] using e
   subst this;simp[Instr.sameBits]
  .rw[hu] at lJ;cases lJ;obtain⟨n,rfl,rfl,_⟩:=hv.str_inv;obtain⟨m,rfl,rfl,_⟩:=h'.str_inv;refine⟨by simp[Instr.sameNow,eP,D.cells,tJ,u7],λe=>?_⟩;have:n=m:=ak7 (by simpa [eP,D.cells,tJ,u7] using e);subst this;simpa [Instr.sameBits] using ak8 n
  .rw[hu] at lJ;cases lJ;obtain⟨n,rfl,rfl⟩:=hv.bool_inv;obtain⟨m,rfl,rfl⟩:=h'.bool_inv;refine⟨by simp[Instr.sameNow,eP,D.cells,tJ,u7],λe=>?_⟩;have:n=m:=by simpa [eP,D.cells,tJ,u7] using e
   subst this;simp[Instr.sameBits]
 intro es
 induction es with
 |nil=>intro ds i hl _;left;exact⟨rfl,by cases ds<;>simp_all⟩
 |cons e es ih=>
  intro ds i hl aK;cases ds with
  |nil=>simp at hl
  |cons p ds=>
   obtain⟨hs,hb⟩:=dE e.key p.1 (aK 0 e p rfl rfl);cases oJ:eP d p.1 with
   |true=>
    right;rw[oJ] at hs;exact⟨0,e,p,rfl,rfl,by simp[Instr.findNow,hs],oJ,hb oJ,λm q hm=>by omega⟩
   |false=>
    rw[oJ] at hs;rcases ih ds (i+1) (by simpa using hl) (λj e' p' he hp=>aK (j+1) e' p' (by simpa using he) (by simpa using hp)) with⟨h1,h2⟩|⟨j,e',p',h1,h2,h3,h4,h5,h6⟩
    .left;refine⟨by simp[Instr.findNow,hs,h1],λj q hq=>?_⟩;cases j with
     |zero=>simp at hq;subst hq;exact oJ
     |succ j=>exact h2 j q (by simpa using hq)
    .right;refine⟨j+1,e',p',by simpa using h1,by simpa using h2,?_,h4,h5,λm q hm hq=>?_⟩
     .simp[Instr.findNow,hs,h3];omega
     .cases m with
      |zero=>simp at hq;subst hq;exact oJ
      |succ m=>exact h6 m q (by omega) (by simpa using hq)
def TI {d:D}:∀{ds:List (D×D)},(∀(j:Nat) (p:D×D),ds[j]?=some p->eP d p.1=false)->jf d ds=none
 |[],_=>rfl
 |p::ds,h=>by simp only[jf,h 0 p rfl];exact TI λj q hq=>h (j+1) q (by simpa using hq)
def TJ {d:D}:∀{ds:List (D×D)} {j:Nat} {p:D×D},ds[j]?=some p->eP d p.1=true->(∀(m:Nat) (q:D×D),m<j->ds[m]?=some q->eP d q.1=false)->jf d ds=some p.2
 |[],j,p,hp,_,_=>by simp at hp
 |x::ds,0,p,hp,hk,_=>by simp at hp;subst hp;simp[jf,hk]
 |x::ds,j+1,p,hp,hk,hm=>by
  simp only[jf,hm 0 x (by omega) rfl];exact TJ (j:=j) (by simpa using hp) hk λm q af hq=>hm (m+1) q (by omega) (by simpa using hq)
def Vi {d v:D}:∀{ds:List (D×D)},(∀(j:Nat) (p:D×D),ds[j]?=some p->eP d p.1=false)->fj d v ds=ds++[(d,v)]
 |[],_=>rfl
 |p::ds,h=>by simp only[fj,h 0 p rfl,xE,if_false,IZ];rw[Vi λj q hq=>h (j+1) q (by simpa using hq)]
def Vj {d v:D}:∀{ds:List (D×D)} {j:Nat} {p:D×D},ds[j]?=some p->eP d p.1=true->(∀(m:Nat) (q:D×D),m<j->ds[m]?=some q->eP d q.1=false)->fj d v ds=ds.set j (d,v)
 |[],j,p,hp,_,_=>by simp at hp
 |x::ds,0,p,hp,hk,_=>by simp at hp;subst hp;simp[fj,hk]
 |x::ds,j+1,p,hp,hk,hm=>by
  simp only[fj,hm 0 x (by omega) rfl,xE,if_false,List.set_cons_succ];rw[Vj (j:=j) (by simpa using hp) hk λm q af hq=>hm (m+1) q (by omega) (by simpa using hq)]
def aeG {P:Program}{K:TypeId}{kt:Ty}(hk:Cy P K kt=true):
 ∃k k' e q i,kt=.agg [.int k,.int k']/\P.underlying K=some (.array 2 e)/\P.underlying e=some (.int q)/\P.plainKey e=true/\P.info? e=some i/\P.cellsOf e=1:=by
 unfold Cy at hk;split at hk
 case h_2=>cases hk
 rename_i k k';split at hk
 case h_2=>cases hk
 rename_i n e hu;simp only[ao] at hk;obtain⟨⟨⟨h1,h2⟩,h3⟩,h4⟩:=hk;have hn:=ay h1;subst hn;split at h2
 case h_2=>cases h2
 rename_i q hq;split at h4
 case h_2=>cases h4
 rename_i i hi;exact⟨k,k',e,q,i,rfl,hu,hq,h3,hi,ay h4⟩
def Rep.pair_inv {cap:Nat->Option CSig}{V:Im}{k k':IntKind}{v:Value}{d:D}(h:Rep cap V (.agg [.int k,.int k']) v d):∃a b,v=.agg #[.int k a,.int k' b]/\d=.agg [.v (.int k a),.v (.int k' b)]:=by
 generalize ht:Ty.agg [.int k,.int k']=t at h;cases h with
 |agg ts vs ds h1 h2 h ho=>
  cases ht;obtain⟨x,y,rfl⟩:∃x y,vs=[x,y]:=by
   match vs,h1 with
   |[x,y],_=>exact⟨x,y,rfl⟩
  obtain⟨p,q,rfl⟩:∃x y,ds=[x,y]:=by
   match ds,h2 with
   |[x,y],_=>exact⟨x,y,rfl⟩
  obtain⟨a,e1,e2,_⟩:=(h 0 _ rfl).int_inv;obtain⟨b,e3,e4,_⟩:=(h 1 _ rfl).int_inv;simp at e1 e2 e3 e4;subst e1 e2 e3 e4;exact⟨a,b,rfl,rfl⟩
 |_=>cases ht
def awZ {P:Program}{K e:TypeId}{q:IntKind}{i:TypeInfo}(hu:P.underlying K=some (.array 2 e))(hq:P.underlying e=some (.int q))(hp:P.plainKey e=true)(hi:P.info? e=some i)(hc:P.cellsOf e=1)(k k':IntKind)(a b c d:Int)(w:World):
 (Op.equal K (.agg #[.int k a,.int k' b]) (.agg #[.int k c,.int k' d])).run P w=.ok (a==c&&b==d) w:=by
 unfold Op.equal;show(Op.equalIn (9999+1) K _ _).run P w=_;rw[run_equalIn_array w 9999 _ _ hu hi,hc];have e0:List.range 2=[0,1]:=rfl;have p0:∀(x y:Value) (w:World),(part e #[x,y] 0).run P w=.ok x w:=λx y w=>run_part_plain w hp rfl;have p1:∀(x y:Value) (w:World),(part e #[x,y] 1).run P w=.ok y w:=λx y w=>run_part_plain w hp rfl;have q0:∀(k:IntKind) (a b:Int) (w:World),(Op.equalIn 9999 e (.int k a) (.int k b)).run P w=.ok (a==b) w:=λk a b w=>run_equalIn_int w 9998 e k q a b hq;rw[e0];simp only[Op.eqItems,Sem.run_bind,Px,Nat.one_mul,p0,p1,Result.andThen_ok,q0];cases a==c
 .simp
 .simp only[Bool.not_true,xE,if_false,Sem.run_bind,p1,Result.andThen_ok,q0];cases b==d<;>simp
def aeF {P:Program}{K:TypeId}{kt:Ty}(hk:wG P K kt=true):nm P K kt=true\/Cy P K kt=true:=by
 unfold wG at hk;simpa using hk
def alM {cap:Nat->Option CSig}{V:Im}{P:Program}{K:TypeId}{kt:Ty}(hk:Cy P K kt=true){v:Value}{d:D}(hv:Rep cap V kt v d){w:World}{b:Bool}:(Instr.checkKey b 10000 K v).run P w=.ok () w:=by
 obtain⟨k,k',e,q,i,rfl,hu,hq,hp,hi,hc⟩:=aeG hk;obtain⟨x,y,rfl,_⟩:=hv.pair_inv;have p0:∀(x y:Value) (w:World),(part e #[x,y] 0).run P w=.ok x w:=λx y w=>run_part_plain w hp rfl;have p1:∀(x y:Value) (w:World),(part e #[x,y] 1).run P w=.ok y w:=λx y w=>run_part_plain w hp rfl
 have c0:∀(m:Nat) (k:IntKind) (n:Int) (w:World),(Instr.checkKey b (m+1) e (.int k n)).run P w=.ok () w:=λm k n w=>by
  simp[Instr.checkKey,run_underlying hq]
 have s0:∀w:World,(Go.sizeOf e).run P w=Result.ok 1 w:=λw=>by rw[run_sizeOf w hi,hc]
 have main:∀m,(Instr.checkKey b (m+1+1) K (.agg #[.int k x,.int k' y])).run P w=.ok () w:=by
  intro m;rw[Instr.checkKey];simp only[Sem.run_bind,run_underlying hu,Result.andThen_ok,Std.Legacy.Range.forIn_eq_forIn_range',Std.Legacy.Range.size,Nat.sub_zero,Nat.add_one_sub_one,Nat.div_one];simp[List.range',s0,p0,p1,c0,Sem.run_bind,Result.andThen_ok]
 exact main 9998
def abv {cap:Nat->Option CSig}{V:Im}{P:Program}{K:TypeId}{kt:Ty}(hk:wG P K kt=true){v:Value}{d:D}(hv:Rep cap V kt v d){w:World}{b:Bool}:(Instr.checkKey b 10000 K v).run P w=.ok () w:=by
 rcases aeF hk with hk|hk
 case inr=>exact alM hk hv
 have:∀n,(Instr.checkKey b (n+1) K v).run P w=.ok () w:=by
  intro n;rcases TA hk with⟨k,k',rfl,hu⟩|⟨rfl,hu⟩|⟨rfl,hu⟩<;>cases v<;>simp[Instr.checkKey,run_underlying hu]
 exact this 9999
section
variable {C:Ctx} {S:St} {O:Env} {V:Im} {own:Nat->Option Nat} {hv:Nat->Value} {w0:World} {σ0:Base} {A:Nat->Prop} {a:Act} {w:World} {gs:List (Nat×Bool)} {Z:aS} {dst:Nat}
def asF {P:Program}{K:TypeId}{kt:Ty}(hk:nm P K kt=true):∃desc,P.underlying K=some desc:=by
 rcases TA hk with⟨k,k',rfl,hu⟩|⟨rfl,hu⟩|⟨rfl,hu⟩<;>exact⟨_,hu⟩
def aw0 {cap:Nat->Option CSig}{P:Program}{K:TypeId}{kt et:Ty}(hk:Cy P K kt=true){v:Value}{d:D}(hv:Rep cap V kt v d)(arr:Array MapEntry)(ds:List (D×D))(hl:ds.length=arr.size)
 (aK:∀(j:Nat) (e:MapEntry) (p:D×D),arr[j]?=some e->ds[j]?=some p->Rep cap V kt e.key p.1/\Rep cap V et e.val p.2) (w:World):
 ((Instr.findKey K v arr.toList).run P w=.ok none w/\jf d ds=none/\∀u,fj d u ds=ds++[(d,u)])\/
 ∃j e p,arr[j]?=some e/\ds[j]?=some p/\(Instr.findKey K v arr.toList).run P w=.ok (some (j,e.val)) w/\jf d ds=some p.2/\(∀u,fj d u ds=ds.set j (d,u))/\Instr.sameBits 10000 e.key v=true:=by
 obtain⟨k,k',e,q,i,rfl,hu,hq,hp,hi,hc⟩:=aeG hk;have dE:∀(v':Value) (d':D),Rep cap V (.agg [.int k,.int k']) v' d'->(Op.equal K v v').run P w=.ok (eP d d') w/\(eP d d'=true->Instr.sameBits 10000 v' v=true)/\Instr.sameNow (.array 2 e) v v'=none:=by
  intro v' d' h';obtain⟨a,b,rfl,rfl⟩:=hv.pair_inv;obtain⟨a',b',rfl,rfl⟩:=h'.pair_inv;refine⟨?_,λhe=>?_,rfl⟩
  .rw[awZ hu hq hp hi hc];simp[eP,D.cells,tJ,u7]
  .have:a=a'/\b=b':=by simpa [eP,D.cells,tJ,u7] using he
   obtain⟨rfl,rfl⟩:=this;simp[Instr.sameBits]
 have ask:∀(es:List MapEntry) (ds:List (D×D)) (i:Nat),ds.length=es.length->(∀(j:Nat) (e:MapEntry) (p:D×D),es[j]?=some e->ds[j]?=some p->Rep cap V (.agg [.int k,.int k']) e.key p.1)->
  ((Instr.findAsking K v es i).run P w=.ok none w/\∀(j:Nat) (p:D×D),ds[j]?=some p->eP d p.1=false)\/
  ∃j e p,es[j]?=some e/\ds[j]?=some p/\(Instr.findAsking K v es i).run P w=.ok (some (i+j,e.val)) w/\eP d p.1=true/\Instr.sameBits 10000 e.key v=true/\∀m q,m<j->ds[m]?=some q->eP d q.1=false:=by
  intro es
  induction es with
  |nil=>intro ds i hl _;left;exact⟨by simp[Instr.findAsking],by cases ds<;>simp_all⟩
  |cons en es ih=>
   intro ds i hl aK;cases ds with
   |nil=>simp at hl
   |cons p ds=>
    obtain⟨hs,hb,_⟩:=dE en.key p.1 (aK 0 en p rfl rfl);cases oJ:eP d p.1 with
    |true=>
     right;rw[oJ] at hs;exact⟨0,en,p,rfl,rfl,by simp[Instr.findAsking,hs],oJ,hb oJ,λm q hm=>by omega⟩
    |false=>
     rw[oJ] at hs;rcases ih ds (i+1) (by simpa using hl) (λj e' p' he hp=>aK (j+1) e' p' (by simpa using he) (by simpa using hp)) with⟨h1,h2⟩|⟨j,e',p',h1,h2,h3,h4,h5,h6⟩
     .left;refine⟨by simp[Instr.findAsking,hs,h1],λj q hq=>?_⟩;cases j with
      |zero=>simp at hq;subst hq;exact oJ
      |succ j=>exact h2 j q (by simpa using hq)
     .right;refine⟨j+1,e',p',by simpa using h1,by simpa using h2,?_,h4,h5,λm q hm hq=>?_⟩
      .simp[Instr.findAsking,hs,h3];omega
      .cases m with
       |zero=>simp at hq;subst hq;exact oJ
       |succ m=>exact h6 m q (by omega) (by simpa using hq)
 have lE:(Instr.findKey K v arr.toList).run P w=(Instr.findAsking K v arr.toList 0).run P w:=by
  cases jT:arr.toList with
  |nil=>simp[Instr.findKey,run_underlying hu,Instr.findNow,Instr.findAsking]
  |cons en es=>
   obtain⟨p,F2⟩:∃p,ds[0]?=some p:=by
        have:0<ds.length:=by rw[hl];have:=congrArg List.length jT;simp at this;omega
        exact⟨_,aU this⟩
   have RZ:arr[0]?=some en:=by rw[<-py,jT];rfl
   have:=(dE en.key p.1 (aK 0 en p RZ F2).1).2.2;simp[Instr.findKey,run_underlying hu,Instr.findNow,this]
 rw[lE];rcases ask arr.toList ds 0 (by simpa using hl) (λj e p he hp=>(aK j e p (by simpa using he) hp).1) with⟨h1,h2⟩|⟨j,e,p,h1,h2,h3,h4,h5,h6⟩
 .left;exact⟨h1,TI h2,λu=>Vi h2⟩
 .right;simp only[fw] at h3;exact⟨j,e,p,by simpa using h1,h2,h3,TJ h2 h4 h6,λu=>Vj h2 h4 h6,h5⟩
def run_findKey {cap:Nat->Option CSig}{P:Program}{K:TypeId}{kt et:Ty}(gW:wG P K kt=true){v:Value}{d:D}(hv:Rep cap V kt v d)(arr:Array MapEntry)(ds:List (D×D))(hl:ds.length=arr.size)
 (aK:∀(j:Nat) (e:MapEntry) (p:D×D),arr[j]?=some e->ds[j]?=some p->Rep cap V kt e.key p.1/\Rep cap V et e.val p.2) (w:World):
 ((Instr.findKey K v arr.toList).run P w=.ok none w/\jf d ds=none/\∀u,fj d u ds=ds++[(d,u)])\/
 ∃j e p,arr[j]?=some e/\ds[j]?=some p/\(Instr.findKey K v arr.toList).run P w=.ok (some (j,e.val)) w/\jf d ds=some p.2/\(∀u,fj d u ds=ds.set j (d,u))/\Instr.sameBits 10000 e.key v=true:=by
 rcases aeF gW with hk|hk
 case inr=>exact aw0 hk hv arr ds hl aK w
 obtain⟨desc,hu⟩:=asF hk;rcases anT hk hu hv arr.toList ds 0 (by simpa using hl) (λj e p he hp=>(aK j e p (by simpa using he) hp).1) with⟨h1,h2⟩|⟨j,e,p,h1,h2,h3,h4,h5,h6⟩
 .left;exact⟨by simp[Instr.findKey,run_underlying hu,h1],TI h2,λu=>Vi h2⟩
 .right;refine⟨j,e,p,by simpa using h1,h2,?_,TJ h2 h4 h6,λu=>Vj h2 h4 h6,h5⟩;simp only[fw] at h3;simp[Instr.findKey,run_underlying hu,h3]
def auV (h:Inv C S O V own hv w0 σ0 A a w)(hC:CtxOK C σ0)(hg:holds gs O=true){T:TypeId}{m k:Operand}{ok:Bool}{r:Sh×List PI}(hr:UY C S gs dst T m k ok=some r){o:Oper}(ho:o.op=.lookup T m k ok):
 eL C S O V hv Z dst a w o r:=by
 unfold UY at hr;split at hr
 case h_2=>cases hr
 rename_i K E hT;simp only[az] at hr;obtain⟨p,hp,q,hq,hr⟩:=hr;have aV:=ZV h hC hg hp;have dL:=cv h hC hg hq;split at hr
 case h_2=>cases hr
 rename_i kt et e1;rw[e1] at aV;split at hr
 case h_2=>cases hr
 rename_i z inf hz pZ;cases hc:(Ty.beq q.1 kt&&wG C.P K kt&&Ty.sub z.1 et&&vq inf et)<;>simp only[hc,zyy,zyx] at hr
 .cases hr
 simp only[ao] at hc;obtain⟨⟨⟨LR,FL⟩,cg⟩,hzero⟩:=hc;rw[Ty.beq_eq _ _ LR] at dL;obtain⟨v0,eF,Gr⟩:∃v0,inf.zero=some v0/\Rep C.cap V et v0 z.2:=by
  unfold vq at hzero;split at hzero
  .rename_i v0 e0;exact⟨v0,e0,(Af hz hzero).1.sub cg⟩
  .cases hzero
 have aqj:∃(arr:Array MapEntry) (ds:List (D×D)),(p.2.ev O).m=ds/\ds.length=arr.size/\
  (∀(j:Nat) (e:MapEntry) (p:D×D),arr[j]?=some e->ds[j]?=some p->Rep C.cap V kt e.key p.1/\Rep C.cap V et e.val p.2)/\
  ((a.eval m=.map none/\arr=#[])\/∃g clock,a.eval m=.map (some g)/\w.heap[g]?=some (.map arr clock)):=by
  rcases aV with aV|⟨T',e,cells,xs,ht,_⟩|⟨g,arr,clock,es,kt',et',ht,hvm,hb,hd,hl,hx,aK⟩
  .generalize y5:a.eval m=v at aV;generalize Fw:p.2.ev O=d at aV;cases aV with
   |mapnil=>exact⟨#[],[],by simp[D.m],rfl,by simp,.inl ⟨rfl,rfl⟩⟩
   |map kt et r ij es hm hl hx hk he=>
    obtain⟨arr,clock,hb,jT⟩:=(h.ok.m _ _ hm).mp (GI hl hk) (afD hl hk);have hn:es.length=arr.size:=by rw[hl,<-jT];simp[entriesOf]
    refine⟨arr,es,by simp[D.m],hn,λj e p hj hp=>?_,.inr ⟨r,clock,rfl,hb⟩⟩;have:ij[j]?=some (e.key,e.val):=by rw[<-jT];simp[entriesOf,hj]
    exact⟨hk j _ p this hp,he j _ p this hp⟩
  .cases ht
  .cases ht;exact⟨arr,es,by rw[hd];rfl,hl,aK,.inr ⟨g,clock,hvm,hb⟩⟩
 obtain⟨arr,ds,hd,hl,aK,ct⟩:=aqj;have jR:∀b,(Instr.checkKey b 10000 K (a.eval k)).run C.P w=.ok () w:=λb=>abv (cap:=C.cap) (V:=V) FL dL;have Sj:∃u b x,(Instr.lookup T (a.eval m) (a.eval k) ok).run C.P w=.ok (if ok then .tuple #[u,.bool b] else u) w/\(jf (q.2.ev O) (p.2.ev O).m).getD z.2=x/\(jf (q.2.ev O) (p.2.ev O).m).isSome=b/\Rep C.cap V et u x:=by
  rw[hd];rcases run_findKey FL dL arr ds hl aK w with⟨h1,h2,_⟩|⟨j,e,x,h1,h2,h3,h4,_,_⟩
  .refine⟨v0,false,z.2,?_,by rw[h2];rfl,by rw[h2];rfl,Gr⟩;rcases ct with⟨em,rfl⟩|⟨g,clock,em,hb⟩
   .simp only[List.toList_toArray] at h1;cases ok<;>simp[Instr.lookup,run_underlying hT,em,jR,h1,zeroValue,run_typeInfo w pZ,eF]
   .cases ok<;>simp[Instr.lookup,run_underlying hT,em,getObj,Sem.run,hb,jR,h1,zeroValue,run_typeInfo w pZ,eF]
  .refine⟨e.val,true,x.2,?_,by rw[h4];rfl,by rw[h4];rfl,(aK j e x h1 h2).2⟩;rcases ct with⟨em,rfl⟩|⟨g,clock,em,hb⟩
   .simp at h1
   .cases ok<;>simp[Instr.lookup,run_underlying hT,em,getObj,Sem.run,hb,jR,h3]
 obtain⟨u,b,x,ak,kT,y8,bI⟩:=Sj;cases ok with
 |true=>
  simp only[zyy] at hr;cases hr;refine .dat (v:=.tuple #[u,.bool b]) (by simp[execOp,ho,ak]) ?_;simp only[PE.ev,PE.evs,kT,y8];refine .tup [et,.bool] [u,.bool b] [x,.v (.bool b)] rfl rfl (λi t hi=>?_)
  match i,hi with
  |0,hi=>simp at hi;subst hi;exact bI
  |1,hi=>simp at hi;subst hi;exact .bool b
  |i+2,hi=>simp at hi
 |false=>
  simp only[zyx] at hr;cases hr;refine .dat (v:=u) (by simp[execOp,ho,ak]) ?_;simp only[PE.ev,kT];exact bI
end
def acq (off:Nat):∀(l:List Value) (s:Nat) (cells:Array Value),off+s+l.length<=cells.size->
 ((l.zipIdx s).foldl (λcs (x:Value×Nat)=>cs.setIfInBounds (off+x.2) x.1) cells).size=cells.size/\
 ∀p,((l.zipIdx s).foldl (λcs (x:Value×Nat)=>cs.setIfInBounds (off+x.2) x.1) cells)[p]?=if off+s<=p/\p<off+s+l.length then l[p-(off+s)]? else cells[p]?
 |[],s,cells,_=>by
  refine⟨rfl,λp=>?_⟩;have:¬(off+s<=p/\p<off+s+0):=by omega
  simp only[List.zipIdx_nil,List.foldl_nil,Aq];rw[if_neg this]
 |v::l,s,cells,h=>by
  simp only[qT] at h;obtain⟨h1,h2⟩:=acq off l (s+1) (cells.setIfInBounds (off+s) v) (by simp;omega);simp only[List.zipIdx_cons,xM];refine⟨by rw[h1];simp,λp=>?_⟩;rw[h2 p];by_cases hp:p=off+s
  .subst hp;have c1:¬(off+(s+1)<=off+s/\off+s<off+(s+1)+l.length):=by omega
   have c2:off+s<=off+s/\off+s<off+s+(v::l).length:=by simp
   rw[if_neg c1,if_pos c2,DM,if_pos rfl,if_pos (by omega)];simp
  .by_cases hc:off+(s+1)<=p/\p<off+(s+1)+l.length
   .have c2:off+s<=p/\p<off+s+(v::l).length:=by simp only[qT];omega
    rw[if_pos hc,if_pos c2];rw[show p-(off+s)=(p-(off+(s+1)))+1 by omega];simp
   .have c2:¬(off+s<=p/\p<off+s+(v::l).length):=by simp only[qT];omega
    rw[if_neg hc,if_neg c2,DM];rw[if_neg (by omega)]
def Rh (place:Nat->Option (Nat×Nat)):∀(parts:List (Nat×Value)) (cells:Array Value),
 (∀p,p∈parts->∃o,place p.1=some (o,p.2.cells.size)/\o+p.2.cells.size<=cells.size)->
 (∀i j oi si oj sj,i≠j->place i=some (oi,si)->place j=some (oj,sj)->oi+si<=oj\/oj+sj<=oi)->(parts.map (·.1)).Nodup->
 ∃dj,Instr.fill place cells parts=some dj/\dj.size=cells.size/\
  (∀i v o,(i,v)∈parts->place i=some (o,v.cells.size)->∀m,m<v.cells.size->dj[o+m]?=v.cells[m]?)/\
  (∀i o s,i∉parts.map (·.1)->place i=some (o,s)->∀m,m<s->dj[o+m]?=cells[o+m]?)
 |[],cells,_,_,_=>⟨cells,rfl,rfl,by simp,λ_ _ _ _ _ _ _=>rfl⟩
 |(i,v)::parts,cells,h,B5,bo=>by
  obtain⟨o,hp,hle⟩:=h (i,v) (fR ..);simp only at hp hle;obtain⟨g1,g2⟩:=acq o v.cells.toList 0 cells (by simp;omega);simp only[iS,pB] at bo
  have hz:v.cells.zipIdx.foldl (λcs (x:Value×Nat)=>cs.setIfInBounds (o+x.2) x.1) cells=(v.cells.toList.zipIdx 0).foldl (λcs (x:Value×Nat)=>cs.setIfInBounds (o+x.2) x.1) cells:=by
    rw[<-Array.foldl_toList];simp
  generalize hc1:(v.cells.toList.zipIdx 0).foldl (λcs (x:Value×Nat)=>cs.setIfInBounds (o+x.2) x.1) cells=c1 at g1 g2 hz
  obtain⟨dj,k1,k2,k3,k4⟩:=Rh place parts c1 (λp hm=>by
    obtain⟨o',h1,h2⟩:=h p (fq _ hm);exact⟨o',h1,by rw[g1];exact h2⟩) B5 bo.2
  refine⟨dj,?_,k2.trans g1,?_,?_⟩
  .simp only[Instr.fill,hp];have:¬((v.cells.size≠v.cells.size||decide (o+v.cells.size>cells.size))=true):=by simp;omega
   rw[if_neg this];rw[<-k1,<-hz]
  .intro j u o' hm Ci m af;rcases cB.1 hm with e|fG
   .cases e;rw[hp] at Ci;cases Ci;rw[k4 i o v.cells.size bo.1 hp m af,g2];rw[if_pos (by simp;omega)];simp
   .exact k3 j u o' fG Ci m af
  .intro j o' s' p7 Ci m af;simp only[iS,cB,not_or] at p7;rw[k4 j o' s' p7.2 Ci m af,g2];have:=B5 i j o v.cells.size o' s' (λe=>p7.1 e.symm) hp Ci;rw[if_neg (by simp;omega)]
section
variable {C:Ctx} {S:St} {O:Env} {V:Im} {own:Nat->Option Nat} {hv:Nat->Value} {w0:World} {σ0:Base} {A:Nat->Prop} {a:Act} {w:World} {gs:List (Nat×Bool)} {Z:aS} {dst:Nat}
def Rep.flat {cap:Nat->Option CSig}{t:Ty}{v:Value}{d:D}(h:Rep cap V t v d)(ht:t.rowT=true\/t.one=true):
 t.flat.length=t.size/\d.cells.length=t.size/\∀(m:Nat) (tm:Ty),t.flat[m]?=some tm->tm.one=true/\Rep cap V tm (v.cells.getD m undef) (d.cells.getD m .none):=by
 cases h with
 |agg ts vs ds h1 h2 h ho=>
  refine⟨rfl,by simp[D.cells,Ty.size,h2],λm tm hm=>⟨ho m tm hm,?_⟩⟩;have:=h m tm hm;simpa [Value.cells,D.cells,fe,aE] using this
 |tup ts vs ds h1 h2 h=>simp[Ty.rowT,Ty.one] at ht
 |_=>
  refine⟨rfl,rfl,λm tm hm=>?_⟩
  match m,hm with
  |0,hm=>
   simp only[Ty.flat,Po,aZ] at hm;subst hm;refine⟨rfl,?_⟩;simp only[Value.cells,D.cells,qQ];constructor<;>assumption
  |m+1,hm=>simp[Ty.flat] at hm
def qn:∀{l:List Nat},hZ l=true->l.Nodup
 |[],_=>List.nodup_nil
 |a::r,h=>by
  simp only[hZ,ao,kK] at h;refine pB.2 ⟨λhm=>?_,qn h.2⟩;have:=List.any_eq_false.1 h.1 a hm;simp at this
def Laid (P:Program):List Field->Nat->Prop
 |[],_=>True
 |f::fs,off=>f.offset=off/\∃inf,P.info? f.type=some inf/\Laid P fs (off+inf.size)
def Laid.get {P:Program}:∀{fs:List Field} {off:Nat},Laid P fs off->∀(i:Nat) (f:Field),fs[i]?=some f->∃inf,P.info? f.type=some inf/\off<=f.offset/\
 ∀(j:Nat) (g:Field),i<j->fs[j]?=some g->f.offset+inf.size<=g.offset
 |[],_,_,i,f,hi=>by simp at hi
 |f0::fs,off,h,i,f,hi=>by
  obtain⟨h1,inf,h2,h3⟩:=h;cases i with
  |zero=>
   simp at hi;subst hi;refine⟨inf,h2,by omega,λj g hj hg=>?_⟩;cases j with
   |zero=>omega
   |succ j=>obtain⟨_,_,h4,_⟩:=h3.get j g (by simpa using hg);omega
  |succ i=>
   simp at hi;obtain⟨asp,k1,k2,k3⟩:=h3.get i f hi;refine⟨asp,k1,by omega,λj g hj hg=>?_⟩;cases j with
   |zero=>omega
   |succ j=>exact k3 j g (by omega) (by simpa using hg)
def ahA {ft:Ty}{x:Operand}{y:List AgC×PE}(h:CR C S gs ft x=some y):y.1.length=ft.size:=by
 have Rp:∀t:Ty,t.flat.length=t.size:=λt=>by cases t<;>simp[Ty.flat,Ty.size]
 unfold CR at h;split at h
 .rename_i a _;cases hs:(Ty.sub a.1 ft&&(a.1.rowT||a.1.one))<;>simp only[hs,zyy,zyx] at h
  .cases h
  cases h;simp only[ao] at hs;rw[ef,Rp,(Ty.sub_one _ _ hs.1).2]
 .split at h
  .rename_i j ver _;cases hb:(Nat.beq ver (S.ver j)&&Tv (S.o j)&&Nat.beq ft.size 1)<;>simp only[hb,zyy,zyx] at h
   .cases h
   cases h;simp only[ao] at hb;exact(ay hb.2).symm
  .cases h
def ahB (h:Inv C S O V own hv w0 σ0 A a w)(hC:CtxOK C σ0)(hg:holds gs O=true){ft:Ty}{x:Operand}{y:List AgC×PE}(hy:CR C S gs ft x=some y):
 (a.eval x).cells.size=ft.size/\(y.2.ev O).cells.length=ft.size/\∀(m:Nat) (c:AgC),y.1[m]?=some c->nM C S V hv c ((a.eval x).cells.getD m undef) ((y.2.ev O).cells.getD m .none):=by
 unfold CR at hy;split at hy
 .rename_i q hq;cases hs:(Ty.sub q.1 ft&&(q.1.rowT||q.1.one))<;>simp only[hs,zyy,zyx] at hy
  .cases hy
  cases hy;simp only[ao,kL] at hs;have hr:=cv h hC hg hq;obtain⟨f1,f2,f3⟩:=hr.flat hs.2;have e:=(Ty.sub_one _ _ hs.1).2;refine⟨by rw[hr.size,e],by rw[f2,e],λm c hm=>?_⟩;simp only[bX,aB] at hm;obtain⟨t,ht,rfl⟩:=hm;exact f3 m t ht
 .split at hy
  .rename_i j ver jV;cases hb:(Nat.beq ver (S.ver j)&&Tv (S.o j)&&Nat.beq ft.size 1)<;>simp only[hb,zyy,zyx] at hy
   .cases hy
   cases hy;simp only[ao] at hb;obtain⟨⟨gu,de⟩,RO⟩:=hb;have dF:=ay gu;have aI:=ay RO;have dV:aG C S O V hv (gL S gs x) (a.eval x) ((sB x).ev O):=by
        cases x with
        |tmp t=>exact(nD h hg t).1
        |_=>cases jV
   rw[jV] at dV;have aL:=dV.2 dF;have bj:=h.objs j;have hc:(a.eval x).cells=#[a.eval x]:=by
        rw[aL];cases ho:S.o j with
        |row T e=>
         rw[ho] at bj;obtain⟨cells,xs,_,h2,_⟩:=bj;rcases h2.2 with⟨e1,_⟩|⟨g,cap,cur,e1,_⟩<;>rw[e1]<;>rfl
        |_=>rw[ho] at de;cases de
   refine⟨by rw[hc,aI];rfl,by rw[aI];rfl,λm c hm=>?_⟩;cases m with
   |zero=>
    simp at hm;subst hm;rw[hc];exact dV
   |succ m=>simp at hm
  .cases hy
def alf {zs:List Value}{parts:List (Nat×Operand)}:∀(fs:List Field) (i off:Nat) (r:List AgC×List PE),nV C S gs zs parts fs i off=some r->Laid C.P fs off:=by
 intro fs
 induction fs with
 |nil=>intro i off r _;trivial
 |cons f fs ih=>
  intro i off r h;simp only[nV] at h;split at h
  case h_2=>cases h
  rename_i inf ft hi ht;cases hc:(Nat.beq f.offset off&&Nat.beq inf.size ft.size)<;>simp only[hc,zyy,zyx] at h
  .cases h
  simp only[ao] at hc;simp only[az] at h;obtain⟨q,hq,_⟩:=h;exact⟨ay hc.1,inf,hi,ih _ _ _ hq⟩
def abf {zs:List Value}{parts:List (Nat×Operand)}:∀(fs:List Field) (i off:Nat) (r:List AgC×List PE),nV C S gs zs parts fs i off=some r->off<=zs.length:=by
 intro fs
 induction fs with
 |nil=>intro i off r h;simp only[nV] at h;cases hb:Nat.beq off zs.length<;>simp[hb] at h;exact Nat.le_of_eq (ay hb)
 |cons f fs ih=>
  intro i off r h;simp only[nV] at h;split at h
  case h_2=>cases h
  rename_i inf ft hi ht;cases hc:(Nat.beq f.offset off&&Nat.beq inf.size ft.size)<;>simp only[hc,zyy,zyx] at h
  .cases h
  simp only[az] at h;obtain⟨q,hq,_⟩:=h;have:=ih _ _ _ hq;omega
def ale {zs:List Value}{parts:List (Nat×Operand)}:∀(fs:List Field) (i off:Nat) (r:List AgC×List PE),nV C S gs zs parts fs i off=some r->
 ∃ft:List AgC×List PE,r=ft/\(∀(m:Nat) (f:Field) (inf:TypeInfo),fs[m]?=some f->C.P.info? f.type=some inf->f.offset+inf.size<=zs.length)/\(∀(m:Nat) (x:Nat×Operand) (f:Field) (inf:TypeInfo),fs[m]?=some f->C.P.info? f.type=some inf->parts.find? (λp=>Nat.beq p.1 (i+m))=some x->∃y ft,CR C S gs ft x.2=some y/\ft.size=inf.size)/\off+r.1.length=zs.length:=by
 intro fs
 induction fs with
 |nil=>intro i off r h;simp only[nV] at h;cases hb:Nat.beq off zs.length<;>simp[hb] at h;subst h;exact⟨_,rfl,by simp,by simp,by simpa using ay hb⟩
 |cons f fs ih=>
  intro i off r h;simp only[nV] at h;split at h
  case h_2=>cases h
  rename_i inf ft hi ht;cases hc:(Nat.beq f.offset off&&Nat.beq inf.size ft.size)<;>simp only[hc,zyy,zyx] at h
  .cases h
  simp only[ao] at hc;have jc:=ay hc.1;have aI:=ay hc.2;simp only[az] at h;obtain⟨q,hq,h⟩:=h;have hle:=abf _ _ _ _ hq;obtain⟨_,rfl,k1,k2,k3⟩:=ih _ _ _ hq;have e1:∀(m:Nat) (g:Field) (ig:TypeInfo),(f::fs)[m]?=some g->C.P.info? g.type=some ig->g.offset+ig.size<=zs.length:=by
   intro m g ig hm gx;cases m with
   |zero=>simp at hm;subst hm;rw[hi] at gx;cases gx;omega
   |succ m=>exact k1 m g ig (by simpa using hm) gx
  have Rp:∀t:Ty,t.flat.length=t.size:=λt=>by cases t<;>simp[Ty.flat,Ty.size]
  split at h
  .rename_i x hx;simp only[aB] at h;obtain⟨y,hy,rfl⟩:=h;refine⟨_,rfl,e1,λm x' g ig hm gx hf=>?_,?_⟩
   .cases m with
    |zero=>
     simp at hm;subst hm;rw[hi] at gx;cases gx;simp only[iU] at hf;rw[hx] at hf;cases hf;exact⟨y,ft,hy,aI.symm⟩
    |succ m=>exact k2 m x' g ig (by simpa using hm) gx (by rwa [show i+(m+1)=i+1+m by omega] at hf)
   .have:=ahA hy;simp only[mM];omega
  .rename_i hx;cases nk:kf ft (rowOf ft.rowT ((zs.drop off).take inf.size))<;>simp only[nk,zyy,zyx] at h
   .cases h
   simp only[aB] at h;obtain⟨z,hz,rfl⟩:=h;have cE:=(Af (cap:=C.cap) (V:=⟨λ_ _=>none,λ_=>none⟩) hz nk).2.1;refine⟨_,rfl,e1,λm x' g ig hm gx hf=>?_,?_⟩
   .cases m with
    |zero=>simp only[iU] at hf;rw[hx] at hf;cases hf
    |succ m=>exact k2 m x' g ig (by simpa using hm) gx (by rwa [show i+(m+1)=i+1+m by omega] at hf)
   .have:=(Ty.sub_one _ _ cE).2;simp only[mM,ef,Rp];omega
def alg (h:Inv C S O V own hv w0 σ0 A a w)(hC:CtxOK C σ0)(hg:holds gs O=true){zs:List Value}{parts:List (Nat×Operand)}(cells:Array Value):
 ∀(fs:List Field) (i off:Nat) (r:List AgC×List PE),nV C S gs zs parts fs i off=some r->
  (∀(m:Nat) (f:Field) (inf:TypeInfo),fs[m]?=some f->C.P.info? f.type=some inf->
        (∀x,parts.find? (λp=>Nat.beq p.1 (i+m))=some x->∀q,q<inf.size->cells[f.offset+q]?=(a.eval x.2).cells[q]?)/\
        (parts.find? (λp=>Nat.beq p.1 (i+m))=none->∀q,q<inf.size->cells[f.offset+q]?=zs[f.offset+q]?))->
  (PE.evc O r.2).length=r.1.length/\∀(m:Nat) (c:AgC),r.1[m]?=some c->nM C S V hv c (cells.getD (off+m) undef) ((PE.evc O r.2).getD m .none):=by
 intro fs
 induction fs with
 |nil=>intro i off r hr _;simp only[nV] at hr;cases hb:Nat.beq off zs.length<;>simp[hb] at hr;subst hr;simp[PE.evc]
 |cons f fs ih=>
  intro i off r hr aK;simp only[nV] at hr;split at hr
  case h_2=>cases hr
  rename_i inf ft hi ht;cases hc:(Nat.beq f.offset off&&Nat.beq inf.size ft.size)<;>simp only[hc,zyy,zyx] at hr
  .cases hr
  simp only[ao] at hc;have jc:=ay hc.1;have aI:=ay hc.2;simp only[az] at hr;obtain⟨q,hq,hr⟩:=hr
  obtain⟨l1,tB⟩:=ih (i+1) (off+inf.size) q hq (λm g asq hm gx=>by
   have:=aK (m+1) g asq (by simpa using hm) gx
   rwa [show i+(m+1)=i+1+m by omega] at this)
  obtain⟨hp,hn⟩:=aK 0 f inf rfl hi;have join:∀(l:List AgC) (v:Value) (d:D) (pe:PE),pe.ev O=d->l.length=inf.size->d.cells.length=inf.size->(∀m c,l[m]?=some c->nM C S V hv c (v.cells.getD m undef) (d.cells.getD m .none))->(∀m,m<inf.size->cells[f.offset+m]?=v.cells[m]?)->
        (PE.evc O (pe::q.2)).length=(l++q.1).length/\∀(m:Nat) (c:AgC),(l++q.1)[m]?=some c->nM C S V hv c (cells.getD (off+m) undef) ((PE.evc O (pe::q.2)).getD m .none):=by
   intro l v d pe oM f1 f2 f3 aY;simp only[PE.evc,oM];refine⟨by simp[f1,f2,l1],λm t' hm=>?_⟩;rw[lZ] at hm;split at hm
   .rename_i af;have g2:=f3 m t' hm;have e1:cells.getD (off+m) undef=v.cells.getD m undef:=by
     rw[fe,fe,<-jc,aY m (by omega)]
    have e2:(d.cells++PE.evc O q.2).getD m .none=d.cells.getD m .none:=by
     rw[aE,aE,nP (by omega)]
    rw[e1,e2];exact g2
   .rename_i gV;have g2:=tB _ t' hm;have e1:off+inf.size+(m-l.length)=off+m:=by omega
    have e2:(d.cells++PE.evc O q.2).getD m .none=(PE.evc O q.2).getD (m-l.length) .none:=by
     rw[aE,aE,nQ (by omega)];rw[f1,<-f2]
    rw[e1] at g2;rw[e2];exact g2
  simp only[iU] at hp hn;split at hr
  .rename_i x hx;simp only[aB] at hr;obtain⟨y,hy,rfl⟩:=hr;obtain⟨g1,g2,g3⟩:=ahB h hC hg hy;exact join y.1 (a.eval x.2) (y.2.ev O) y.2 rfl (by rw[ahA hy,aI]) (by rw[g2,aI]) g3 (hp x hx)
  .rename_i hx;cases nk:kf ft (rowOf ft.rowT ((zs.drop off).take inf.size))<;>simp only[nk,zyy,zyx] at hr
   .cases hr
   simp only[aB] at hr;obtain⟨z,hz,rfl⟩:=hr;obtain⟨k1,k2,k3⟩:=Af (cap:=C.cap) (V:=V) hz nk;have v7:(rowOf ft.rowT ((zs.drop off).take inf.size)).cells.size=inf.size:=by rw[k1.size,(Ty.sub_one _ _ k2).2,aI]
   have fY:z.1.rowT=true\/z.1.one=true:=by
        cases ft<;>simp[qK,sH] at hz<;>first|(subst hz;simp[Ty.one])|(obtain⟨_,_,rfl⟩:=hz;simp[Ty.rowT])
   obtain⟨z1,z2,z3⟩:=k1.flat fY;have ez:z.1.size=inf.size:=by rw[(Ty.sub_one _ _ k2).2,aI]
   refine join (z.1.flat.map .dat) (rowOf ft.rowT ((zs.drop off).take inf.size)) z.2 (.con z.2) rfl (by rw[ef,z1,ez]) (by rw[z2,ez]) (λm c hm=>?_) (λm hm=>?_)
   .simp only[bX,aB] at hm;obtain⟨t,ht,rfl⟩:=hm;exact z3 m t ht
   .rw[hn hx m hm,jc];cases wh:ft.rowT with
    |true=>simp[rowOf,Value.cells,fQ,gl,hm]
    |false=>
     rw[wh] at v7 k1;have h1:(z.1).rowT=false:=by
       have:=(Ty.sub_one _ _ k2)
       cases ft<;>simp[Ty.rowT] at wh<;>simp[qK,sH] at hz<;>subst hz<;>rfl
     rw[k1.cells1 h1] at v7 ⊢;simp at v7;have hm0:m=0:=by omega
     subst hm0;have:∃u,zs[off]?=some u:=⟨_,aU (show off<zs.length by have:=abf _ _ _ _ hq;omega)⟩
     simp[rowOf,aE,fQ,gl,<-v7];obtain⟨u,hu⟩:=this;simp[hu]
def aeL {P:Program}:∀(fs:List Field) (off:Nat),Laid P fs off->
 ∃l:List (Nat×Nat),fs.mapM (λf=>(P.info? f.type).map λi=>(f.offset,i.size))=some l/\l.length=fs.length/\
  ∀(i:Nat) (f:Field) (inf:TypeInfo),fs[i]?=some f->P.info? f.type=some inf->l[i]?=some (f.offset,inf.size)
 |[],_,_=>⟨[],rfl,rfl,by simp⟩
 |f::fs,off,h=>by
  obtain⟨h1,inf,h2,h3⟩:=h;obtain⟨l,k1,k2,k3⟩:=aeL fs _ h3;refine⟨(f.offset,inf.size)::l,?_,by simp[k2],λi g ig hi gx=>?_⟩
  .simp[aaA,h2,k1]
  .cases i with
   |zero=>simp at hi;subst hi;rw[h2] at gx;cases gx;rfl
   |succ i=>simp at hi;simpa using k3 i g ig hi gx
def ach {parts:List (Nat×Operand)}(bo:(parts.map (·.1)).Nodup){i:Nat}{x:Operand}(h:(i,x)∈parts):parts.find? (λp=>Nat.beq p.1 i)=some (i,x):=by
 induction parts with
 |nil=>cases h
 |cons p ps ih=>
  simp only[iS,pB] at bo;rcases cB.1 h with e|hm
  .subst e;simp
  .have:¬p.1=i:=λe=>bo.1 (e▸As (f:=(·.1)) hm);rw[List.find?_cons_of_neg (by simpa using this)];exact ih bo.2 hm
def auL (h:Inv C S O V own hv w0 σ0 A a w)(hC:CtxOK C σ0)(hg:holds gs O=true){T:TypeId}{ps:Array (Nat×Operand)}{r:Sh×List PI}(hr:UO C S gs dst T ps.toList=some r){o:Oper}(ho:o.op=.build T ps):
 eL C S O V hv Z dst a w o r:=by
 unfold UO at hr;split at hr
 case h_3=>cases hr
 case h_2=>
  rename_i n e inf hT pZ;split at hr
  case h_2=>cases hr
  rename_i zs ie hz hie;split at hr
  case h_2=>cases hr
  rename_i x y tw;simp only[az] at hr;obtain⟨p,hp,q,hq,hr⟩:=hr;split at hr
  case h_2=>cases hr
  rename_i k k' hk bf;cases hc:(Nat.beq n 2&&Nat.beq zs.size 2&&Nat.beq ie.size 1)<;>simp only[hc,zyy,zyx] at hr
  .cases hr
  cases hr;simp only[ao] at hc;obtain⟨⟨c1,c2⟩,c3⟩:=hc;have c1:=ay c1;have c2:=ay c2;have c3:=ay c3;subst c1;have hx:=cv h hC hg hp;have hy:=cv h hC hg hq;rw[hk] at hx;rw[bf] at hy;obtain⟨a1,Q6,ea2,_⟩:=hx.int_inv;obtain⟨b1,Q7,eb2,_⟩:=hy.int_inv;have arq:ps=#[(0,x),(1,y)]:=by rw[<-vt];exact tw
  obtain⟨z0,z1,rfl⟩:∃z0 z1,zs=#[z0,z1]:=by
   match zs,c2 with
   |⟨[z0,z1]⟩,_=>exact⟨z0,z1,rfl⟩
  have RR:C.P.built T [(0,a.eval x),(1,a.eval y)]=some #[a.eval x,a.eval y]:=by
   rw[Q6,Q7];simp only[Program.built,pZ,hT,hz,hie,c3];simp[Instr.fill,Value.cells]
  have ak:(execOp a.eval o).run C.P w=.ok (.value (.agg #[a.eval x,a.eval y])) w:=by
   have:=run_build (P:=C.P) w T (ps.map λ(x:Nat×Operand)=>(x.1,a.eval x.2)) #[a.eval x,a.eval y] (by rw[arq];simpa using RR);simp[execOp,ho,this]
  refine .dat ak ?_;have e1:(PE.mk [p.2,q.2]).ev O=.agg [p.2.ev O,q.2.ev O]:=by simp[PE.ev,PE.evc,ea2,eb2,D.cells]
  rw[e1];refine .agg _ [a.eval x,a.eval y] _ rfl rfl (λi t hi=>?_) (λi t hi=>?_)
  .match i,hi with
   |0,hi=>simp at hi;subst hi;rw[hk];simpa using hx
   |1,hi=>simp at hi;subst hi;rw[bf];simpa using hy
   |i+2,hi=>simp at hi
  .match i,hi with
   |0,hi=>simp at hi;subst hi;rw[hk];rfl
   |1,hi=>simp at hi;subst hi;rw[bf];rfl
   |i+2,hi=>simp at hi
 rename_i fs inf hT pZ;split at hr
 case h_2=>cases hr
 rename_i zs hz;cases hc:(hZ (ps.toList.map (·.1))&&ps.toList.all (λp=>Nat.blt p.1 fs.size))<;>simp only[hc,zyy,zyx] at hr
 .cases hr
 simp only[ao] at hc;obtain⟨bo,af⟩:=hc;simp only[aB] at hr;obtain⟨q,hq,rfl⟩:=hr;have LS:=alf _ _ _ _ hq;have nf:=qn bo;obtain⟨_,rfl,bO,ar6,R0⟩:=ale _ _ _ _ hq;obtain⟨pl,fJ,aGb,F4⟩:=aeL _ _ LS
 have kD:∀p,p∈(ps.toList.map λ(x:Nat×Operand)=>(x.1,a.eval x.2))->∃o,pl.toArray[p.1]?=some (o,p.2.cells.size)/\o+p.2.cells.size<=zs.size:=by
  intro p hp;obtain⟨x,hx,rfl⟩:=cr.1 hp;have y9:x.1<fs.toList.length:=by
   have:=cN.1 af x hx;have h2:x.1<fs.size:=by simpa [pC] using this
   simpa using h2
  obtain⟨f,hf⟩:∃f,fs.toList[x.1]?=some f:=⟨_,aU y9⟩
  obtain⟨ig,gx,_,_⟩:=LS.get _ _ hf;have FD:=ach nf (i:=x.1) (x:=x.2) hx;obtain⟨y,ft,hy,aI⟩:=ar6 x.1 (x.1,x.2) f ig hf gx (by simpa using FD);have wj:=(ahB h hC hg hy).1;rw[aI] at wj;simp only;refine⟨f.offset,?_,?_⟩
  .rw[wj];simpa using F4 x.1 f ig hf gx
  .rw[wj];simpa using bO x.1 f ig hf gx
 have B5:∀(i j oi si oj sj:Nat),i≠j->pl.toArray[i]?=some (oi,si)->pl.toArray[j]?=some (oj,sj)->oi+si<=oj\/oj+sj<=oi:=by
  intro i j oi si oj sj au hi hj;simp only[xN] at hi hj;obtain⟨f,hf⟩:∃f,fs.toList[i]?=some f:=⟨_,aU (by have:=(eu.1 hi).1;omega)⟩
  obtain⟨g,yJ⟩:∃g,fs.toList[j]?=some g:=⟨_,aU (by have:=(eu.1 hj).1;omega)⟩
  obtain⟨ig,gx,_,aqU⟩:=LS.get _ _ hf;obtain⟨jg,hjg,_,aqV⟩:=LS.get _ _ yJ;rw[F4 i f ig hf gx] at hi;rw[F4 j g jg yJ hjg] at hj;cases hi;cases hj;rcases I8 i j with af|gV
  .exact .inl (aqU j g af yJ)
  .exact .inr (aqV i f (by omega) hf)
 obtain⟨dj,f1,f2,f3,f4⟩:=Rh (pl.toArray[·]?) (ps.toList.map λ(x:Nat×Operand)=>(x.1,a.eval x.2)) zs kD B5 (by simpa [IW] using nf)
 have RR:C.P.built T (ps.toList.map λ(x:Nat×Operand)=>(x.1,a.eval x.2))=some dj:=by
  simp only[Program.built,pZ,hT,hz,fJ];exact f1
 have ak:(execOp a.eval o).run C.P w=.ok (.value (.agg dj)) w:=by
  have:=run_build (P:=C.P) w T (ps.map λ(x:Nat×Operand)=>(x.1,a.eval x.2)) dj (by rw[vu];exact RR);simp[execOp,ho,this]
 have yE:∀(m:Nat) (f:Field) (ig:TypeInfo),fs.toList[m]?=some f->C.P.info? f.type=some ig->
  (∀x,ps.toList.find? (λp=>Nat.beq p.1 (0+m))=some x->∀q,q<ig.size->dj[f.offset+q]?=(a.eval x.2).cells[q]?)/\
  (ps.toList.find? (λp=>Nat.beq p.1 (0+m))=none->∀q,q<ig.size->dj[f.offset+q]?=zs.toList[f.offset+q]?):=by
  intro m f ig hm gx;refine⟨λx hx p hp=>?_,λhx p hp=>?_⟩
  .have kT:x.1=m:=by have:=Pn hx;simpa using this
   have Ct:(x.1,a.eval x.2)∈(ps.toList.map λ(x:Nat×Operand)=>(x.1,a.eval x.2)):=cr.2 ⟨x,DW hx,rfl⟩;obtain⟨o',jb,hle⟩:=kD _ Ct;simp only at jb hle;have adR:=F4 m f ig hm gx;simp only[xN,kT] at jb;rw[adR] at jb;simp only[aZ,nT] at jb;obtain⟨e1,e2⟩:=jb;exact f3 x.1 (a.eval x.2) f.offset Ct (by simp[kT,adR,<-e2]) p (by omega)
  .have p7:m∉(ps.toList.map λ(x:Nat×Operand)=>(x.1,a.eval x.2)).map (·.1):=by
        intro cV;simp only[nS,cr,IW] at cV;obtain⟨x,Ct,e⟩:=cV;have:=Ao.1 hx x Ct;simp[e] at this
   rw[f4 m f.offset ig.size p7 (by simpa using F4 m f ig hm gx) p hp];simp
 obtain⟨l1,aK⟩:=alg h hC hg dj _ _ _ _ hq yE;have B3:dj=dj.toList.toArray:=by simp
 have hlen:dj.toList.length=q.1.length:=by simp[f2] at R0 ⊢;omega
 have uN:∀(i:Nat) (c:AgC),q.1[i]?=some c->nM C S V hv c (dj.toList.getD i undef) ((PE.evc O q.2).getD i .none):=λi c hi=>by
  have:=aK i c hi;simpa [fe,aE] using this
 cases RW:q.1.all aer
 .simp only[zyx];exact λO' qd=>⟨_,_,vl qd,ak,⟨dj.toList,PE.evc O q.2,by rw[<-B3],by simp only[PE.ev],hlen,l1,uN⟩,λ_ _ e=>by cases e⟩
 .simp only[zyy];refine .dat ak ?_;simp only[PE.ev];rw[B3]
  have rI:∀(i:Nat) (t:Ty),(q.1.map AgC.ty)[i]?=some t->t.one=true/\Rep C.cap V t (dj.toList.getD i undef) ((PE.evc O q.2).getD i .none):=λi t hi=>by
   simp only[bX,aB] at hi;obtain⟨c,hc,rfl⟩:=hi;have h1:=uN i c hc;have h2:=cN.1 RW c (kh hc);cases c with
   |dat t=>exact h1
   |obj j ver=>cases h2
  exact .agg _ _ _ (by rw[ef];exact hlen) (by rw[ef];exact l1) (λi t hi=>(rI i t hi).2) (λi t hi=>(rI i t hi).1)
end
end Cx
