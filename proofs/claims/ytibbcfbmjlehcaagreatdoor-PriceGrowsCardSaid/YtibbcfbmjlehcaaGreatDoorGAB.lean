/-
  Shared texts of this claim.
-/
import Derived.Test.YtibbcfbmjlehcaaGreatDoorGAA
import Derived.ChangeKeysEq
import Derived.Laws.Tables
set_option linter.defProp false
set_option linter.unusedSimpArgs false
set_option linter.unusedVariables false
namespace Cx
open Go Go.RowKit
def Rep.int_inv {cap:Nat->Option CSig}{V:Im}{k:IntKind}{v:Value}{d:D}(h:Rep cap V (.int k) v d):∃n,v=.int k n/\d=.v (.int k n)/\k.min<=n/\n<=k.max:=by
 cases h with
 |int k n h1 h2=>exact⟨n,rfl,rfl,h1,h2⟩
def Rep.bool_inv {cap:Nat->Option CSig}{V:Im}{v:Value}{d:D}(h:Rep cap V .bool v d):∃b,v=.bool b/\d=.v (.bool b):=by
 cases h with
 |bool b=>exact⟨b,rfl,rfl⟩
def Rep.str_inv {cap:Nat->Option CSig}{V:Im}{v:Value}{d:D}(h:Rep cap V .str v d):∃s,v=.string s/\d=.v (.string s)/\s.size<=maxLen:=by
 cases h with
 |str s h=>exact⟨s,rfl,rfl,h⟩
def Rep.slice_inv {cap:Nat->Option CSig}{V:Im}{e:Ty}{v:Value}{d:D}(h:Rep cap V (.slice e) v d):∃xs,d=.list xs/\
 (((∃p,v=.slice p 0 0)/\xs=[])\/∃k o c,v=.slice (some ⟨k,o,none⟩) xs.length c/\xs.length<=c/\c<=maxLen/\
   ∃vs:Nat->Value,(∀(i:Nat) (x:D),xs[i]?=some x->Rep cap V e.unf (vs i) x)/\∀(i j:Nat) (u:Value),i<xs.length->(vs i).cells[j]?=some u->V.c k (o+i*e.size+j)=some u):=by
 cases h with
 |nil e=>exact⟨[],rfl,.inl ⟨⟨_,rfl⟩,rfl⟩⟩
 |emp e a=>exact⟨[],rfl,.inl ⟨⟨_,rfl⟩,rfl⟩⟩
 |slice e k o n c xs vs hn hc hm h hv hz=>subst hn;exact⟨xs,rfl,.inr ⟨k,o,c,rfl,hc,hm,vs,h,hv⟩⟩
def Rep.slice_inv' {cap:Nat->Option CSig}{V:Im}{e:Ty}{v:Value}{d:D}(h:Rep cap V (.slice e) v d):∃xs,d=.list xs/\
 (((∃p,v=.slice p 0 0)/\xs=[])\/∃k o c,v=.slice (some ⟨k,o,none⟩) xs.length c/\xs.length<=c/\c<=maxLen/\(e=.int .i64->V.m k=some mR)/\
   ∃vs:Nat->Value,(∀(i:Nat) (x:D),xs[i]?=some x->Rep cap V e.unf (vs i) x)/\∀(i j:Nat) (u:Value),i<xs.length->(vs i).cells[j]?=some u->V.c k (o+i*e.size+j)=some u):=by
 cases h with
 |nil e=>exact⟨[],rfl,.inl ⟨⟨_,rfl⟩,rfl⟩⟩
 |emp e a=>exact⟨[],rfl,.inl ⟨⟨_,rfl⟩,rfl⟩⟩
 |slice e k o n c xs vs hn hc hm h hv hz=>subst hn;exact⟨xs,rfl,.inr ⟨k,o,c,rfl,hc,hm,hz,vs,h,hv⟩⟩
def Rep.ref_inv {cap:Nat->Option CSig}{V:Im}{t:Ty}{v:Value}{d:D}(h:Rep cap V (.ref t) v d):∃k o x y,v=.pointer (some ⟨k,o,none⟩)/\d=.ref y/\Rep cap V t x y/\∀(j:Nat) (u:Value),x.cells[j]?=some u->V.c k (o+j)=some u:=by
 cases h with
 |ref t k o x y h hv=>exact⟨k,o,x,y,rfl,rfl,h,hv⟩
def Rep.agg_inv {cap:Nat->Option CSig}{V:Im}{ts:List Ty}{v:Value}{d:D}(h:Rep cap V (.agg ts) v d):∃(vs:List Value) (ds:List D),v=.agg vs.toArray/\d=.agg ds/\vs.length=ts.length/\ds.length=ts.length/\
 (∀(i:Nat) (t:Ty),ts[i]?=some t->Rep cap V t (vs.getD i undef) (ds.getD i .none))/\∀(i:Nat) (t:Ty),ts[i]?=some t->t.one=true:=by
 cases h with
 |agg ts vs ds h1 h2 h ho=>exact⟨vs,ds,rfl,rfl,h1,h2,h,ho⟩
def Rep.tup_inv {cap:Nat->Option CSig}{V:Im}{ts:List Ty}{v:Value}{d:D}(h:Rep cap V (.tup ts) v d):∃(vs:List Value) (ds:List D),v=.tuple vs.toArray/\d=.tup ds/\vs.length=ts.length/\ds.length=ts.length/\
 (∀(i:Nat) (t:Ty),ts[i]?=some t->Rep cap V t (vs.getD i undef) (ds.getD i .none)):=by
 cases h with
 |tup ts vs ds h1 h2 h=>exact⟨vs,ds,rfl,rfl,h1,h2,h⟩
def uA (k:IntKind)(n:Int):k.min<=k.wrap n/\k.wrap n<=k.max:=by
 cases k<;>simp only[IntKind.min,IntKind.max,IntKind.wrap,IntKind.signed,IntKind.bits]<;>simp<;>(try split)<;>omega
def aj8 (k:IntKind){a b:Int}(ha:k.min<=a/\a<=k.max):k.min<=a.tmod b/\a.tmod b<=k.max:=by
 have h1:k.min<=0:=by cases k<;>decide
 have h2:0<=k.max:=by cases k<;>decide
 have hn:(a.tmod b).natAbs<=a.natAbs:=by rw[Int.natAbs_tmod];exact Nat.mod_le _ _
 rcases Int.le_total 0 a with h|h
 .have:=Int.tmod_nonneg b h;omega
 .have:a.tmod b<=0:=by
   have:=Int.tmod_nonneg b (a:=-a) (by omega);rw[Int.neg_tmod] at this;omega
  omega
def acH (k:IntKind){a:Int}(n:Nat)(ha:k.min<=a/\a<=k.max):k.min<=a.fdiv (2^n)/\a.fdiv (2^n)<=k.max:=by
 have h1:k.min<=0:=by cases k<;>decide
 have h2:0<=k.max:=by cases k<;>decide
 have hp:(0:Int)<2^n:=Int.pow_pos (by decide);rw[akU _ (by omega)];rcases Int.le_total 0 a with h|h
 .have h3:=aaJ h (by omega:(0:Int)<=2^n);have h4:=Int.ediv_le_self (b:=2^n) h;omega
 .have h3:a/2^n<=0:=by
   have:=aaI hp h;simpa using this
  have h4:a<=a/2^n:=by
   rw[Int.le_ediv_iff_mul_le hp];have:a*2^n<=a*1:=Int.mul_le_mul_of_nonpos_left h (by omega);omega
  omega
section
variable {C:Ctx} {S:St} {O:Env} {V:Im} {own:Nat->Option Nat} {hv:Nat->Value} {w0:World} {σ0:Base} {A:Nat->Prop} {a:Act} {w:World} {gs:List (Nat×Bool)} {Z:aT} {dst:Nat}
def vE {e:PE}{O':Env}(h:PI.runs Z [.setR dst e] O=some O'):O'=O.setR dst (e.ev O):=by
 simp[PI.runs,PI.run] at h;exact h.symm
def Xb (hg:holds gs O=true){c e:PE}{O':Env}(h:PI.runs Z [tp gs c,.setR dst e] O=some O'):(c.ev O).b=true/\O'=O.setR dst (e.ev O):=by
 simp only[PI.runs,PI.run,tp] at h;cases eD:gs with
 |nil=>
  subst eD;simp only at h;cases hb:(c.ev O).b<;>simp[hb] at h;exact⟨rfl,h.symm⟩
 |cons g r=>
  rw[eD] at h;simp only at h;rw[eD] at hg;cases hb:(c.ev O).b
  .simp[PE.ev,hg,hb,D.b_bool] at h
  .simp[PE.ev,hg,hb,D.b_bool] at h;exact⟨rfl,h.symm⟩
def eM (C:Ctx)(S:St)(O:Env)(V:Im)(hv:Nat->Value)(Z:aT)(dst:Nat)(a:Act)(w:World)(o:Oper)(r:Sh×List PI):Prop:=
 ∀O',PI.runs Z r.2 O=some O'->∃v d,O'=O.setR dst d/\(execOp a.eval o).run C.P w=.ok (.value v) w/\aG C S O V hv r.1 v d/\∀gs s,r.1≠.opt gs s
def eM.dat {o:Oper}{t:Ty}{e:PE}{v:Value}(hx:(execOp a.eval o).run C.P w=.ok (.value v) w)(hr:Rep C.cap V t v (e.ev O)):
 eM C S O V hv Z dst a w o (.dat t,[.setR dst e]):=by
 intro O' h;exact⟨v,e.ev O,vE h,hx,hr,λ_ _ e=>by cases e⟩
def eM.datc (hg:holds gs O=true){o:Oper}{t:Ty}{c e:PE}(hx:(c.ev O).b=true->∃v,(execOp a.eval o).run C.P w=.ok (.value v) w/\Rep C.cap V t v (e.ev O)):
 eM C S O V hv Z dst a w o (.dat t,[tp gs c,.setR dst e]):=by
 intro O' h;obtain⟨hb,he⟩:=Xb hg h;obtain⟨v,h1,h2⟩:=hx hb;exact⟨v,e.ev O,he,h1,h2,λ_ _ e=>by cases e⟩
def ahV (h:Inv C S O V own hv w0 σ0 A a w)(hC:CtxOK C σ0)(hg:holds gs O=true){x:Operand}{r:Sh×List PI}(hr:zI C S gs dst x=some r){o:Oper}(ho:o.op=.move x\/o.op=.assign x):
 eM C S O V hv Z dst a w o r:=by
 have hx:(execOp a.eval o).run C.P w=.ok (.value (a.eval x)) w:=by rcases ho with ho|ho<;>simp[execOp,ho,Sem.run,pure]
 unfold zI at hr;split at hr
 .rename_i y hy;cases hr;exact .dat hx (cB h hC hg hy)
 .split at hr
  .rename_i t _;obtain⟨hs,hn⟩:=nR h hg t;split at hr
   .cases hr
   .cases hr
   .cases hr;intro O' h';exact⟨_,_,vE h',hx,hs,hn⟩
  .cases hr
def avK (h:Inv C S O V own hv w0 σ0 A a w)(hC:CtxOK C σ0)(hg:holds gs O=true){c x y:Operand}{r:Sh×List PI}(hr:Vg C S gs dst c x y=some r){o:Oper}(ho:o.op=.pick c x y):
 eM C S O V hv Z dst a w o r:=by
 unfold Vg at hr;split at hr
 .rename_i t;split at hr
  .rename_i es;obtain⟨hs,_⟩:=nR h hg t;rw[es] at hs;obtain⟨b,aO,bu⟩:=Rep.bool_inv hs;simp only[az] at hr;obtain⟨q1,h1,q2,h2,hr⟩:=hr;cases hb:Ty.beq q1.1 q2.1<;>simp only[hb,zyy,zyx] at hr
   .cases hr
   .cases hr;have e2:=Ty.beq_eq _ _ hb;have ak:(execOp a.eval o).run C.P w=.ok (.value (if b then a.eval x else a.eval y)) w:=by
     have:a.eval (.tmp t)=.bool b:=aO;simp[execOp,ho,this,asBool,Sem.run,pure,bind,Sem.bind]
    refine .dat ak ?_;show Rep C.cap V q1.1 _ (bif (O.r t).b then q1.2.ev O else q2.2.ev O);have fF:(O.r t).b=b:=by rw[bu];rfl
    cases b with
    |true=>
     simp only[fF,zyy,if_true];exact cB h hC (by simp only[holds,sZ,fF];exact hg) h1
    |false=>
     simp only[fF,zyx];rw[e2];exact cB h hC (by simp only[holds,sZ,fF];exact hg) h2
  .cases hr
 .cases hr
def OL {op:BinOp}{T T':TypeId}{x y:Operand}{v v':Value}{o:Oper}(ho:o.op=.binOp op T x y T')(hv:a.eval x=v)(hv':a.eval y=v')(h1:∀u,v≠.agg u)(h2:v≠.nilIface):
 (execOp a.eval o).run C.P w=((binOp op T v v').bind λr=>.pure (.value r)).run C.P w:=by
 have he:eqGuard op T x y v v'=.pure ():=by
  cases v<;>first|(exact absurd rfl h2)|(exact absurd rfl (h1 _))|(cases op<;>simp[eqGuard]<;>rfl)
 simp only[execOp,ho,hv,hv',he];rfl
def acA {P:Program}{cap:Nat->Option CSig}{V:Im}{O:Env}{x y:PE}(w:World)(d:Nat){t:Ty}{T:TypeId}{v u:Value}{e:PE}(hk:nE P T t=true)(he:yG t x y=some e)(g1:Rep cap V t v (x.ev O))(g2:Rep cap V t u (y.ev O)):
 ∃b,e.ev O=.v (.bool b)/\(Op.equalIn (d+1) T v u).run P w=.ok b w:=by
 cases t with
 |int k=>
  obtain⟨n,v1,d1,_⟩:=g1.int_inv;obtain⟨m,v2,d2,_⟩:=g2.int_inv;simp only[yG,ba] at he;subst he;have hu:∃k',P.underlying T=some (.int k'):=by
   simp only[nE] at hk;split at hk
   .exact⟨_,by assumption⟩
   .cases hk
  obtain⟨k',hu⟩:=hu;exact⟨n==m,by simp only[PE.ev,d1,d2];rfl,by rw[v1,v2];exact run_equalIn_int w d T k k' n m hu⟩
 |bool=>
  obtain⟨n,v1,d1⟩:=g1.bool_inv;obtain⟨m,v2,d2⟩:=g2.bool_inv;simp only[yG,ba] at he;subst he;have hu:P.underlying T=some .bool:=by
   simp only[nE] at hk;split at hk
   .assumption
   .cases hk
  exact⟨n==m,by simp only[PE.ev,d1,d2];rfl,by rw[v1,v2];exact run_equalIn_bool' w d T n m hu⟩
 |str=>
  obtain⟨n,v1,d1,_⟩:=g1.str_inv;obtain⟨m,v2,d2,_⟩:=g2.str_inv;simp only[yG,ba] at he;subst he;have hu:P.underlying T=some .string:=by
   simp only[nE] at hk;split at hk
   .assumption
   .cases hk
  exact⟨n.toList==m.toList,by simp only[PE.ev,d1,d2];rfl,by rw[v1,v2];exact run_equalIn_string w d T n m hu⟩
 |_=>simp[yG] at he
def aoi {P:Program}{cap:Nat->Option CSig}{V:Im}{O:Env}{x y:PE}{X Y:List D}(w:World)(hx:x.ev O=.agg X)(hy:y.ev O=.agg Y){vs us:List Value}(b d:Nat):
 ∀(fs:List Field) (i:Nat) (ts:List Ty) (e:PE),yE P x y b fs i ts=some e->(∀j t,ts[j]?=some t->Rep cap V t (vs.getD (i+j) undef) (X.getD (b+i+j) .none)/\Rep cap V t (us.getD (i+j) undef) (Y.getD (b+i+j) .none))->
  i+ts.length<=vs.length->i+ts.length<=us.length->
  ∃b,e.ev O=.v (.bool b)/\(Op.eqFields (d+1) vs.toArray us.toArray fs).run P w=.ok b w:=by
 intro fs
 induction fs with
 |nil=>
  intro i ts e h _ _ _;cases ts with
  |nil=>simp only[yE,ba] at h;subst h;exact⟨true,rfl,rfl⟩
  |cons t ts=>simp[yE] at h
 |cons f fs ih=>
  intro i ts e h hr l1 l2;cases ts with
  |nil=>simp[yE] at h
  |cons t ts=>
   simp only[yE] at h;cases hc:((f.name != "_")&&Nat.beq f.offset i&&nE P f.type t&&P.plainKey f.type)<;>simp only[hc,zyy,zyx] at h
   .cases h
   simp only[ao,bne_iff_ne,ne_eq] at hc;obtain⟨⟨⟨hn,ho⟩,hk⟩,hp⟩:=hc;have ho:=ay ho;simp only[az,aB] at h;obtain⟨e1,rT,r,ny,rfl⟩:=h
   obtain⟨b2,df,Gy⟩:=ih (i+1) ts r ny (λj t hj=>by
        have:=hr (j+1) t (by simpa using hj)
        rwa [show i+(j+1)=i+1+j by omega,show b+i+(j+1)=b+(i+1)+j by omega] at this) (by simp at l1;omega) (by simp at l2;omega)
   obtain⟨g1,g2⟩:=hr 0 t rfl;rw[iY,iY] at g1 g2;simp only[pQ] at l1 l2;have wM:vs.toArray[f.offset]?=some (vs.getD i undef):=by rw[ho];simp[aF,show i<vs.length by omega]
   have To:us.toArray[f.offset]?=some (us.getD i undef):=by rw[ho];simp[aF,show i<us.length by omega]
   have p1:=run_part_plain (P:=P) (w:=w) hp wM;have p2:=run_part_plain (P:=P) (w:=w) hp To;have ex:(PE.cell x (b+i)).ev O=X.getD (b+i) .none:=by simp only[PE.ev,hx];rfl
   have ey:(PE.cell y (b+i)).ev O=Y.getD (b+i) .none:=by simp only[PE.ev,hy];rfl
   obtain⟨b1,gz,qu⟩:=acA (P:=P) w d (O:=O) hk rT (by rw[ex];exact g1) (by rw[ey];exact g2);refine⟨b1&&b2,by simp only[PE.ev,gz,df];rfl,?_⟩;simp only[Op.eqFields,if_pos hn,Sem.run_bind,p1,p2,qu,Result.andThen_ok];cases b1
   .rfl
   .simpa using Gy
def aoh {P:Program}{cap:Nat->Option CSig}{V:Im}{O:Env}{x y:PE}{X Y:List D}(w:World)(hx:x.ev O=.agg X)(hy:y.ev O=.agg Y){vs us:List Value}(d:Nat):
 ∀(fs:List Field) (i:Nat) (ts:List Ty) (e:PE),yF P x y fs i ts=some e->(∀j t,ts[j]?=some t->Rep cap V t (vs.getD (i+j) undef) (X.getD (i+j) .none)/\Rep cap V t (us.getD (i+j) undef) (Y.getD (i+j) .none))->
  i+ts.length<=vs.length->i+ts.length<=us.length->
  ∃b,e.ev O=.v (.bool b)/\(Op.eqFields (d+2) vs.toArray us.toArray fs).run P w=.ok b w:=by
 intro fs
 induction fs with
 |nil=>
  intro i ts e h _ _ _;cases ts with
  |nil=>simp only[yF,ba] at h;subst h;exact⟨true,rfl,rfl⟩
  |cons t ts=>simp[yF] at h
 |cons f fs ih=>
  intro i ts e h hr l1 l2;unfold yF at h;split at h
  .rename_i n bO;cases hb:Nat.ble n ts.length<;>simp only[hb,zyy,zyx] at h
   .cases h
   have hn:=jP hb;simp only[az,aB] at h;obtain⟨e1,rT,r,ny,rfl⟩:=h
   obtain⟨b2,df,Gy⟩:=ih (i+n) (ts.drop n) r ny (λj t hj=>by
        have:=hr (n+j) t (by rw[gq] at hj;exact hj)
        rwa [show i+(n+j)=i+n+j by omega] at this) (by rw[PB];omega) (by rw[PB];omega)
   unfold aeW at bO;split at bO
   case h_2=>cases bO
   rename_i fs' hu;cases hc:((f.name != "_")&&Nat.beq f.offset i&& !P.stoodInHeld f.type)<;>simp only[hc,zyy,zyx] at bO
   .cases bO
   cases bO;simp only[ao,bne_iff_ne,ne_eq,kT] at hc;obtain⟨⟨au,ho⟩,cJ⟩:=hc;have ho:=ay ho;have va:P.underlying f.type=some (.struct (P.fieldsOf f.type)):=by unfold Program.fieldsOf;rw[hu]
   obtain⟨inf,hi⟩:=info_of_underlying hu
   have qs:∀zs:List Value,(part f.type zs.toArray f.offset).run P w=.ok (.agg ((zs.drop i).take (P.cellsOf f.type)).toArray) w:=λzs=>by
        have:(zs.toArray.extract f.offset (f.offset+P.cellsOf f.type))=((zs.drop i).take (P.cellsOf f.type)).toArray:=by
         rw[ho];apply uC;rw[Array.toList_extract];simp[List.extract]
        rw[<-this];simp[part,isAgg,run_underlying hu,run_sizeOf w hi]
   obtain⟨b1,gz,qu⟩:=aoi (P:=P) (cap:=cap) (V:=V) (O:=O) w hx hy (vs:=(vs.drop i).take (P.cellsOf f.type)) (us:=(us.drop i).take (P.cellsOf f.type)) i d _ 0 (ts.take (P.cellsOf f.type)) e1 rT (λj t hj=>by
        rw[fR] at hj;split at hj
        .rename_i yZ;have:=hr j t hj;simpa [aF,fR,yZ,gq] using this
        .cases hj) (by simp only[dG,PB];omega) (by simp only[dG,PB];omega)
   have ash:(Op.equalIn (d+2) f.type (.agg ((vs.drop i).take (P.cellsOf f.type)).toArray) (.agg ((us.drop i).take (P.cellsOf f.type)).toArray)).run P w=.ok b1 w:=by
        rw[run_equalIn_struct w (d+1) f.type _ _ va cJ];exact qu
   refine⟨b1&&b2,by simp only[PE.ev,gz,df];rfl,?_⟩;simp only[Op.eqFields,if_pos au,Sem.run_bind,qs,ash,Result.andThen_ok];cases b1
   .rfl
   .simpa using Gy
  .split at h
   .rename_i t ts;cases hc:((f.name != "_")&&Nat.beq f.offset i&&nE P f.type t&&P.plainKey f.type)<;>simp only[hc,zyy,zyx] at h
    .cases h
    simp only[ao,bne_iff_ne,ne_eq] at hc;obtain⟨⟨⟨hn,ho⟩,hk⟩,hp⟩:=hc;have ho:=ay ho;simp only[az,aB] at h;obtain⟨e1,rT,r,ny,rfl⟩:=h
    obtain⟨b2,df,Gy⟩:=ih (i+1) ts r ny (λj t hj=>by
     have:=hr (j+1) t (by simpa using hj)
     rwa [show i+(j+1)=i+1+j by omega] at this) (by simp at l1;omega) (by simp at l2;omega)
    obtain⟨g1,g2⟩:=hr 0 t rfl;rw[iY] at g1 g2;simp only[pQ] at l1 l2;have wM:vs.toArray[f.offset]?=some (vs.getD i undef):=by rw[ho];simp[aF,show i<vs.length by omega]
    have To:us.toArray[f.offset]?=some (us.getD i undef):=by rw[ho];simp[aF,show i<us.length by omega]
    have p1:=run_part_plain (P:=P) (w:=w) hp wM;have p2:=run_part_plain (P:=P) (w:=w) hp To;have ex:(PE.cell x i).ev O=X.getD i .none:=by simp only[PE.ev,hx];rfl
    have ey:(PE.cell y i).ev O=Y.getD i .none:=by simp only[PE.ev,hy];rfl
    obtain⟨b1,gz,qu⟩:=acA (P:=P) w (d+1) (O:=O) hk rT (by rw[ex];exact g1) (by rw[ey];exact g2);refine⟨b1&&b2,by simp only[PE.ev,gz,df];rfl,?_⟩;simp only[Op.eqFields,if_pos hn,Sem.run_bind,p1,p2,qu,Result.andThen_ok];cases b1
    .rfl
    .simpa using Gy
   .cases h
def avx (h:Inv C S O V own hv w0 σ0 A a w)(hC:CtxOK C σ0)(hg:holds gs O=true){op:BinOp}{T T':TypeId}{x y:Operand}{r:Sh×List PI}(hr:U4 C S gs dst op T x y=some r){o:Oper}(ho:o.op=.binOp op T x y T'):
 eM C S O V hv Z dst a w o r:=by
 simp only[U4,az] at hr;obtain⟨p,hp,q,hq,hr⟩:=hr;have aV:=cB h hC hg hp;have dL:=cB h hC hg hq;split at hr
 .rename_i k k' e1 e2;rw[e1] at aV;rw[e2] at dL;obtain⟨n,aO,bu,b1,b2⟩:=aV.int_inv;obtain⟨m,iO,dA,b3,b4⟩:=dL.int_inv;have ak:=OL (C:=C) (w:=w) ho aO iO (by intro u e;cases e) (by intro e;cases e);cases jZ:(op==.shl||op==.shr)<;>simp only[jZ,zyy,zyx] at hr
  .cases wA:(k==k')<;>simp only[wA,zyy,zyx] at hr
   .cases hr
   .have Sv:k=k':=by simpa using wA
    subst Sv;cases y9:(op==.quo||op==.rem)<;>simp only[y9,zyy,zyx] at hr
    .cases har:JC op<;>simp only[har,zyy,zyx] at hr
     .cases oR:BU op<;>simp only[oR,zyy,zyx] at hr
      .cases hr
      .cases hr;refine .dat (v:=.bool (jS op n m)) ?_ ?_
       .rw[ak];cases op<;>simp_all [BU]<;>simp[binOp,Op.intCmp,jS,Sem.run,pure,Sem.bind]
       .simp only[PE.ev,bu,dA,D.i_int];exact .bool _
     .cases hr;refine .dat (v:=.int k (bV op k n m)) ?_ ?_
      .rw[ak];cases op<;>simp_all [JC]<;>simp[binOp,Op.intArith,Op.intBits,bV,Sem.run,pure,Sem.bind]
      .simp only[PE.ev,bu,dA,D.i_int];refine .int _ _ ?_ ?_<;>(cases op<;>simp_all [JC]<;>first|exact(uA _ _).1|exact(uA _ _).2)
    .cases hr;refine .datc hg λhc=>⟨.int k (bV op k n m),?_,?_⟩
     .have au:m≠0:=by simpa [PE.ev,dA,D.i_int,D.b_bool,jS,D.int] using hc
      rw[ak];rcases(by simpa using y9:op=.quo\/op=.rem) with rfl|rfl<;>simp[binOp,Op.intDiv,bV,Sem.run,pure,Sem.bind,au]
     .simp only[PE.ev,bu,dA,D.i_int];cases op<;>simp_all
      .exact .int _ _ (uA _ _).1 (uA _ _).2
      .exact .int _ _ (aj8 k ⟨b1,b2⟩).1 (aj8 k ⟨b1,b2⟩).2
  .cases hr;refine .datc hg λhc=>⟨.int k (bV op k n m),?_,?_⟩
   .have au:¬m<0:=by
     have:0<=m:=by simpa [PE.ev,dA,D.i_int,D.b_bool,jS,D.int] using hc
     omega
    rw[ak];rcases(by simpa using jZ:op=.shl\/op=.shr) with rfl|rfl<;>simp[binOp,Op.shift,bV,Sem.run,pure,Sem.bind,au]
   .simp only[PE.ev,bu,dA,D.i_int];cases op<;>simp_all
    .exact .int _ _ (uA _ _).1 (uA _ _).2
    .exact .int _ _ (acH k _ ⟨b1,b2⟩).1 (acH k _ ⟨b1,b2⟩).2
 .rename_i e1 e2;rw[e1] at aV;rw[e2] at dL;obtain⟨n,aO,bu⟩:=aV.bool_inv;obtain⟨m,iO,dA⟩:=dL.bool_inv;have ak:=OL (C:=C) (w:=w) ho aO iO (by intro u e;cases e) (by intro e;cases e);cases eE:((op==.eql||op==.neq)&&TH C.P T)<;>simp only[eE,zyy,zyx] at hr
  .cases hr
  .cases hr;simp only[ao] at eE;obtain⟨eE,hT⟩:=eE;have Cf:C.P.underlying T=some .bool:=by
        unfold TH at hT;split at hT
        .assumption
        .cases hT
   have heq:(Op.equal T (.bool n) (.bool m)).run C.P w=.ok (n==m) w:=by
        have:∀d,(Op.equalIn (d+1) T (.bool n) (.bool m)).run C.P w=.ok (n==m) w:=λd=>by simp[Op.equalIn,run_underlying Cf]
        exact this 9999
   refine .dat (v:=.bool (BT op n m)) ?_ ?_
   .rw[ak];rcases(by simpa using eE:op=.eql\/op=.neq) with rfl|rfl<;>simp[binOp,BT,heq,Sem.run_bind']
   .simp only[PE.ev,bu,dA,D.b_bool];exact .bool _
 .rename_i e1 e2;rw[e1] at aV;rw[e2] at dL;obtain⟨n,aO,bu,_⟩:=aV.str_inv;obtain⟨m,iO,dA,_⟩:=dL.str_inv;have ak:=OL (C:=C) (w:=w) ho aO iO (by intro u e;cases e) (by intro e;cases e);cases eE:BU op<;>simp only[eE,zyy,zyx] at hr
  .cases hr
  .cases hr;refine .dat (v:=.bool (BV op n m)) ?_ ?_
   .rw[ak];cases op<;>simp_all [BU]<;>simp[binOp,Op.stringOp,BV,Sem.run,pure,Sem.bind]
   .simp only[PE.ev,bu,dA,D.s_str];exact .bool _
 .rename_i e e' e1 e2;rw[e1] at aV;rw[e2] at dL;split at hr
  case h_2=>cases hr
  rename_i E hT;cases eE:(op==.eql||op==.neq)<;>simp only[eE,zyy,zyx] at hr
  .cases hr
  cases hr;obtain⟨n,xs,aO,bu,arQ⟩:∃(n:Bool) (xs:List D),(n=true/\a.eval x=.slice none 0 0\/n=false/\∃k o m c,a.eval x=.slice (some ⟨k,o,none⟩) m c)/\p.2.ev O=.list xs/\n=decide (xs=[]):=by
   generalize a.eval x=vv at aV;generalize p.2.ev O=dd at aV;cases aV with
   |nsl0=>exact⟨true,[],.inl ⟨rfl,rfl⟩,rfl,rfl⟩
   |nsl _ k o m c xs h hx=>exact⟨false,xs,.inr ⟨rfl,k,o,m,c,rfl⟩,rfl,by simp[hx]⟩
  have iO:a.eval y=.slice none 0 0:=by
   generalize a.eval y=vv at dL;generalize q.2.ev O=dd at dL;cases dL;rfl
  have heq:(Op.equal T (a.eval x) (a.eval y)).run C.P w=.ok n w:=by
   have:∀d,(Op.equalIn (d+1) T (a.eval x) (a.eval y)).run C.P w=.ok n w:=λd=>by
        rw[iO];rcases aO with⟨rfl,h1⟩|⟨rfl,k,o,m,c,h1⟩<;>rw[h1]<;>simp[Op.equalIn,run_underlying hT]
   exact this 9999
  have ak:=OL (C:=C) (w:=w) ho rfl rfl (by
   intro u e;rcases aO with⟨_,h1⟩|⟨_,k,o,m,c,h1⟩<;>rw[h1] at e<;>cases e) (by
   intro e;rcases aO with⟨_,h1⟩|⟨_,k,o,m,c,h1⟩<;>rw[h1] at e<;>cases e)
  refine .dat (v:=.bool (jS op xs.length 0)) ?_ ?_
  .have au:∀(y:D) (ys:List D),¬((ys.length:Int)+1=0):=λy ys=>by omega
   rw[ak,iO];rw[iO] at heq;rcases aO with⟨_,h1⟩|⟨_,k,o,m,c,h1⟩<;>rw[h1] at heq ⊢<;>rcases(by simpa using eE:op=.eql\/op=.neq) with rfl|rfl<;>cases xs<;>simp[binOp,heq,Sem.run_bind',jS,arQ]<;>(try omega)
  .simp only[PE.ev,bu,D.l_list,D.int,D.i_int];exact .bool _
 .rename_i ts us e1 e2;rw[e1] at aV;rw[e2] at dL;cases eE:((op==.eql||op==.neq)&&Ty.beqs ts us&&Rv C.P T)<;>simp only[eE,zyy,zyx] at hr
  .cases hr
  simp only[ao] at eE;obtain⟨⟨eE,CH⟩,cJ⟩:=eE;have:=Ty.beqs_eq _ _ CH;subst this;simp only[Rv,ao,kT] at cJ;obtain⟨⟨aeA,asy⟩,asz⟩:=cJ;have va:C.P.underlying T=some (.struct (C.P.fieldsOf T)):=by
   unfold Program.fieldsOf;split at aeA
   .rename_i fs hu;rw[hu]
   .cases aeA
  simp only[aB] at hr;obtain⟨e,he,rfl⟩:=hr;obtain⟨vs,ds,aO,bu,l1,l2,aK,_⟩:=aV.agg_inv;obtain⟨Ar,ds',iO,dA,l3,l4,uZ,_⟩:=dL.agg_inv
  obtain⟨b,hb,ak⟩:=aoh (P:=C.P) (cap:=C.cap) (V:=V) (O:=O) w bu dA (vs:=vs) (us:=Ar) 9997 _ 0 ts e he (λj t hj=>by
   rw[gu];exact⟨aK j t hj,uZ j t hj⟩) (by omega) (by omega)
  have heq:(Op.equalIn 10000 T (.agg vs.toArray) (.agg Ar.toArray)).run C.P w=.ok b w:=by
   rw[run_equalIn_struct w 9999 T _ _ va asy];exact ak
  have oT:=run_eqGuard_agg (P:=C.P) (w:=w) op T x y vs.toArray Ar.toArray asz
  have adI:(execOp a.eval o).run C.P w=((binOp op T (.agg vs.toArray) (.agg Ar.toArray)).run C.P w).andThen λr w'=>.ok (.value r) w':=by
   simp only[execOp,ho,aO,iO,Sem.run_bind,oT,Result.andThen_ok];rfl
  rcases(by simpa using eE:op=.eql\/op=.neq) with rfl|rfl
  .refine .dat (v:=.bool b) ?_ ?_
   .rw[adI,run_eql_struct,heq];rfl
   .show Rep _ _ .bool _ (PE.ev O e);rw[hb];exact .bool _
  .refine .dat (v:=.bool (!b)) ?_ ?_
   .rw[adI,run_neq_struct,heq];rfl
   .show Rep _ _ .bool _ (PE.ev O (.nt e));simp only[PE.ev,hb];exact .bool _
 .cases hr
def avN (h:Inv C S O V own hv w0 σ0 A a w)(hC:CtxOK C σ0)(hg:holds gs O=true){op:UnOp}{T:TypeId}{x:Operand}{r:Sh×List PI}(hr:Vi C S gs dst op x=some r){o:Oper}(ho:o.op=.unOp op T x):
 eM C S O V hv Z dst a w o r:=by
 simp only[Vi,az] at hr;obtain⟨p,hp,hr⟩:=hr;have aV:=cB h hC hg hp;split at hr
 .rename_i k e1;rw[e1] at aV;obtain⟨n,aO,bu,b1,b2⟩:=aV.int_inv;cases hr;refine .dat (v:=.int k (bV .sub k 0 n)) ?_ ?_
  .simp[execOp,ho,aO,Op.unary,Op.intArith,bV,Sem.run,pure,bind,Sem.bind]
  .simp only[PE.ev,bu,D.i_int];exact .int _ _ (uA _ _).1 (uA _ _).2
 .rename_i e1;rw[e1] at aV;obtain⟨n,aO,bu⟩:=aV.bool_inv;cases hr;refine .dat (v:=.bool (!n)) ?_ ?_
  .simp[execOp,ho,aO,Op.unary,Sem.run,pure,bind,Sem.bind]
  .simp only[PE.ev,bu,D.b_bool];exact .bool _
 .cases hr
def avz (h:Inv C S O V own hv w0 σ0 A a w)(hC:CtxOK C σ0)(hg:holds gs O=true){s d:TypeId}{x:Operand}{r:Sh×List PI}(hr:U6 C S gs dst s d x=some r){o:Oper}(ho:o.op=.convert s d x):
 eM C S O V hv Z dst a w o r:=by
 simp only[U6,az] at hr;obtain⟨p,hp,hr⟩:=hr;have aV:=cB h hC hg hp;split at hr
 .rename_i k0 k k1 u1 u2 e1;rw[e1] at aV;obtain⟨n,aO,bu,b1,b2⟩:=aV.int_inv;cases hr;refine .dat (v:=.int k (k.wrap n)) ?_ ?_
  .simp[execOp,ho,aO,convert,run_underlying u1,run_underlying u2,Conv.intToInt]
  .simp only[PE.ev,bu,D.i_int];exact .int _ _ (uA _ _).1 (uA _ _).2
 .rename_i u1 u2 e1;rw[e1] at aV;obtain⟨n,aO,bu,b1⟩:=aV.str_inv;cases hr;refine .dat (v:=.string n) ?_ ?_
  .simp[execOp,ho,aO,convert,run_underlying u1,run_underlying u2]
  .rw[bu];exact .str _ b1
 .cases hr
end
def wW {n:Nat}(h:n<=maxLen):IntKind.i64.min<=(n:Int)/\(n:Int)<=IntKind.i64.max:=by
 simp only[maxLen] at h;simp only[IntKind.min,IntKind.max,IntKind.signed,IntKind.bits];simp;omega
section
variable {C:Ctx} {S:St} {O:Env} {V:Im} {own:Nat->Option Nat} {hv:Nat->Value} {w0:World} {σ0:Base} {A:Nat->Prop} {a:Act} {w:World} {gs:List (Nat×Bool)} {Z:aT} {dst:Nat}
def PV (C:Ctx)(V:Im)(w:World)(B:Nat)(t:Ty)(v:Value)(d:D):Prop:=
 Rep C.cap V t v d\/
 (∃T e cells xs,t=.slice e.rol/\d=.list xs/\w.ownsRow B T e.size v xs.length cells/\dz C.cap V e cells xs)\/
 (∃k arr clock es kt et,t=.map kt et/\v=.map (some k)/\w.heap[k]?=some (.map arr clock)/\d=.map es/\es.length=arr.size/\es.length<=maxLen/\
    ∀(i:Nat) (e:MapEntry) (p:D×D),arr[i]?=some e->es[i]?=some p->Rep C.cap V kt e.key p.1/\Rep C.cap V et e.val p.2)
def aah (h:Inv C S O V own hv w0 σ0 A a w)(hC:CtxOK C σ0)(hg:holds gs O=true){x:Operand}{r:Ty×PE}(hu:view C S gs x=some r):PV C V w w0.heap.size r.1 (a.eval x) (r.2.ev O):=by
 unfold view at hu;split at hu
 .rename_i r' pf;cases hu;exact .inl (cB h hC hg pf)
 .split at hu
  .rename_i t _;obtain⟨hs,_⟩:=nR h hg t;split at hu
   .rename_i j ver e;rw[e] at hs;cases hb:Nat.beq ver (S.ver j)<;>simp only[hb,zyy,zyx] at hu
    .cases hu
    .have dC:=ay hb;have ho:=h.objs j;have cv:a.eval (.tmp t)=hv j:=hs.2 dC;split at hu
     .rename_i T e eo;rw[eo] at ho;cases hu;obtain⟨cells,xs,h1,h2,h3,h4⟩:=ho;rw[cv];exact .inr (.inl ⟨T,e,cells,xs,rfl,h1,h2,h3⟩)
     .rename_i kt et eo;rw[eo] at ho;cases hu;obtain⟨k,arr,clock,es,h1,h2,h3,h4,h5,⟨hx,_⟩,h6⟩:=ho;rw[cv];exact .inr (.inr ⟨k,arr,clock,es,kt,et,rfl,h1,h3,h4,h5,hx,h6⟩)
     .cases hu
   .cases hu
  .cases hu
def zN {w:World}{B e size n:Nat}{v:Value}{cells:List Value}(h:w.ownsRow B e size v n cells):∃b c,v=.slice b n c/\n<=maxLen/\n<=c:=by
 rcases h.2 with⟨rfl,rfl⟩|⟨g,cap,cur,rfl,h1,h2,h3,h4,h5⟩
 .exact⟨none,0,rfl,by decide,aZ _⟩
 .exact⟨_,cap,rfl,ff h3 h4,h3⟩
def W9 {b:Builtin}{args:Array Operand}{ts:Array TypeId}{o:Oper}(ho:o.op=.call {callee:=.builtin b,args:=args,argTypes:=ts}):
 ∃cs,(execOp a.eval o).run C.P w=(builtin b ts o.type cs (args.map a.eval)).run C.P w:=
 ⟨_,by simp only[execOp,ho,resolve,invoke];rfl⟩
def avG (h:Inv C S O V own hv w0 σ0 A a w)(hC:CtxOK C σ0)(hg:holds gs O=true){T:TypeId}{x:Operand}{r:Sh×List PI}(hr:Vd C S gs dst T x=some r){o:Oper}
 (ho:o.op=.call {callee:=.builtin .len,args:=#[x],argTypes:=#[T]}):eM C S O V hv Z dst a w o r:=by
 simp only[Vd,az] at hr;obtain⟨p,hp,hr⟩:=hr;have aV:=aah h hC hg hp;obtain⟨cs,ak⟩:=W9 (C:=C) (w:=w) (a:=a) ho;split at hr
 .rename_i e T' e1 e2;rw[e1] at aV;cases hr;have hx:∃b n c xs,a.eval x=.slice b n c/\p.2.ev O=.list xs/\xs.length=n/\n<=maxLen:=by
   rcases aV with aV|⟨T,e,cells,xs,ht,hd,bA,dj⟩|⟨k,arr,clock,es,kt,et,ht,_⟩
   .obtain⟨xs,hd,⟨⟨p0,aO⟩,rfl⟩|⟨k,o,c,aO,h1,h2,_⟩⟩:=aV.slice_inv
    .exact⟨p0,0,0,[],aO,hd,rfl,by decide⟩
    .exact⟨_,_,c,xs,aO,hd,rfl,by omega⟩
   .obtain⟨b,c,aO,h1,_⟩:=zN bA;exact⟨b,_,c,xs,aO,hd,rfl,h1⟩
   .cases ht
  obtain⟨b,n,c,xs,aO,hd,hl,hm⟩:=hx;refine .dat (v:=.int .i64 n) ?_ ?_
  .rw[ak];simp[builtin,Builtin.len_,aO,run_underlying e2,goInt]
  .simp only[PE.ev,hd,D.l_list,hl];exact .int _ _ (wW hm).1 (wW hm).2
 .rename_i e T' e1 e2;rw[e1] at aV;cases hr;rcases aV with aV|⟨T,e,cells,xs,ht,_⟩|⟨k,arr,clock,es,kt,et,ht,_⟩
  .generalize zi:a.eval x=v at aV;generalize FT:p.2.ev O=d at aV;cases aV;refine .dat (v:=.int .i64 0) ?_ ?_
   .rw[ak];simp[builtin,Builtin.len_,zi,run_underlying e2,goInt]
   .simp only[PE.ev,FT,D.l_list];exact .int _ _ (by decide) (by decide)
  .cases ht
  .cases ht
 .rename_i e1 e2;rw[e1] at aV;cases hr;rcases aV with aV|⟨T,e,cells,xs,ht,_⟩|⟨k,arr,clock,es,kt,et,ht,_⟩
  .obtain⟨n,aO,bu,hm⟩:=aV.str_inv;refine .dat (v:=.int .i64 n.size) ?_ ?_
   .rw[ak];simp[builtin,Builtin.len_,aO,run_underlying e2,goInt]
   .simp only[PE.ev,bu,D.s_str];exact .int _ _ (wW hm).1 (wW hm).2
  .cases ht
  .cases ht
 .rename_i k0 e0 a0 b0 e1 e2;rw[e1] at aV;cases hr;rcases aV with aV|⟨T,e,cells,xs,ht,_⟩|⟨k,arr,clock,es,kt,et,ht,aO,hb,bu,hl,hx,_⟩
  .generalize zi:a.eval x=v at aV;generalize FT:p.2.ev O=d at aV;cases aV with
   |mapnil=>
    refine .dat (v:=.int .i64 0) ?_ ?_
    .rw[ak];simp[builtin,Builtin.len_,zi,run_underlying e2,goInt]
    .simp only[PE.ev,FT,D.m];exact .int _ _ (by decide) (by decide)
   |map kt et r ix es hm hl hx hk _=>
    obtain⟨arr,clock,hb,jX⟩:=(h.ok.m _ _ hm).mp (G2 hl hk) (agd hl hk);have hn:arr.size=es.length:=by rw[hl,<-jX];simp[entriesOf]
    refine .dat (v:=.int .i64 arr.size) ?_ ?_
    .rw[ak];simp[builtin,Builtin.len_,zi,run_underlying e2,goInt,getObj,Sem.run,hb]
    .simp only[PE.ev,FT,D.m,hn];exact .int _ _ (wW hx).1 (wW hx).2
  .cases ht
  .refine .dat (v:=.int .i64 arr.size) ?_ ?_
   .rw[ak];simp[builtin,Builtin.len_,aO,run_underlying e2,goInt,getObj,Sem.run,hb]
   .simp only[PE.ev,bu,D.m,hl];exact .int _ _ (wW (hl▸hx)).1 (wW (hl▸hx)).2
 .cases hr
def ahU (h:Inv C S O V own hv w0 σ0 A a w)(hC:CtxOK C σ0)(hg:holds gs O=true){mx:Bool}{x y:Operand}{ts:Array TypeId}{r:Sh×List PI}(hr:No C S gs dst mx x y=some r){o:Oper}
 (ho:o.op=.call {callee:=.builtin (bif mx then .max else .min),args:=#[x,y],argTypes:=ts}):eM C S O V hv Z dst a w o r:=by
 simp only[No,az] at hr;obtain⟨p,hp,q,hq,hr⟩:=hr;have aV:=cB h hC hg hp;have dL:=cB h hC hg hq;obtain⟨cs,ak⟩:=W9 (C:=C) (w:=w) (a:=a) ho;split at hr
 .rename_i k k' e1 e2;rw[e1] at aV;rw[e2] at dL;obtain⟨n,aO,bu,b1,b2⟩:=aV.int_inv;obtain⟨m,iO,dA,b3,b4⟩:=dL.int_inv;cases wA:(k==k')<;>simp only[wA,zyy,zyx] at hr
  .cases hr
  .have Sv:k=k':=by simpa using wA
   subst Sv;cases hr;cases mx with
   |true=>
    refine .dat (v:=.int k (if m>n then m else n)) ?_ ?_
    .rw[ak];simp[builtin,Builtin.max_,Builtin.max2,aO,iO]
    .simp only[zyy,PE.ev,bu,dA,D.i_int];by_cases af:m>n<;>simp[af]<;>constructor<;>assumption
   |false=>
    refine .dat (v:=.int k (if m<n then m else n)) ?_ ?_
    .rw[ak];simp[builtin,Builtin.min_,Builtin.min2,aO,iO]
    .simp only[zyx,PE.ev,bu,dA,D.i_int];by_cases af:m<n<;>simp[af]<;>constructor<;>assumption
 .cases hr
def avA (h:Inv C S O V own hv w0 σ0 A a w)(hC:CtxOK C σ0)(hg:holds gs O=true){x:Operand}{i:Nat}{r:Sh×List PI}(hr:U7 C S gs dst x i=some r){o:Oper}(ho:o.op=.extract x i):
 eM C S O V hv Z dst a w o r:=by
 simp only[U7,az] at hr;obtain⟨p,hp,hr⟩:=hr;have aV:=cB h hC hg hp;split at hr
 .rename_i ts e1;rw[e1] at aV;simp only[aB] at hr;obtain⟨t,ht,rfl⟩:=hr;obtain⟨vs,ds,aO,bu,l1,l2,aK⟩:=aV.tup_inv;have hi:i<vs.length:=by rw[l1];exact(eL.1 ht).1
  refine .dat (v:=vs.getD i undef) ?_ ?_
  .obtain⟨u,hu⟩:∃u,vs[i]?=some u:=⟨_,aX hi⟩
   have oT:vs.getD i undef=u:=by rw[aF,hu];rfl
   rw[oT];simp[execOp,ho,aO,Instr.extract,hu]
  .simp only[PE.ev,bu];exact aK i t ht
 .cases hr
end
def wR {P:Program}{T:TypeId}{ag:Bool}(h:sf P T=some ag)(w:World):(isAgg T).run P w=.ok ag w:=by
 unfold sf at h;split at h
 .rename_i fs hu;cases h;simp[isAgg,run_underlying hu]
 .rename_i n e hu;cases h;simp[isAgg,run_underlying hu]
 .rename_i d h1 h2 hu;cases h;cases d<;>simp_all [isAgg,run_underlying hu]
 .cases h
def uK (k o n:Nat):(⟨k,o,none⟩:Addr).add n=⟨k,o+n,none⟩:=by
 unfold Addr.add;split<;>simp_all
def OM {P:Program}{T:TypeId}{inf:TypeInfo}{ag:Bool}{w:World}{k o:Nat}{cs:List Value}(hi:P.info? T=some inf)(ha:sf P T=some ag)(hl:cs.length=inf.size)
 (h1:ag=false->cs.length=1) (hc:∀j u,cs[j]?=some u->w.cell? ⟨k,o+j,none⟩=some u):(loadVar T ⟨k,o,none⟩).run P w=.ok (rowOf ag cs) w:=by
 cases ag with
 |true=>
  have:=run_loadCells_list (P:=P) w ⟨k,o,none⟩ cs (λj v hv=>by rw[uK];exact hc j v hv);rw[hl] at this;simp[loadVar,wR ha,Go.sizeOf,run_typeInfo w hi,this,rowOf]
 |false=>
  obtain⟨u,hu⟩:∃u,cs=[u]:=by
   have:=h1 rfl
   match cs,this with
   |[u],_=>exact⟨u,rfl⟩
  subst hu;have h0:=hc 0 u rfl;simp only[iY] at h0;simp[loadVar,wR ha,rowOf,run_load,h0]
section
variable {C:Ctx} {S:St} {O:Env} {V:Im} {own:Nat->Option Nat} {hv:Nat->Value} {w0:World} {σ0:Base} {A:Nat->Prop} {a:Act} {w:World} {gs:List (Nat×Bool)} {Z:aT} {dst:Nat}
def xu {o:Oper}{T:TypeId}{x:Operand}{v:Value}{k off:Nat}(ho:o.op=.load T x)(hx:a.eval x=.pointer (some ⟨k,off,none⟩))(hl:(loadVar T ⟨k,off,none⟩).run C.P w=.ok v w):
 (execOp a.eval o).run C.P w=.ok (.value v) w:=by
 simp[execOp,ho,Instr.loadAt,hx,Instr.sureAddr,hl]
def uU {α:Type}{l:List α}{i:Nat}{x d:α}(h:l[i]?=some x):l.getD i d=x:=by
 rw[aF,h];rfl
def Nu {cap:Nat->Option CSig}{ts:List Ty}{vs:List Value}{ds:List D}{ag:Bool}{n off:Nat}{ty:Ty}(hp:xc ag n ts off=some ty)
 (h1:vs.length=ts.length) (h2:ds.length=ts.length) (hr:∀(i:Nat) (t:Ty),ts[i]?=some t->Rep cap V t (vs.getD i undef) (ds.getD i .none)) (ho:∀(i:Nat) (t:Ty),ts[i]?=some t->t.one=true):
 Rep cap V ty (rowOf ag ((vs.drop off).take n)) (bif ag then .agg ((ds.drop off).take n) else ds.getD off .none)/\((vs.drop off).take n).length=n/\(ag=false->n=1):=by
 unfold xc at hp;cases hle:Nat.ble (off+n) ts.length<;>simp only[hle,zyy,zyx] at hp
 .cases hp
 .have oW:=jP hle;have hlen:((vs.drop off).take n).length=n:=by simp;omega
  cases ag with
  |true=>
   simp only[zyy] at hp;cases hp;refine⟨?_,hlen,λe=>by cases e⟩;simp only[rowOf,if_true,zyy];refine .agg _ _ _ (by simp;omega) (by simp;omega) (λi t hi=>?_) (λi t hi=>?_)
   .simp only[fR,gq] at hi;split at hi
    .rename_i bO;have:=hr (off+i) t hi;simpa [aF,fR,gq,bO] using this
    .cases hi
   .simp only[fR,gq] at hi;split at hi
    .exact ho _ t hi
    .cases hi
  |false=>
   simp only[zyx] at hp;cases hn:Nat.beq n 1<;>simp only[hn,zyy,zyx] at hp
   .cases hp
   .have lf:=ay hn;subst lf;refine⟨?_,hlen,λ_=>rfl⟩;have:=hr off ty hp;have af:off<vs.length:=by omega
    simpa [rowOf,aF,fR,gq] using this
def Nt {ag:Bool}{n:Nat}{e:PE}{off:Nat}{ds:List D}(h:e.ev O=.agg ds):(C7 ag n e off).ev O=bif ag then .agg ((ds.drop off).take n) else ds.getD off .none:=by
 cases ag<;>simp[C7,PE.ev,h,D.cells,D.c]
def Inv.cell (h:Inv C S O V own hv w0 σ0 A a w){k o:Nat}{u:Value}(hc:V.c k o=some u):w.cell? ⟨k,o,none⟩=some u:=h.ok.c _ _ _ hc
def Rep.rowOf {cap:Nat->Option CSig}{t:Ty}{v:Value}{d:D}(h:Rep cap V t v d):v=Cx.rowOf t.rowT v.cells.toList:=by
 cases h<;>simp[Cx.rowOf,Ty.rowT,Value.cells]
def Rep.cells1 {cap:Nat->Option CSig}{t:Ty}{v:Value}{d:D}(h:Rep cap V t v d)(ht:t.rowT=false):v.cells=#[v]:=by
 cases h<;>simp_all [Ty.rowT,Value.cells]
def avH (h:Inv C S O V own hv w0 σ0 A a w){T:TypeId}{x:Operand}{inf:TypeInfo}{ag:Bool}(hi:C.P.info? T=some inf)(ha:sf C.P T=some ag){o:Oper}(ho:o.op=.load T x)
 {ty:Ty} {e:PE} (hr:Rep C.cap V (.ref ty) (a.eval x) (e.ev O)) (hs:Nat.beq inf.size ty.size=true) (LN:(ag==ty.rowT)=true):
 eM C S O V hv Z dst a w o (.dat ty,[.setR dst (.deref e)]):=by
 obtain⟨k,off,v,y,aO,bu,bL,jD⟩:=hr.ref_inv;have ei:=ay hs;have FL:ag=ty.rowT:=by simpa using LN
 have hz:=bL.size;have cZ:=bL.rowOf;refine .dat (v:=v) (xu ho aO ?_) ?_
 .rw[cZ,<-FL];refine OM hi ha (by simp[hz,ei]) (λe=>?_) (λj u hu=>?_)
  .subst e;simp[bL.cells1 FL.symm]
  .exact h.cell (jD j u (by simpa using hu))
 .simp only[PE.ev,bu,D.deref];exact bL
def EO {w:World}{k:Nat}{cs:Array Value}{T:TypeId}{fr:Nat×Nat}(hb:w.heap[k]?=some (.cells cs T fr)){i:Nat}(hi:i<cs.size):w.cell? ⟨k,i,none⟩=some (cs.getD i undef):=by
 simp[World.cell?,hb,fQ,iV hi]
def Cb (cs:Array Value)(i:Nat):cs.toList.getD i undef=cs.getD i undef:=by
 simp[aF,fQ]
def abj {cs:Array Value}{ds:List D}:∀(shs:List Sh) (i:Nat) (l:List AgC),Et S shs=some l->(∀m s,shs[m]?=some s->aG C S O V hv s (cs.getD (i+m) undef) (ds.getD (i+m) .none))->
 l.length=shs.length/\∀(m:Nat) (c:AgC),l[m]?=some c->nZ C S V hv c (cs.getD (i+m) undef) (ds.getD (i+m) .none)
 |[],i,l,hl,_=>by simp only[Et,ba] at hl;subst hl;exact⟨rfl,λm c hm=>by simp at hm⟩
 |s::r,i,l,hl,aK=>by
  simp only[Et,az] at hl;obtain⟨x,hx,hl⟩:=hl
  obtain⟨g1,g3⟩:=abj r (i+1) x hx λm s hm=>by
   have:=aK (m+1) s (by simpa using hm)
   rwa [show i+(m+1)=i+1+m by omega] at this
  have h0:=aK 0 s rfl;rw[iY] at h0;split at hl
  .rename_i t;cases dB:t.one<;>simp only[dB,zyy,zyx] at hl
   .cases hl
   cases hl;refine⟨by simp[g1],λm c hm=>?_⟩;cases m with
   |zero=>simp at hm;subst hm;exact⟨dB,h0⟩
   |succ m=>simp at hm;have:=g3 m c hm;rwa [show i+1+m=i+(m+1) by omega] at this
  .rename_i j ver;cases hb:Nat.beq ver (S.ver j)<;>simp only[hb,zyy,zyx] at hl
   .cases hl
   cases hl;refine⟨by simp[g1],λm c hm=>?_⟩;cases m with
   |zero=>simp at hm;subst hm;exact h0
   |succ m=>simp at hm;have:=g3 m c hm;rwa [show i+1+m=i+(m+1) by omega] at this
  .cases hl
def alk {j off n len:Nat}{ds:List D}(h:O.o j=.agg ds)(hl:ds.length=len):(P0 j off n len).ev O=.agg ((ds.drop off).take n):=by
 unfold P0;cases hb:(Nat.beq off 0&&Nat.beq n len)
 .simp only[zyx,PE.ev,h];rfl
 .simp only[ao] at hb;obtain rfl:=ay hb.1;obtain rfl:=ay hb.2;simp only[zyy,PE.ev,h,List.drop_zero,<-hl,Ei]
def G7 (h:Inv C S O V own hv w0 σ0 A a w)(hC:CtxOK C σ0)(hg:holds gs O=true){T:TypeId}{x:Operand}{r:Sh×List PI}(hr:C3 C S gs dst T x=some r){o:Oper}(ho:o.op=.load T x):
 eM C S O V hv Z dst a w o r:=by
 unfold C3 at hr;split at hr
 case h_2=>cases hr
 rename_i inf ag hi ha;have dV:aG C S O V hv (gN S gs x) (a.eval x) ((sQ x).ev O):=by
  cases x with
  |tmp t=>exact(nR h hg t).1
  |_=>trivial
 split at hr
 ·
  rename_i j ver off es;rw[es] at dV;cases hb:Nat.beq ver (S.ver j)<;>simp only[hb,zyy,zyx] at hr
  .cases hr
  have dC:=ay hb;obtain⟨k,eX,fY⟩:=dV.2 dC;have bn:=h.objs j;split at hr
  .rename_i bag shs eo;rw[eo] at bn;obtain⟨k',cs,T',ds,h1,h2,h3,h4,h5,h6,h7⟩:=bn;rw[eX] at h1;cases h1;cases ag with
   |true=>
    simp only[zyy] at hr;cases hle:Nat.ble (off+inf.size) shs.length<;>simp only[hle,zyy,zyx] at hr
    .cases hr
    have oW:=jP hle;have hlen:((shs.drop off).take inf.size).length=inf.size:=by simp;omega
    have cI:∀m u,((cs.toList.drop off).take inf.size)[m]?=some u->w.cell? ⟨k,off+m,none⟩=some u:=λm u hu=>by
     simp only[fR,gq] at hu;split at hu
     .rename_i hm;have:=EO h3 (i:=off+m) (by omega);rw[this,<-Cb];exact congrArg some (uU hu)
     .cases hu
    have aex:=xu ho fY (OM hi ha (by simp;omega) (λe=>by cases e) cI);split at hr
    .rename_i l hl;cases hr
     revert hl
     cases PY C j
     .intro hl;cases hl
     intro hl
     obtain⟨ll,lo⟩:=abj (cs:=cs) (ds:=ds) _ off l hl (λm s hm=>by
      simp only[fR,gq] at hm;split at hm
      .exact(h7 (off+m) s hm).2
      .cases hm)
     rw[hlen] at ll;refine λO' ak=>⟨_,_,vE ak,aex,⟨(cs.toList.drop off).take inf.size,(ds.drop off).take inf.size,by simp[rowOf],alk h5 h6,by simp;omega,by simp;omega,λm c hm=>?_⟩,λ_ _ e=>by cases e⟩
     have rY:m<inf.size:=by have:=(eL.1 hm).1;omega
     have:=lo m c hm;simpa [aF,fR,gq,rY] using this
    simp only[aB] at hr;obtain⟨p,hp,rfl⟩:=hr
    obtain⟨l1,es,⟨he,_⟩,l2,bL⟩:=Q0 (b:=.o j) h (cs:=cs.toList) h5 _ off p (λm s hm=>by
     simp only[fR,gq] at hm;split at hm
     .have:=(h7 (off+m) s hm).2;rw[Cb];exact this
     .cases hm) hp
    refine .dat (v:=rowOf true ((cs.toList.drop off).take inf.size)) aex ?_
    .simp only[PE.ev,rowOf,if_true,he];refine .agg _ _ _ (by simp;omega) (by omega) (λm t hm=>?_) (λm t hm=>(bL m t hm).1);have rY:m<inf.size:=by have:=(eL.1 hm).1;omega
     have:=(bL m t hm).2;simpa [aF,fR,gq,rY] using this
   |false=>
    simp only[zyx] at hr;split at hr
    .rename_i ty hs;cases dB:ty.one<;>simp only[dB,zyy,zyx] at hr
     .cases hr
     cases hr;have nr:=(h7 off _ hs).2;have af:off<shs.length:=(eL.1 hs).1;have y4:(loadVar T ⟨k,off,none⟩).run C.P w=.ok (cs.getD off undef) w:=by
      simp[loadVar,wR ha,run_load,EO h3 (i:=off) (by omega)]
     refine .dat (v:=cs.getD off undef) (xu ho fY y4) ?_;simp only[PE.ev,h5,D.c,D.cells];exact nr
    .rename_i j' nW hs;cases hr;have nr:=(h7 off _ hs).2;have af:off<shs.length:=(eL.1 hs).1;have y4:(loadVar T ⟨k,off,none⟩).run C.P w=.ok (cs.getD off undef) w:=by
      simp[loadVar,wR ha,run_load,EO h3 (i:=off) (by omega)]
     intro O' ak;exact⟨_,_,vE ak,xu ho fY y4,nr,λ_ _ e=>by cases e⟩
    .cases hr
  .rename_i ts eo;rw[eo] at bn;obtain⟨k',v,h1,h2,h3⟩:=bn;rw[eX] at h1;cases h1;simp only[aB] at hr;obtain⟨ty,bt,rfl⟩:=hr;obtain⟨vs,ds,rfl,hd,l1,l2,aK,dB⟩:=h2.agg_inv;obtain⟨bL,hlen,lf⟩:=Nu bt l1 l2 aK dB;refine .dat (xu ho fY (OM hi ha hlen (λe=>by rw[hlen];exact lf e) (λm u hu=>h.cell ?_))) (by rw[Nt (e:=.o j) hd];exact bL);simp only[fR,gq] at hu;split at hu
   .exact h3 (off+m) u (by simpa [Value.cells] using hu)
   .cases hu
  .rename_i ty au eo;rw[eo] at bn;obtain⟨k',v,h1,h2,h3⟩:=bn;rw[eX] at h1;cases h1;cases hc:(!ag&&ty.one&&Nat.beq off 0)<;>simp only[hc,zyy,zyx] at hr
   .cases hr
   cases hr;simp only[ao,kT] at hc;have jk:=ay hc.2;subst jk;have y4:(loadVar T ⟨k,0,none⟩).run C.P w=.ok v w:=by
        have:=h.cell (h3 0 v (by simp[(h2.oneCell hc.1.2).1]));rw[hc.1.1] at ha;simp[loadVar,wR ha,run_load,this]
   exact .dat (xu ho fY y4) h2
  .cases hr
 ·
  rename_i j ver size off es;rw[es] at dV;cases hb:Nat.beq ver (S.ver j)<;>simp only[hb,zyy,zyx] at hr
  .cases hr
  have dC:=ay hb;obtain⟨k,n,c,ik,i,eX,wy,bO,fY⟩:=dV.2 dC;have bn:=h.objs j;split at hr
  .rename_i T' ts eo;rw[eo] at bn;obtain⟨cells,xs,h1,h2,⟨vs,h3,h4⟩,h5⟩:=bn;cases aI:Nat.beq size ts.length<;>simp only[aI,zyy,zyx] at hr
   .cases hr
   have wJ:=ay aI;simp only[aB] at hr;obtain⟨ty,bt,rfl⟩:=hr;rw[eX] at h2;have aY:=h2.cells (g:=k) rfl;obtain⟨b,c',e1,Ga,Gb⟩:=zN h2;cases e1;obtain⟨y,hy⟩:∃y,xs[i]?=some y:=⟨_,aX bO⟩
   have Mm:=h3 i y hy;obtain⟨us,ds,wM,hd,l1,l2,aK,dB⟩:=Mm.agg_inv;obtain⟨bL,hlen,lf⟩:=Nu bt l1 l2 aK dB;have arU:(PE.nth (.o j) (sQ x)).ev O=.agg ds:=by
        simp only[PE.ev,h1,D.l_list,wy,D.i_int,xV];rw[uU hy,hd]
   refine .dat (xu ho fY (OM hi ha hlen (λe=>by rw[hlen];exact lf e) (λm u hu=>?_))) (by rw[Nt arU];exact bL);simp only[fR,gq] at hu;split at hu
   .have:=h4 i (off+m) u (by omega) (by rw[wM];simpa [Value.cells] using hu);have:=aY _ _ this;rw[uK] at this;simpa [Ty.size,wJ,td] using this
   .cases hu
  .rename_i T' e au eo;rw[eo] at bn;obtain⟨cells,xs,h1,h2,⟨vs,h3,h4⟩,h5⟩:=bn;cases hc:(!ag&&e.one&&Nat.beq off 0&&Nat.beq size 1)<;>simp only[hc,zyy,zyx] at hr
   .cases hr
   cases hr;simp only[ao,kT] at hc;have jk:=ay hc.1.2;have aI:=ay hc.2;subst jk;subst aI;rw[eX] at h2;have aY:=h2.cells (g:=k) rfl;obtain⟨b,c',e1,Ga,Gb⟩:=zN h2;cases e1;obtain⟨y,hy⟩:∃y,xs[i]?=some y:=⟨_,aX bO⟩
   have Mm:=h3 i y hy;have y4:(loadVar T ⟨k,i*1+0,none⟩).run C.P w=.ok (vs i) w:=by
        have h6:=h4 i 0 (vs i) bO (by simp[(Mm.oneCell hc.1.1.2).1]);have:=aY _ _ h6;rw[uK] at this;have FX:e.size=1:=by cases e<;>simp_all [Ty.size,Ty.one]
        rw[hc.1.1.1] at ha;rw[FX] at this;simp only[gu,iY,Jr] at this;simp[loadVar,wR ha,run_load,this]
   refine .dat (xu ho fY y4) ?_;simp only[PE.ev,h1,D.l_list,wy,D.i_int,xV];rw[uU hy];exact Mm
  .cases hr
 .simp only[az] at hr;obtain⟨p,hp,hr⟩:=hr;have aV:=cB h hC hg hp;split at hr
  .rename_i ty e1;rw[e1] at aV;cases hc:(Nat.beq inf.size ty.size&&(ag==ty.rowT))<;>simp only[hc,zyy,zyx] at hr
   .cases hr
   cases hr;simp only[ao] at hc;exact avH h hi ha ho aV hc.1 hc.2
  .cases hr
def uw (h:Inv C S O V own hv w0 σ0 A a w)(hg:holds gs O=true)(x:Operand):aG C S O V hv (gN S gs x) (a.eval x) ((sQ x).ev O)/\∀bN s,gN S gs x≠.opt bN s:=by
 cases x with
 |tmp t=>exact nR h hg t
 |_=>exact⟨trivial,λ_ _ e=>by cases e⟩
def acI {P:Program}{T:TypeId}{i:Nat}{f:Field}(h:Fv P T i=some f):∃fs,P.underlying T=some (.struct fs)/\fs[i]?=some f:=by
 unfold Fv at h;split at h
 .rename_i fs hu;exact⟨fs,hu,h⟩
 .cases h
def Xa {o:Oper}{T:TypeId}{x:Operand}{i:Nat}{f:Field}{inf:TypeInfo}{k off:Nat}(ho:o.op=.fieldAddr T x i)(hf:Fv C.P T i=some f)(hi:C.P.info? f.type=some inf)(hn:Nat.beq inf.size 0=false)
 (hx:a.eval x=.pointer (some ⟨k,off,none⟩)):(execOp a.eval o).run C.P w=.ok (.value (.pointer (some ⟨k,off+f.offset,none⟩))) w:=by
 obtain⟨fs,hu,rU⟩:=acI hf;have lW:inf.size≠0:=by intro e;simp[e] at hn
 simp[execOp,ho,Instr.fieldAt,run_underlying hu,rU,hx,Instr.sureAddr,fieldPlace,Go.sizeOf,run_typeInfo w hi,lW,uK]
def avB (h:Inv C S O V own hv w0 σ0 A a w)(hC:CtxOK C σ0)(hg:holds gs O=true){T:TypeId}{x:Operand}{i:Nat}{r:Sh×List PI}(hr:U9 C S gs dst T x i=some r){o:Oper}(ho:o.op=.fieldAddr T x i):
 eM C S O V hv Z dst a w o r:=by
 simp only[U9,az] at hr;obtain⟨f,hf,hr⟩:=hr;obtain⟨dV,fI⟩:=uw h hg x;split at hr
 case h_2=>cases hr
 rename_i inf ag hi ha;cases hn:Nat.beq inf.size 0<;>simp only[hn,zyy,zyx] at hr
 case true=>cases hr
 split at hr
 .rename_i j ver size off es;cases hb:Nat.beq ver (S.ver j)<;>simp only[hb,zyy,zyx] at hr
  .cases hr
  cases hr;rw[es] at dV;intro O' ak;obtain⟨k,n,c,ik,idx,eX,wy,bO,fY⟩:=dV.2 (ay hb);exact⟨_,_,vE ak,Xa ho hf hi hn fY,⟨dV.1,λ_=>⟨k,n,c,ik,idx,eX,wy,bO,by rw[td]⟩⟩,λ_ _ e=>by cases e⟩
 .split at hr
  .rename_i ts e hu;have aV:=cB h hC hg hu;simp only[aB] at hr;obtain⟨ty,bt,rfl⟩:=hr;obtain⟨k,off,v,y,aO,bu,bL,jD⟩:=Rep.ref_inv aV;obtain⟨vs,ds,rfl,rfl,l1,l2,aK,dB⟩:=bL.agg_inv;obtain⟨qs,hlen,lf⟩:=Nu bt l1 l2 aK dB;refine .dat (Xa ho hf hi hn aO) ?_;have hde:(PE.deref e).ev O=.agg ds:=by simp only[PE.ev,bu,D.deref]
   simp only[PE.ev];rw[Nt hde];refine .ref ty k (off+f.offset) _ _ qs (λj u hu=>?_);have lY:((vs.drop f.offset).take inf.size)[j]?=some u:=by
        cases ag with
        |true=>simpa [rowOf,Value.cells] using hu
        |false=>
         have:=lf rfl;rw[this] at hlen ⊢;obtain⟨q,hq⟩:∃q,(vs.drop f.offset).take 1=[q]:=by
          match(vs.drop f.offset).take 1,hlen with
          |[q],_=>exact⟨q,rfl⟩
         rw[this] at qs hu;rw[hq] at qs hu ⊢;simp only[rowOf,ri] at qs hu;have wF:ty.rowT=false:=by
          unfold xc at bt;cases hle:Nat.ble (f.offset+inf.size) ts.length<;>simp only[hle,zyy,zyx] at bt
          .cases bt
          .cases hb:Nat.beq inf.size 1<;>simp only[hb,zyy,zyx] at bt
           .cases bt
           .have:=dB _ _ bt;cases ty<;>simp_all [Ty.one,Ty.rowT]
         rw[qs.cells1 wF] at hu;simpa using hu
   simp only[fR,gq] at lY;split at lY
   .have:=jD (f.offset+j) u (by simpa [Value.cells] using lY)
    rwa [<-td] at this
   .cases lY
  .split at hr
   .rename_i j ver off es;cases hb:Nat.beq ver (S.ver j)<;>simp only[hb,zyy,zyx] at hr
    .cases hr
    cases hr;rw[es] at dV;intro O' ak;obtain⟨k,eX,fY⟩:=dV.2 (ay hb);exact⟨_,_,vE ak,Xa ho hf hi hn fY,⟨dV.1,λ_=>⟨k,eX,rfl⟩⟩,λ_ _ e=>by cases e⟩
   .cases hr
def avC (h:Inv C S O V own hv w0 σ0 A a w)(hC:CtxOK C σ0)(hg:holds gs O=true){T:TypeId}{x:Operand}{i:Nat}{r:Sh×List PI}(hr:U8 C S gs dst T x i=some r){o:Oper}(ho:o.op=.field T x i):
 eM C S O V hv Z dst a w o r:=by
 simp only[U8,az] at hr;obtain⟨f,hf,hr⟩:=hr;split at hr
 case h_2=>cases hr
 rename_i inf ag hi ha;split at hr
 case h_2=>cases hr
 rename_i ts e hu;have aV:=cB h hC hg hu;simp only[aB] at hr;obtain⟨ty,bt,rfl⟩:=hr;obtain⟨vs,ds,aO,bu,l1,l2,aK,dB⟩:=Rep.agg_inv aV;obtain⟨qs,hlen,lf⟩:=Nu bt l1 l2 aK dB;obtain⟨fs,lY,rU⟩:=acI hf;have hle:f.offset+inf.size<=ts.length:=by
  unfold xc at bt;cases hle:Nat.ble (f.offset+inf.size) ts.length<;>simp only[hle,zyy,zyx] at bt
  .cases bt
  .exact jP hle
 refine .dat (v:=rowOf ag ((vs.drop f.offset).take inf.size)) ?_ (by rw[Nt bu];exact qs);cases ag with
 |true=>
  simp only[execOp,ho,Instr.field,aO,asAgg,part];simp[run_underlying lY,rU,wR ha,Go.sizeOf,run_typeInfo w hi,rowOf]
 |false=>
  have hn:=lf rfl;have af:f.offset<vs.length:=by omega
  simp only[execOp,ho,Instr.field,aO,asAgg,part];simp[run_underlying lY,rU,wR ha,rowOf,hn,aX af,aF,fR,gq]
def ajI {o:Oper}{T e:TypeId}{x i:Operand}{inf:TypeInfo}{k off n c idx:Nat}{ik:IntKind}(ho:o.op=.indexAddr T x i)(hT:C.P.underlying T=some (.slice e))(hi:C.P.info? e=some inf)
 (hx:a.eval x=.slice (some ⟨k,off,none⟩) n c) (arf:a.eval i=.int ik idx) (af:idx<n):(execOp a.eval o).run C.P w=.ok (.value (.pointer (some ⟨k,off+idx*inf.size,none⟩))) w:=by
 simp[execOp,ho,Instr.indexAt,run_underlying hT,hx,arf,asIntOf,af,Go.sizeOf,run_typeInfo w hi,uK]
def OQ {P:Program}{T:TypeId}{t:Ty}(h:ux P T t=true):∃inf,P.info? T=some inf/\inf.size=t.size:=by
 unfold ux at h;split at h
 .rename_i i hi;exact⟨i,hi,ay h⟩
 .cases h
def avE (h:Inv C S O V own hv w0 σ0 A a w)(hC:CtxOK C σ0)(hg:holds gs O=true){T:TypeId}{x i:Operand}{r:Sh×List PI}(hr:Vc C S gs dst T x i=some r){o:Oper}(ho:o.op=.indexAddr T x i):
 eM C S O V hv Z dst a w o r:=by
 unfold Vc at hr;split at hr
 case h_2=>cases hr
 rename_i e hT;simp only[az] at hr;obtain⟨p,hp,hr⟩:=hr;have aV:=cB h hC hg hp;split at hr
 case h_2=>cases hr
 rename_i ik e1;rw[e1] at aV;obtain⟨idx,aO,bu,b1,b2⟩:=aV.int_inv;split at hr
 .rename_i t pe hu;have dc:=cB h hC hg hu;cases aI:ux C.P e t<;>simp only[aI,zyy,zyx] at hr
  .cases hr
  cases hr;obtain⟨inf,hi,hs⟩:=OQ aI;obtain⟨xs,hd,tM⟩:=Rep.slice_inv dc;refine .datc hg λhc=>?_;simp only[PE.ev,hd,bu,D.l_list,D.i_int,D.b_bool,decide_eq_true_eq] at hc;rcases tM with⟨_,rfl⟩|⟨k,off,c,tX,h1,h2,vs,h3,h4⟩
  .simp at hc;omega
  .obtain⟨m,rfl⟩:=rf hc.1;have af:m<xs.length:=by omega
   refine⟨_,ajI ho hT hi tX aO af,?_⟩;obtain⟨y,hy⟩:∃y,xs[m]?=some y:=⟨_,aX af⟩
   simp only[PE.ev,hd,bu,D.l_list,D.i_int,xV,uU hy];exact .ref t.unf k _ (vs m) y (h3 m y hy) (λj u hu=>by rw[hs];exact h4 m j u af hu)
 .cases hr
 .obtain⟨dV,fI⟩:=uw h hg x;split at hr
  .rename_i j ver es;rw[es] at dV;cases hb:Nat.beq ver (S.ver j)<;>simp only[hb,zyy,zyx] at hr
   .cases hr
   have dC:=ay hb;have bn:=h.objs j;have cv:=dV.2 dC;split at hr
   .rename_i T' t eo;rw[eo] at bn;cases aI:ux C.P e t<;>simp only[aI,zyy,zyx] at hr
    .cases hr
    cases hr;obtain⟨inf,hi,hs⟩:=OQ aI;obtain⟨cells,xs,h1,h2,⟨vs,h3,h4⟩,h5⟩:=bn;intro O' ak;obtain⟨hc,hρ⟩:=Xb hg ak;simp only[PE.ev,h1,bu,D.l_list,D.i_int,D.b_bool,decide_eq_true_eq] at hc;obtain⟨m,rfl⟩:=rf hc.1;have af:m<xs.length:=by omega
    rcases h2.2 with⟨_,e0⟩|⟨g,cap,cur,eX,_⟩
    .omega
    .refine⟨_,_,hρ,ajI ho hT hi (cv.trans eX) aO af,⟨by omega,λ_=>⟨g,xs.length,cap,ik,m,eX,bu,af,?_⟩⟩,λ_ _ e=>by cases e⟩;rw[hs];simp
   .cases hr
  .cases hr
def avF (h:Inv C S O V own hv w0 σ0 A a w)(hC:CtxOK C σ0)(hg:holds gs O=true){T:TypeId}{x i:Operand}{r:Sh×List PI}(hr:Vb C S gs dst T x i=some r){o:Oper}(ho:o.op=.index T x i):
 eM C S O V hv Z dst a w o r:=by
 unfold Vb at hr;split at hr
 case h_2=>cases hr
 rename_i hT;simp only[az] at hr;obtain⟨p,hp,q,hq,hr⟩:=hr;have aV:=cB h hC hg hp;have dL:=cB h hC hg hq;split at hr
 case h_2=>cases hr
 rename_i ik e1 e2;rw[e1] at aV;rw[e2] at dL;obtain⟨idx,aO,bu,b1,b2⟩:=aV.int_inv;obtain⟨s,iO,dA,_⟩:=dL.str_inv;cases hr;refine .datc hg λhc=>?_;simp only[PE.ev,dA,bu,D.s_str,D.i_int,D.b_bool,decide_eq_true_eq] at hc;obtain⟨m,rfl⟩:=rf hc.1;have af:m<s.size:=by omega
 refine⟨.int .u8 (s.data.getD m 0).toNat,?_,?_⟩
 .have:s[m]?=some (s.data.getD m 0):=by
   rw[getElem?_pos s m af];simp[ByteArray.getElem_eq_getElem_data,fQ,iV (show m<s.data.size from af)]
  simp[execOp,ho,Instr.index,run_underlying hT,aO,iO,asIntOf,this]
 .simp only[PE.ev,dA,bu,D.s_str,D.i_int,xV];refine .int _ _ ?_ ?_
  .simp only[IntKind.min,IntKind.signed];simp
  .simp only[IntKind.max,IntKind.signed,IntKind.bits];have:=UInt8.toNat_lt (s.data.getD m 0);simp at this ⊢;omega
def aBu (h:Inv C S O V own hv w0 σ0 A a w)(hC:CtxOK C σ0)(hg:holds gs O=true){lo:Option Operand}{l:Ty×PE}{k:IntKind}(hl:aaf C S gs lo=some l)(hk:l.1=.int k):
 ∃n,l.2.ev O=.v (.int k n)/\((lo=none/\n=0)\/∃x,lo=some x/\a.eval x=.int k n):=by
 cases lo with
 |none=>simp[aaf] at hl;subst hl;simp at hk;subst hk;exact⟨0,rfl,.inl ⟨rfl,rfl⟩⟩
 |some x=>
  have:=cB h hC hg hl;rw[hk] at this;obtain⟨n,h1,h2,_⟩:=this.int_inv;exact⟨n,h2,.inr ⟨x,rfl,h1⟩⟩
def aBt (h:Inv C S O V own hv w0 σ0 A a w)(hC:CtxOK C σ0)(hg:holds gs O=true){e:PE}{hi:Option Operand}{l:Ty×PE}{k:IntKind}(hl:aae C S gs e hi=some l)(hk:l.1=.int k):
 ∃n,l.2.ev O=.v (.int k n)/\((hi=none/\n=(e.ev O).l.length)\/∃x,hi=some x/\a.eval x=.int k n):=by
 cases hi with
 |none=>simp[aae] at hl;subst hl;simp at hk;subst hk;exact⟨_,rfl,.inl ⟨rfl,rfl⟩⟩
 |some x=>
  have:=cB h hC hg hl;rw[hk] at this;obtain⟨n,h1,h2,_⟩:=this.int_inv;exact⟨n,h2,.inr ⟨x,rfl,h1⟩⟩
def run_sliceBound {P:Program}{x:Value}{y i:Nat}{k:IntKind}{code:BoundsCode}{w:World}(hx:x=.int k i)(h:i<=y):(Instr.sliceBound x y code).run P w=.ok i w:=by
 subst hx;simp[Instr.sliceBound,asIntOf,h]
def avM (h:Inv C S O V own hv w0 σ0 A a w)(hC:CtxOK C σ0)(hg:holds gs O=true){T:TypeId}{x:Operand}{lo hi mx:Option Operand}{r:Sh×List PI}(hr:Vh C S gs dst T x lo hi mx=some r){o:Oper}(ho:o.op=.slice T x lo hi mx):
 eM C S O V hv Z dst a w o r:=by
 unfold Vh at hr;split at hr
 case h_3=>cases hr
 case h_2=>
  rename_i n e hT;split at hr
  case h_2=>cases hr
  simp only[az] at hr;obtain⟨p,hp,hr⟩:=hr;have aV:=cB h hC hg hp;split at hr
  case h_2=>cases hr
  rename_i t ts e1;cases hc:(Nat.beq n (ts.length+1)&&ts.all (Ty.beq t)&&t.one&&ux C.P e t&&Nat.ble n maxLen&&(ae2 x|| !Ty.beq t (.int .i64)))<;>simp only[hc,zyy,zyx] at hr
  .cases hr
  cases hr;simp only[ao] at hc;obtain⟨⟨⟨⟨⟨c1,c2⟩,c3⟩,c4⟩,c5⟩,c6⟩:=hc;have hn:=ay c1;have hm:=jP c5;obtain⟨inf,qj,hs⟩:=OQ c4;rw[e1] at aV;obtain⟨k,off,x0,y,tX,hd,hr0,jD⟩:=aV.ref_inv;have CM:t=.int .i64->V.m k=some mR:=by
   rintro rfl;rw[kj] at c6;rcases c6 with c6|c6
   .cases x with
    |global g=>
     simp only[use,aB] at hp;obtain⟨y',hy',_⟩:=hp;have hk:k=g:=by
      have e:a.eval (.global g)=.pointer (some ⟨g,0,none⟩):=rfl;rw[e] at tX;cases tX;rfl
     subst hk;exact h.le.m _ _ (hC.mg _ _ hy')
    |_=>cases c6
   .exact absurd c6 (by decide)
  obtain⟨vs,ds,rfl,rfl,l1,l2,dj,_⟩:=hr0.agg_inv
  have aK:∀(i:Nat),i<n->(t::ts)[i]?=some t:=λi hi=>by
   cases i with
   |zero=>rfl
   |succ i=>
    have af:i<ts.length:=by omega
    rw[Jl,aX af];rw[Ty.beq_eq _ _ (cQ.1 c2 _ (bR af))]
  have Sz:vs.length=n:=by rw[l1,hn];rfl
  have hld:ds.length=n:=by rw[l2,hn];rfl
  have dB:t.size=1:=by cases t<;>simp_all [Ty.one,Ty.size]
  refine eM.dat (v:=.slice (some ⟨k,off,none⟩) n n) ?_ ?_
  .have:Addr.add ⟨k,off,none⟩ 0=⟨k,off,none⟩:=by simp[Addr.add]
   simp[execOp,ho,Instr.sliceAt,run_underlying hT,tX,Instr.sureAddr,Instr.sliceBounds,Go.sizeOf,run_typeInfo w qj,this]
  .have arB:(PE.lst ((List.range n).map λi=>.cell (.deref p.2) i)).ev O=.list ds:=by
        simp only[PE.ev]
        congr 1
        have bM:∀l:List PE,PE.evs O l=l.map λe=>e.ev O:=λl=>by induction l with|nil=>rfl|cons e l ih=>simp[PE.evs,ih]
        rw[bM,oe];apply vN;intro i;rw[cm];by_cases hi:i<n
        .rw[tc hi,aX (by omega)];simp only[kV,Function.comp,PE.ev,hd,D.deref,D.c,D.cells];rw[aF,aX (by omega)];rfl
        .rw[km (by simp;omega),km (by omega)];rfl
   rw[arB];refine .slice t k off n n ds (λi=>vs.getD i undef) hld (aZ _) hm (λi x hx=>?_) (λi j u hi hu=>?_) CM
   .have af:i<n:=by rw[<-hld];exact(eL.1 hx).1
    have:=dj i t (aK i af);rw[uU hx] at this;exact this.unf
   .have h1:=(dj i t (aK i hi)).oneCell c3;rw[h1.1] at hu;cases j with
    |zero=>
     simp at hu;have:=jD i (vs.getD i undef) (by
      simp only[Value.cells];rw[xY,aX (by omega),aF,aX (by omega)];rfl)
     rw[dB,<-hu];simpa using this
    |succ j=>simp at hu
 rename_i e hT;simp only[az] at hr;obtain⟨p,hp,hr⟩:=hr;have aV:=cB h hC hg hp;split at hr
 case h_2=>cases hr
 rename_i t e1;rw[e1] at aV;simp only[az] at hr;obtain⟨l,hl,u,hu,hr⟩:=hr;split at hr
 case h_2=>cases hr
 rename_i k1 k2 e2 e3;cases aI:ux C.P e t<;>simp only[aI,zyy,zyx] at hr
 .cases hr
 cases hr;obtain⟨inf,qj,hs⟩:=OQ aI;obtain⟨n1,bu,qm⟩:=aBu h hC hg hl e2;obtain⟨n2,dA,Cr⟩:=aBt h hC hg hu e3;obtain⟨xs,hd,tM⟩:=Rep.slice_inv' aV;refine .datc hg λhc=>?_;simp only[PE.ev,hd,bu,dA,D.l_list,D.i_int,D.b_bool,decide_eq_true_eq] at hc;obtain⟨m1,rfl⟩:=rf hc.1;obtain⟨m2,rfl⟩:=rf (show 0<=n2 by omega);have RT:m1<=m2:=by omega
 have h2l:m2<=xs.length:=by omega
 have ady:∀c,xs.length<=c->(Instr.sliceBounds true xs.length c (lo.map a.eval) (hi.map a.eval) none).run C.P w=.ok (m1,m2,c) w:=by
  intro c jC
  have hh:∀code,(match hi.map a.eval with|some v=>Instr.sliceBound v c code|none=>(pure xs.length:Sem Nat)).run C.P w=.ok m2 w:=by
   intro code;rcases Cr with⟨rfl,e⟩|⟨y,rfl,e⟩
   .rw[hd,D.l_list] at e;simp;omega
   .simp only[kV];exact run_sliceBound e (by omega)
  have Sy:∀code,(match lo.map a.eval with|some v=>Instr.sliceBound v m2 code|none=>(pure 0:Sem Nat)).run C.P w=.ok m1 w:=by
   intro code;rcases qm with⟨rfl,e⟩|⟨y,rfl,e⟩
   .simp;omega
   .simp only[kV];exact run_sliceBound e RT
  have hh':=hh .sliceAcap;have ad5:=Sy .sliceB;unfold Instr.sliceBounds;cases hi<;>cases lo<;>simp at hh' ad5 ⊢<;>simp[hh',ad5]
 rcases tM with⟨⟨p0,tX⟩,rfl⟩|⟨k,off,c,tX,h1,h2,CM,vs,h3,h4⟩
 .have:m2=0:=by simpa using h2l
  have:m1=0:=by omega
  subst_vars
  refine⟨.slice p0 0 0,?_,?_⟩
  .have hb:=ady 0 (aZ _);simp only[AJ] at hb;cases p0 with
   |none=>simp[execOp,ho,Instr.sliceAt,Instr.slice,run_underlying hT,tX,hb,Go.sizeOf,run_typeInfo w qj]
   |some a0=>simp[execOp,ho,Instr.sliceAt,Instr.slice,run_underlying hT,tX,hb,Go.sizeOf,run_typeInfo w qj]
  .simp only[PE.ev,hd,bu,dA,D.l_list,D.i_int];cases p0 with
   |none=>exact .nil t
   |some a0=>exact .emp t a0
 .refine⟨.slice (some (if c=m1 then⟨k,off,none⟩ else⟨k,off+m1*inf.size,none⟩)) (m2-m1) (c-m1),?_,?_⟩
  .have hb:=ady c h1;simp only[execOp,ho,Option.map_none,Instr.sliceAt,run_underlying hT,tX];simp[run_underlying hT,Instr.slice,hb,Go.sizeOf,run_typeInfo w qj,uK];split<;>simp
  .simp only[PE.ev,hd,bu,dA,D.l_list,D.i_int,xV];have hlen:((xs.take m2).drop m1).length=m2-m1:=by simp;omega
   have dj:∀(i:Nat) (y:D),((xs.take m2).drop m1)[i]?=some y->xs[m1+i]?=some y:=by
        intro i y hy;simp only[gq,fR] at hy;split at hy
        .exact hy
        .cases hy
   have jD:∀(i j:Nat) (v:Value),i<m2-m1->(vs (m1+i)).cells[j]?=some v->V.c k (off+m1*inf.size+i*t.size+j)=some v:=by
        intro i j v hi hj;have:=h4 (m1+i) j v (by omega) hj;rw[kq] at this;rw[hs]
        rwa [<-td] at this
   split
   .rename_i oR;refine .slice t k off (m2-m1) (c-m1) _ (λi=>vs (m1+i)) hlen (by omega) (by omega) (λi y hy=>h3 _ _ (dj i y hy)) (λi j v hi hj=>by omega) CM
   .exact .slice t k (off+m1*inf.size) (m2-m1) (c-m1) _ (λi=>vs (m1+i)) hlen (by omega) (by omega) (λi y hy=>h3 _ _ (dj i y hy)) jD CM
def akl (h:Inv C S O V own hv w0 σ0 A a w)(hC:CtxOK C σ0)(hg:holds gs O=true):∀(xs:List Operand) (r:List Ty×List PE),qZ C S gs xs=some r->
 r.1.length=xs.length/\r.2.length=xs.length/\∀(i:Nat) (t:Ty),r.1[i]?=some t->Rep C.cap V t ((xs.map a.eval).getD i undef) ((PE.evs O r.2).getD i .none):=by
 intro xs
 induction xs with
 |nil=>intro r hr;simp[qZ] at hr;subst hr;exact⟨rfl,rfl,by simp⟩
 |cons x xs ih=>
  intro r hr;simp only[qZ,az,aB] at hr;obtain⟨p,hp,q,hq,rfl⟩:=hr;obtain⟨l1,l2,aK⟩:=ih q hq;refine⟨by simp[l1],by simp[l2],λi t hi=>?_⟩;cases i with
  |zero=>simp at hi;subst hi;simpa [PE.evs] using cB h hC hg hp
  |succ i=>simp at hi;simpa [PE.evs] using aK i t hi
def avD (h:Inv C S O V own hv w0 σ0 A a w)(hC:CtxOK C σ0)(hg:holds gs O=true){fn:Fn}{first caps:Array Operand}{r:Sh×List PI}(hr:Va C S gs dst fn first caps=some r){o:Oper}(ho:o.op=.makeFunc fn first caps):
 eM C S O V hv Z dst a w o r:=by
 unfold Va at hr;split at hr
 case h_2=>cases hr
 rename_i f F2;have Sl:first=#[]:=by simpa using F2
 subst Sl;simp only[az] at hr;obtain⟨cs,cI,p,hp,hr⟩:=hr;cases hb:Ty.subs p.1 cs.caps<;>simp only[hb,zyy,zyx] at hr
 .cases hr
 cases hr;obtain⟨l1,l2,aK⟩:=akl h hC hg _ _ hp;have hl:=Ty.subs_len _ _ hb;refine .dat (v:=.func (.func f) #[] (caps.map a.eval)) ?_ ?_
 .simp[execOp,ho,Instr.makeFunc]
 .simp only[PE.ev];have:caps.map a.eval=(caps.toList.map a.eval).toArray:=by apply uC;rw[vK]
  rw[this];have e1:(caps.toList.map a.eval).length=cs.caps.length:=by rw[ed];omega
  have e2:(PE.evs O p.2).length=cs.caps.length:=by rw[PE.evs_eq,ed];omega
  refine .fn f cs _ _ cI e1 e2 (λi t hi=>?_);obtain⟨s,hs,cJ⟩:=Ty.subs_get _ _ hb i t hi;exact(aK i s hs).sub cJ
def avJ (h:Inv C S O V own hv w0 σ0 A a w)(hC:CtxOK C σ0)(hg:holds gs O=true){x:Operand}{r:Sh×List PI}(hr:Vf C S gs dst x=some r){o:Oper}(ho:o.op=.nilCheck x):
 eM C S O V hv Z dst a w o r:=by
 have ak:∀k off,a.eval x=.pointer (some ⟨k,off,none⟩)->(execOp a.eval o).run C.P w=.ok (.value (a.eval x)) w:=by
  intro k off e;simp[execOp,ho,e]
 unfold Vf at hr;split at hr
 .rename_i t e hu;cases hr;have aV:=cB h hC hg hu;obtain⟨k,off,v,y,aO,bu,bL,jD⟩:=Rep.ref_inv aV;exact .dat (ak k off aO) aV
 .split at hr
  .rename_i t _;obtain⟨hs,fI⟩:=nR h hg t;split at hr
   .rename_i j ver off es;rw[es] at hs;cases hb:Nat.beq ver (S.ver j)<;>simp only[hb,zyy,zyx] at hr
    .cases hr
    cases hr;obtain⟨k,eX,fY⟩:=hs.2 (ay hb);intro O' pf;exact⟨_,_,vE pf,ak k off fY,hs,λ_ _ e=>by cases e⟩
   .rename_i j ver sz off es;rw[es] at hs;cases hb:Nat.beq ver (S.ver j)<;>simp only[hb,zyy,zyx] at hr
    .cases hr
    cases hr;have dU:=hs;obtain⟨k,n,c,ik,i,eX,wy,bO,fY⟩:=hs.2 (ay hb);intro O' pf;exact⟨_,_,vE pf,ak _ _ fY,dU,λ_ _ e=>by cases e⟩
   .cases hr
  .cases hr
def akC {cap:Nat->Option CSig}{t:Ty}{z:Ty×D}{v:Value}(h:sW t=some z)(hz:Av t v=true):Rep cap V z.1 v z.2/\z.1.one=true/\Ty.sub z.1 t=true:=by
 unfold Av at hz;split at hz
 .simp at hz;obtain⟨rfl,rfl⟩:=hz;simp[sW] at h;subst h;exact⟨.int _ 0 (by rename_i k;cases k<;>decide) (by rename_i k;cases k<;>decide),rfl,by simp[Ty.sub,Ty.beq]⟩
 .simp at hz;subst hz;simp[sW] at h;subst h;exact⟨.bool false,rfl,rfl⟩
 .rename_i s;have:s=ByteArray.empty:=by
   have:s.size=0:=by simpa using hz
   cases s with|mk d=>simp[ByteArray.size] at this;subst this;rfl
  subst this;simp[sW] at h;subst h;exact⟨.str _ (by decide),rfl,rfl⟩
 .simp[sW] at h;subst h;exact⟨.nils _,rfl,rfl⟩
 .simp[sW] at h;subst h;refine⟨.mapnil _ _,rfl,?_⟩;simp only[Ty.sub];exact Ty.beq_refl _
 .simp[sW] at h;subst h;exact⟨.fnnil _ _,rfl,by simp only[Ty.sub];exact Ty.beq_refl _⟩
 .cases hz
end
def mapM_some {α β:Type}(f:α->Option β):∀(l:List α) (r:List β),l.mapM f=some r->r.length=l.length/\∀(i:Nat) (x:α),l[i]?=some x->∃y,r[i]?=some y/\f x=some y
 |[],r,h=>by simp at h;subst h;exact⟨rfl,by simp⟩
 |x::l,r,h=>by
  simp only[aaX,Option.bind_eq_bind,az] at h;obtain⟨y,hy,ys,ph,h⟩:=h;cases h;obtain⟨h1,h2⟩:=mapM_some f l ys ph;refine⟨by simp[h1],λi z hi=>?_⟩;cases i with
  |zero=>simp at hi;subst hi;exact⟨y,rfl,hy⟩
  |succ i=>simp at hi;simpa using h2 i z hi
def aax:∀(ts:List Ty) (vs:List Value),D6 ts vs=true->vs.length=ts.length/\∀(i:Nat) (t:Ty),ts[i]?=some t->∃v,vs[i]?=some v/\Av t v=true
 |[],vs,h=>by cases vs<;>simp_all [D6]
 |t::ts,vs,h=>by
  cases vs with
  |nil=>simp[D6] at h
  |cons v vs=>
   simp only[D6,ao] at h;obtain⟨h1,h2⟩:=aax ts vs h.2;refine⟨by simp[h1],λi u hi=>?_⟩;cases i with
   |zero=>simp at hi;subst hi;exact⟨v,rfl,h.1⟩
   |succ i=>simp at hi;simpa using h2 i u hi
def Aw {cap:Nat->Option CSig}{V:Im}{t:Ty}{z:Ty×D}{v:Value}(h:q6 t=some z)(hz:ki t v=true):Rep cap V z.1 v z.2/\Ty.sub z.1 t=true/\z.1.one=t.one:=by
 cases t with
 |agg ts=>
  simp only[q6,aB] at h;obtain⟨zs,nC,rfl⟩:=h;cases v with
  |agg vs=>
   simp only[ki] at hz;obtain⟨l1,h1⟩:=aax ts vs.toList hz;obtain⟨l2,h2⟩:=mapM_some _ _ _ nC;have key:∀(i:Nat) (t:Ty),ts[i]?=some t->∃y v,zs[i]?=some y/\vs.toList[i]?=some v/\Rep cap V y.1 v y.2/\y.1.one=true/\Ty.sub y.1 t=true:=by
      intro i t hi;obtain⟨y,hy,wN⟩:=h2 i t hi;obtain⟨v,hv,iO⟩:=h1 i t hi;obtain⟨g1,g2,g3⟩:=akC (cap:=cap) (V:=V) wN iO;exact⟨y,v,hy,hv,g1,g2,g3⟩
   have cj:∀(ts:List Ty) (zs:List (Ty×D)),zs.length=ts.length->(∀(i:Nat) (t:Ty),ts[i]?=some t->∃y,zs[i]?=some y/\Ty.sub y.1 t=true)->Ty.subs (zs.map (·.1)) ts=true:=by
      intro ts
      induction ts with
      |nil=>intro zs hl _;cases zs<;>simp_all [Ty.subs]
      |cons t ts ih=>
       intro zs hl hh;cases zs with
       |nil=>simp at hl
       |cons z zs=>
        simp only[iz,Ty.subs,ao];refine⟨?_,ih zs (by simpa using hl) λi u hu=>by simpa using hh (i+1) u (by simpa using hu)⟩;obtain⟨y,hy,wN⟩:=hh 0 t rfl;simp at hy;subst hy;exact wN
   refine⟨?_,?_,rfl⟩
   .have:vs=vs.toList.toArray:=by simp
    rw[this];refine .agg _ _ _ (by rw[ed];omega) (by simp) (λi t hi=>?_) (λi t hi=>?_)
    .simp only[cm,aB] at hi;obtain⟨q,hq,rfl⟩:=hi;obtain⟨t',wL⟩:∃t',ts[i]?=some t':=⟨_,aX (by have:=(eL.1 hq).1;omega)⟩
     obtain⟨y,v,hy,hv,g1,g2,g3⟩:=key i t' wL;rw[hq] at hy;cases hy;rw[uU hv,uU (show(zs.map (·.2))[i]?=some q.2 by simp[hq])];exact g1
    .simp only[cm,aB] at hi;obtain⟨q,hq,rfl⟩:=hi;obtain⟨t',wL⟩:∃t',ts[i]?=some t':=⟨_,aX (by have:=(eL.1 hq).1;omega)⟩
     obtain⟨y,v,hy,hv,g1,g2,g3⟩:=key i t' wL;rw[hq] at hy;cases hy;exact g2
   .simp only[Ty.sub];exact cj ts zs l2 λi t hi=>by obtain⟨y,v,hy,hv,g1,g2,g3⟩:=key i t hi;exact⟨y,hy,g3⟩
  |_=>simp[ki] at hz
 |_=>
  obtain⟨g1,g2,g3⟩:=akC (cap:=cap) (V:=V) (by simpa [q6] using h) (by simpa [ki] using hz);exact⟨g1,g3,(Ty.sub_one _ _ g3).1⟩
def alN {a b:ByteArray}(h:(a==b)=true):a=b:=by
 cases a with|mk x=>cases b with|mk y=>
 have:(x==y)=true:=h;rw[eq_of_beq this]
def alO (a:ByteArray):(a==a)=true:=by
 cases a with|mk x=>
 show(x==x)=true;simp
def TN {P:Program}{K:TypeId}{kt:Ty}(hk:nE P K kt=true):
 (∃k k',kt=.int k/\P.underlying K=some (.int k'))\/(kt=.str/\P.underlying K=some .string)\/(kt=.bool/\P.underlying K=some .bool):=by
 unfold nE at hk;split at hk
 .split at hk
  .exact .inl ⟨_,_,rfl,by assumption⟩
  .cases hk
 .split at hk
  .exact .inr (.inl ⟨rfl,by assumption⟩)
  .cases hk
 .split at hk
  .exact .inr (.inr ⟨rfl,by assumption⟩)
  .cases hk
 .cases hk
def aot {cap:Nat->Option CSig}{V:Im}{P:Program}{K:TypeId}{kt:Ty}{desc:TypeDesc}(hk:nE P K kt=true)(hu:P.underlying K=some desc){v:Value}{d:D}(hv:Rep cap V kt v d):
 ∀(es:List MapEntry) (ds:List (D×D)) (i:Nat),ds.length=es.length->(∀(j:Nat) (e:MapEntry) (p:D×D),es[j]?=some e->ds[j]?=some p->Rep cap V kt e.key p.1)->
  (Instr.findNow desc v es i=some none/\∀(j:Nat) (p:D×D),ds[j]?=some p->eQ d p.1=false)\/
  ∃j e p,es[j]?=some e/\ds[j]?=some p/\Instr.findNow desc v es i=some (some (i+j,e.val))/\eQ d p.1=true/\Instr.sameBits 10000 e.key v=true/\∀m q,m<j->ds[m]?=some q->eQ d q.1=false:=by
 have dB:∀(v':Value) (d':D),Rep cap V kt v' d'->Instr.sameNow desc v v'=some (eQ d d')/\(eQ d d'=true->Instr.sameBits 10000 v' v=true):=by
  intro v' d' h';rcases TN hk with⟨k,k',rfl,lY⟩|⟨rfl,lY⟩|⟨rfl,lY⟩
  .rw[hu] at lY;cases lY;obtain⟨n,rfl,rfl,_⟩:=hv.int_inv;obtain⟨m,rfl,rfl,_⟩:=h'.int_inv;refine⟨by simp[Instr.sameNow,eQ,D.cells,ua,vl],λe=>?_⟩;have:n=m:=by simpa [eQ,D.cells,ua,vl] using e
   subst this;simp[Instr.sameBits]
  .rw[hu] at lY;cases lY;obtain⟨n,rfl,rfl,_⟩:=hv.str_inv;obtain⟨m,rfl,rfl,_⟩:=h'.str_inv;refine⟨by simp[Instr.sameNow,eQ,D.cells,ua,vl],λe=>?_⟩;have:n=m:=alN (by simpa [eQ,D.cells,ua,vl] using e);subst this;simpa [Instr.sameBits] using alO n
  .rw[hu] at lY;cases lY;obtain⟨n,rfl,rfl⟩:=hv.bool_inv;obtain⟨m,rfl,rfl⟩:=h'.bool_inv;refine⟨by simp[Instr.sameNow,eQ,D.cells,ua,vl],λe=>?_⟩;have:n=m:=by simpa [eQ,D.cells,ua,vl] using e
   subst this;simp[Instr.sameBits]
 intro es
 induction es with
 |nil=>intro ds i hl _;left;exact⟨rfl,by cases ds<;>simp_all⟩
 |cons e es ih=>
  intro ds i hl aK;cases ds with
  |nil=>simp at hl
  |cons p ds=>
   obtain⟨hs,hb⟩:=dB e.key p.1 (aK 0 e p rfl rfl);cases oV:eQ d p.1 with
   |true=>
    right;rw[oV] at hs;exact⟨0,e,p,rfl,rfl,by simp[Instr.findNow,hs],oV,hb oV,λm q hm=>by omega⟩
   |false=>
    rw[oV] at hs;rcases ih ds (i+1) (by simpa using hl) (λj e' p' he hp=>aK (j+1) e' p' (by simpa using he) (by simpa using hp)) with⟨h1,h2⟩|⟨j,e',p',h1,h2,h3,h4,h5,h6⟩
    .left;refine⟨by simp[Instr.findNow,hs,h1],λj q hq=>?_⟩;cases j with
     |zero=>simp at hq;subst hq;exact oV
     |succ j=>exact h2 j q (by simpa using hq)
    .right;refine⟨j+1,e',p',by simpa using h1,by simpa using h2,?_,h4,h5,λm q hm hq=>?_⟩
     .simp[Instr.findNow,hs,h3];omega
     .cases m with
      |zero=>simp at hq;subst hq;exact oV
      |succ m=>exact h6 m q (by omega) (by simpa using hq)
def TX {d:D}:∀{ds:List (D×D)},(∀(j:Nat) (p:D×D),ds[j]?=some p->eQ d p.1=false)->jq d ds=none
 |[],_=>rfl
 |p::ds,h=>by simp only[jq,h 0 p rfl];exact TX λj q hq=>h (j+1) q (by simpa using hq)
def TY {d:D}:∀{ds:List (D×D)} {j:Nat} {p:D×D},ds[j]?=some p->eQ d p.1=true->(∀(m:Nat) (q:D×D),m<j->ds[m]?=some q->eQ d q.1=false)->jq d ds=some p.2
 |[],j,p,hp,_,_=>by simp at hp
 |x::ds,0,p,hp,hk,_=>by simp at hp;subst hp;simp[jq,hk]
 |x::ds,j+1,p,hp,hk,hm=>by
  simp only[jq,hm 0 x (by omega) rfl];exact TY (j:=j) (by simpa using hp) hk λm q af hq=>hm (m+1) q (by omega) (by simpa using hq)
def Vy {d v:D}:∀{ds:List (D×D)},(∀(j:Nat) (p:D×D),ds[j]?=some p->eQ d p.1=false)->fl d v ds=ds++[(d,v)]
 |[],_=>rfl
 |p::ds,h=>by simp only[fl,h 0 p rfl,xQ,if_false,Jk];rw[Vy λj q hq=>h (j+1) q (by simpa using hq)]
def Vz {d v:D}:∀{ds:List (D×D)} {j:Nat} {p:D×D},ds[j]?=some p->eQ d p.1=true->(∀(m:Nat) (q:D×D),m<j->ds[m]?=some q->eQ d q.1=false)->fl d v ds=ds.set j (d,v)
 |[],j,p,hp,_,_=>by simp at hp
 |x::ds,0,p,hp,hk,_=>by simp at hp;subst hp;simp[fl,hk]
 |x::ds,j+1,p,hp,hk,hm=>by
  simp only[fl,hm 0 x (by omega) rfl,xQ,if_false,List.set_cons_succ];rw[Vz (j:=j) (by simpa using hp) hk λm q af hq=>hm (m+1) q (by omega) (by simpa using hq)]
def afh {P:Program}{K:TypeId}{kt:Ty}(hk:CP P K kt=true):
 ∃k k' e q i,kt=.agg [.int k,.int k']/\P.underlying K=some (.array 2 e)/\P.underlying e=some (.int q)/\P.plainKey e=true/\P.info? e=some i/\P.cellsOf e=1:=by
 unfold CP at hk;split at hk
 case h_2=>cases hk
 rename_i k k';split at hk
 case h_2=>cases hk
 rename_i n e hu;simp only[ao] at hk;obtain⟨⟨⟨h1,h2⟩,h3⟩,h4⟩:=hk;have hn:=ay h1;subst hn;split at h2
 case h_2=>cases h2
 rename_i q hq;split at h4
 case h_2=>cases h4
 rename_i i hi;exact⟨k,k',e,q,i,rfl,hu,hq,h3,hi,ay h4⟩
def Rep.pair_inv {cap:Nat->Option CSig}{V:Im}{k k':IntKind}{v:Value}{d:D}(h:Rep cap V (.agg [.int k,.int k']) v d):∃a b,v=.agg #[.int k a,.int k' b]/\d=.agg [.v (.int k a),.v (.int k' b)]:=by
 generalize ht:Ty.agg [.int k,.int k']=t at h;cases h with
 |agg ts vs ds h1 h2 h ho=>
  cases ht;obtain⟨x,y,rfl⟩:∃x y,vs=[x,y]:=by
   match vs,h1 with
   |[x,y],_=>exact⟨x,y,rfl⟩
  obtain⟨p,q,rfl⟩:∃x y,ds=[x,y]:=by
   match ds,h2 with
   |[x,y],_=>exact⟨x,y,rfl⟩
  obtain⟨a,e1,e2,_⟩:=(h 0 _ rfl).int_inv;obtain⟨b,e3,e4,_⟩:=(h 1 _ rfl).int_inv;simp at e1 e2 e3 e4;subst e1 e2 e3 e4;exact⟨a,b,rfl,rfl⟩
 |_=>cases ht
def axR {P:Program}{K e:TypeId}{q:IntKind}{i:TypeInfo}(hu:P.underlying K=some (.array 2 e))(hq:P.underlying e=some (.int q))(hp:P.plainKey e=true)(hi:P.info? e=some i)(hc:P.cellsOf e=1)(k k':IntKind)(a b c d:Int)(w:World):
 (Op.equal K (.agg #[.int k a,.int k' b]) (.agg #[.int k c,.int k' d])).run P w=.ok (a==c&&b==d) w:=by
 unfold Op.equal;show(Op.equalIn (9999+1) K _ _).run P w=_;rw[run_equalIn_array w 9999 _ _ hu hi,hc];have e0:List.range 2=[0,1]:=rfl;have p0:∀(x y:Value) (w:World),(part e #[x,y] 0).run P w=.ok x w:=λx y w=>run_part_plain w hp rfl;have p1:∀(x y:Value) (w:World),(part e #[x,y] 1).run P w=.ok y w:=λx y w=>run_part_plain w hp rfl;have q0:∀(k:IntKind) (a b:Int) (w:World),(Op.equalIn 9999 e (.int k a) (.int k b)).run P w=.ok (a==b) w:=λk a b w=>run_equalIn_int w 9998 e k q a b hq;rw[e0];simp only[Op.eqItems,Sem.run_bind,PO,Nat.one_mul,p0,p1,Result.andThen_ok,q0];cases a==c
 .simp
 .simp only[Bool.not_true,xQ,if_false,Sem.run_bind,p1,Result.andThen_ok,q0];cases b==d<;>simp
def afg {P:Program}{K:TypeId}{kt:Ty}(hk:wU P K kt=true):nE P K kt=true\/CP P K kt=true:=by
 unfold wU at hk;simpa using hk
def amr {cap:Nat->Option CSig}{V:Im}{P:Program}{K:TypeId}{kt:Ty}(hk:CP P K kt=true){v:Value}{d:D}(hv:Rep cap V kt v d){w:World}{b:Bool}:(Instr.checkKey b 10000 K v).run P w=.ok () w:=by
 obtain⟨k,k',e,q,i,rfl,hu,hq,hp,hi,hc⟩:=afh hk;obtain⟨x,y,rfl,_⟩:=hv.pair_inv;have p0:∀(x y:Value) (w:World),(part e #[x,y] 0).run P w=.ok x w:=λx y w=>run_part_plain w hp rfl;have p1:∀(x y:Value) (w:World),(part e #[x,y] 1).run P w=.ok y w:=λx y w=>run_part_plain w hp rfl
 have c0:∀(m:Nat) (k:IntKind) (n:Int) (w:World),(Instr.checkKey b (m+1) e (.int k n)).run P w=.ok () w:=λm k n w=>by
  simp[Instr.checkKey,run_underlying hq]
 have s0:∀w:World,(Go.sizeOf e).run P w=Result.ok 1 w:=λw=>by rw[run_sizeOf w hi,hc]
 have main:∀m,(Instr.checkKey b (m+1+1) K (.agg #[.int k x,.int k' y])).run P w=.ok () w:=by
  intro m;rw[Instr.checkKey];simp only[Sem.run_bind,run_underlying hu,Result.andThen_ok,Std.Legacy.Range.forIn_eq_forIn_range',Std.Legacy.Range.size,Nat.sub_zero,Nat.add_one_sub_one,Nat.div_one];simp[List.range',s0,p0,p1,c0,Sem.run_bind,Result.andThen_ok]
 exact main 9998
def abW {cap:Nat->Option CSig}{V:Im}{P:Program}{K:TypeId}{kt:Ty}(hk:wU P K kt=true){v:Value}{d:D}(hv:Rep cap V kt v d){w:World}{b:Bool}:(Instr.checkKey b 10000 K v).run P w=.ok () w:=by
 rcases afg hk with hk|hk
 case inr=>exact amr hk hv
 have:∀n,(Instr.checkKey b (n+1) K v).run P w=.ok () w:=by
  intro n;rcases TN hk with⟨k,k',rfl,hu⟩|⟨rfl,hu⟩|⟨rfl,hu⟩<;>cases v<;>simp[Instr.checkKey,run_underlying hu]
 exact this 9999
section
variable {C:Ctx} {S:St} {O:Env} {V:Im} {own:Nat->Option Nat} {hv:Nat->Value} {w0:World} {σ0:Base} {A:Nat->Prop} {a:Act} {w:World} {gs:List (Nat×Bool)} {Z:aT} {dst:Nat}
def atm {P:Program}{K:TypeId}{kt:Ty}(hk:nE P K kt=true):∃desc,P.underlying K=some desc:=by
 rcases TN hk with⟨k,k',rfl,hu⟩|⟨rfl,hu⟩|⟨rfl,hu⟩<;>exact⟨_,hu⟩
def axS {cap:Nat->Option CSig}{P:Program}{K:TypeId}{kt et:Ty}(hk:CP P K kt=true){v:Value}{d:D}(hv:Rep cap V kt v d)(arr:Array MapEntry)(ds:List (D×D))(hl:ds.length=arr.size)
 (aK:∀(j:Nat) (e:MapEntry) (p:D×D),arr[j]?=some e->ds[j]?=some p->Rep cap V kt e.key p.1/\Rep cap V et e.val p.2) (w:World):
 ((Instr.findKey K v arr.toList).run P w=.ok none w/\jq d ds=none/\∀u,fl d u ds=ds++[(d,u)])\/
 ∃j e p,arr[j]?=some e/\ds[j]?=some p/\(Instr.findKey K v arr.toList).run P w=.ok (some (j,e.val)) w/\jq d ds=some p.2/\(∀u,fl d u ds=ds.set j (d,u))/\Instr.sameBits 10000 e.key v=true:=by
 obtain⟨k,k',e,q,i,rfl,hu,hq,hp,hi,hc⟩:=afh hk;have dB:∀(v':Value) (d':D),Rep cap V (.agg [.int k,.int k']) v' d'->(Op.equal K v v').run P w=.ok (eQ d d') w/\(eQ d d'=true->Instr.sameBits 10000 v' v=true)/\Instr.sameNow (.array 2 e) v v'=none:=by
  intro v' d' h';obtain⟨a,b,rfl,rfl⟩:=hv.pair_inv;obtain⟨a',b',rfl,rfl⟩:=h'.pair_inv;refine⟨?_,λhe=>?_,rfl⟩
  .rw[axR hu hq hp hi hc];simp[eQ,D.cells,ua,vl]
  .have:a=a'/\b=b':=by simpa [eQ,D.cells,ua,vl] using he
   obtain⟨rfl,rfl⟩:=this;simp[Instr.sameBits]
 have ask:∀(es:List MapEntry) (ds:List (D×D)) (i:Nat),ds.length=es.length->(∀(j:Nat) (e:MapEntry) (p:D×D),es[j]?=some e->ds[j]?=some p->Rep cap V (.agg [.int k,.int k']) e.key p.1)->
  ((Instr.findAsking K v es i).run P w=.ok none w/\∀(j:Nat) (p:D×D),ds[j]?=some p->eQ d p.1=false)\/
  ∃j e p,es[j]?=some e/\ds[j]?=some p/\(Instr.findAsking K v es i).run P w=.ok (some (i+j,e.val)) w/\eQ d p.1=true/\Instr.sameBits 10000 e.key v=true/\∀m q,m<j->ds[m]?=some q->eQ d q.1=false:=by
  intro es
  induction es with
  |nil=>intro ds i hl _;left;exact⟨by simp[Instr.findAsking],by cases ds<;>simp_all⟩
  |cons en es ih=>
   intro ds i hl aK;cases ds with
   |nil=>simp at hl
   |cons p ds=>
    obtain⟨hs,hb,_⟩:=dB en.key p.1 (aK 0 en p rfl rfl);cases oV:eQ d p.1 with
    |true=>
     right;rw[oV] at hs;exact⟨0,en,p,rfl,rfl,by simp[Instr.findAsking,hs],oV,hb oV,λm q hm=>by omega⟩
    |false=>
     rw[oV] at hs;rcases ih ds (i+1) (by simpa using hl) (λj e' p' he hp=>aK (j+1) e' p' (by simpa using he) (by simpa using hp)) with⟨h1,h2⟩|⟨j,e',p',h1,h2,h3,h4,h5,h6⟩
     .left;refine⟨by simp[Instr.findAsking,hs,h1],λj q hq=>?_⟩;cases j with
      |zero=>simp at hq;subst hq;exact oV
      |succ j=>exact h2 j q (by simpa using hq)
     .right;refine⟨j+1,e',p',by simpa using h1,by simpa using h2,?_,h4,h5,λm q hm hq=>?_⟩
      .simp[Instr.findAsking,hs,h3];omega
      .cases m with
       |zero=>simp at hq;subst hq;exact oV
       |succ m=>exact h6 m q (by omega) (by simpa using hq)
 have lS:(Instr.findKey K v arr.toList).run P w=(Instr.findAsking K v arr.toList 0).run P w:=by
  cases jX:arr.toList with
  |nil=>simp[Instr.findKey,run_underlying hu,Instr.findNow,Instr.findAsking]
  |cons en es=>
   obtain⟨p,Gn⟩:∃p,ds[0]?=some p:=by
        have:0<ds.length:=by rw[hl];have:=congrArg List.length jX;simp at this;omega
        exact⟨_,aX this⟩
   have Sj:arr[0]?=some en:=by rw[<-pO,jX];rfl
   have:=(dB en.key p.1 (aK 0 en p Sj Gn).1).2.2;simp[Instr.findKey,run_underlying hu,Instr.findNow,this]
 rw[lS];rcases ask arr.toList ds 0 (by simpa using hl) (λj e p he hp=>(aK j e p (by simpa using he) hp).1) with⟨h1,h2⟩|⟨j,e,p,h1,h2,h3,h4,h5,h6⟩
 .left;exact⟨h1,TX h2,λu=>Vy h2⟩
 .right;simp only[gu] at h3;exact⟨j,e,p,by simpa using h1,h2,h3,TY h2 h4 h6,λu=>Vz h2 h4 h6,h5⟩
def run_findKey {cap:Nat->Option CSig}{P:Program}{K:TypeId}{kt et:Ty}(ia:wU P K kt=true){v:Value}{d:D}(hv:Rep cap V kt v d)(arr:Array MapEntry)(ds:List (D×D))(hl:ds.length=arr.size)
 (aK:∀(j:Nat) (e:MapEntry) (p:D×D),arr[j]?=some e->ds[j]?=some p->Rep cap V kt e.key p.1/\Rep cap V et e.val p.2) (w:World):
 ((Instr.findKey K v arr.toList).run P w=.ok none w/\jq d ds=none/\∀u,fl d u ds=ds++[(d,u)])\/
 ∃j e p,arr[j]?=some e/\ds[j]?=some p/\(Instr.findKey K v arr.toList).run P w=.ok (some (j,e.val)) w/\jq d ds=some p.2/\(∀u,fl d u ds=ds.set j (d,u))/\Instr.sameBits 10000 e.key v=true:=by
 rcases afg ia with hk|hk
 case inr=>exact axS hk hv arr ds hl aK w
 obtain⟨desc,hu⟩:=atm hk;rcases aot hk hu hv arr.toList ds 0 (by simpa using hl) (λj e p he hp=>(aK j e p (by simpa using he) hp).1) with⟨h1,h2⟩|⟨j,e,p,h1,h2,h3,h4,h5,h6⟩
 .left;exact⟨by simp[Instr.findKey,run_underlying hu,h1],TX h2,λu=>Vy h2⟩
 .right;refine⟨j,e,p,by simpa using h1,h2,?_,TY h2 h4 h6,λu=>Vz h2 h4 h6,h5⟩;simp only[gu] at h3;simp[Instr.findKey,run_underlying hu,h3]
def avI (h:Inv C S O V own hv w0 σ0 A a w)(hC:CtxOK C σ0)(hg:holds gs O=true){T:TypeId}{m k:Operand}{ok:Bool}{r:Sh×List PI}(hr:Ve C S gs dst T m k ok=some r){o:Oper}(ho:o.op=.lookup T m k ok):
 eM C S O V hv Z dst a w o r:=by
 unfold Ve at hr;split at hr
 case h_2=>cases hr
 rename_i K E hT;simp only[az] at hr;obtain⟨p,hp,q,hq,hr⟩:=hr;have aV:=aah h hC hg hp;have dL:=cB h hC hg hq;split at hr
 case h_2=>cases hr
 rename_i kt et e1;rw[e1] at aV;split at hr
 case h_2=>cases hr
 rename_i z inf hz qj;cases hc:(Ty.beq q.1 kt&&wU C.P K kt&&Ty.sub z.1 et&&vI inf et)<;>simp only[hc,zyy,zyx] at hr
 .cases hr
 simp only[ao] at hc;obtain⟨⟨⟨L8,F8⟩,cj⟩,hzero⟩:=hc;rw[Ty.beq_eq _ _ L8] at dL;obtain⟨v0,eG,GL⟩:∃v0,inf.zero=some v0/\Rep C.cap V et v0 z.2:=by
  unfold vI at hzero;split at hzero
  .rename_i v0 e0;exact⟨v0,e0,(Aw hz hzero).1.sub cj⟩
  .cases hzero
 have aqW:∃(arr:Array MapEntry) (ds:List (D×D)),(p.2.ev O).m=ds/\ds.length=arr.size/\
  (∀(j:Nat) (e:MapEntry) (p:D×D),arr[j]?=some e->ds[j]?=some p->Rep C.cap V kt e.key p.1/\Rep C.cap V et e.val p.2)/\
  ((a.eval m=.map none/\arr=#[])\/∃g clock,a.eval m=.map (some g)/\w.heap[g]?=some (.map arr clock)):=by
  rcases aV with aV|⟨T',e,cells,xs,ht,_⟩|⟨g,arr,clock,es,kt',et',ht,hvm,hb,hd,hl,hx,aK⟩
  .generalize zi:a.eval m=v at aV;generalize FT:p.2.ev O=d at aV;cases aV with
   |mapnil=>exact⟨#[],[],by simp[D.m],rfl,by simp,.inl ⟨rfl,rfl⟩⟩
   |map kt et r ix es hm hl hx hk he=>
    obtain⟨arr,clock,hb,jX⟩:=(h.ok.m _ _ hm).mp (G2 hl hk) (agd hl hk);have hn:es.length=arr.size:=by rw[hl,<-jX];simp[entriesOf]
    refine⟨arr,es,by simp[D.m],hn,λj e p hj hp=>?_,.inr ⟨r,clock,rfl,hb⟩⟩;have:ix[j]?=some (e.key,e.val):=by rw[<-jX];simp[entriesOf,hj]
    exact⟨hk j _ p this hp,he j _ p this hp⟩
  .cases ht
  .cases ht;exact⟨arr,es,by rw[hd];rfl,hl,aK,.inr ⟨g,clock,hvm,hb⟩⟩
 obtain⟨arr,ds,hd,hl,aK,cv⟩:=aqW;have jV:∀b,(Instr.checkKey b 10000 K (a.eval k)).run C.P w=.ok () w:=λb=>abW (cap:=C.cap) (V:=V) F8 dL;have SC:∃u b x,(Instr.lookup T (a.eval m) (a.eval k) ok).run C.P w=.ok (if ok then .tuple #[u,.bool b] else u) w/\(jq (q.2.ev O) (p.2.ev O).m).getD z.2=x/\(jq (q.2.ev O) (p.2.ev O).m).isSome=b/\Rep C.cap V et u x:=by
  rw[hd];rcases run_findKey F8 dL arr ds hl aK w with⟨h1,h2,_⟩|⟨j,e,x,h1,h2,h3,h4,_,_⟩
  .refine⟨v0,false,z.2,?_,by rw[h2];rfl,by rw[h2];rfl,GL⟩;rcases cv with⟨em,rfl⟩|⟨g,clock,em,hb⟩
   .simp only[List.toList_toArray] at h1;cases ok<;>simp[Instr.lookup,run_underlying hT,em,jV,h1,zeroValue,run_typeInfo w qj,eG]
   .cases ok<;>simp[Instr.lookup,run_underlying hT,em,getObj,Sem.run,hb,jV,h1,zeroValue,run_typeInfo w qj,eG]
  .refine⟨e.val,true,x.2,?_,by rw[h4];rfl,by rw[h4];rfl,(aK j e x h1 h2).2⟩;rcases cv with⟨em,rfl⟩|⟨g,clock,em,hb⟩
   .simp at h1
   .cases ok<;>simp[Instr.lookup,run_underlying hT,em,getObj,Sem.run,hb,jV,h3]
 obtain⟨u,b,x,ak,lj,zl,bL⟩:=SC;cases ok with
 |true=>
  simp only[zyy] at hr;cases hr;refine .dat (v:=.tuple #[u,.bool b]) (by simp[execOp,ho,ak]) ?_;simp only[PE.ev,PE.evs,lj,zl];refine .tup [et,.bool] [u,.bool b] [x,.v (.bool b)] rfl rfl (λi t hi=>?_)
  match i,hi with
  |0,hi=>simp at hi;subst hi;exact bL
  |1,hi=>simp at hi;subst hi;exact .bool b
  |i+2,hi=>simp at hi
 |false=>
  simp only[zyx] at hr;cases hr;refine .dat (v:=u) (by simp[execOp,ho,ak]) ?_;simp only[PE.ev,lj];exact bL
end
def acV (off:Nat):∀(l:List Value) (s:Nat) (cells:Array Value),off+s+l.length<=cells.size->
 ((l.zipIdx s).foldl (λcs (x:Value×Nat)=>cs.setIfInBounds (off+x.2) x.1) cells).size=cells.size/\
 ∀p,((l.zipIdx s).foldl (λcs (x:Value×Nat)=>cs.setIfInBounds (off+x.2) x.1) cells)[p]?=if off+s<=p/\p<off+s+l.length then l[p-(off+s)]? else cells[p]?
 |[],s,cells,_=>by
  refine⟨rfl,λp=>?_⟩;have:¬(off+s<=p/\p<off+s+0):=by omega
  simp only[List.zipIdx_nil,List.foldl_nil,AJ];rw[if_neg this]
 |v::l,s,cells,h=>by
  simp only[pQ] at h;obtain⟨h1,h2⟩:=acV off l (s+1) (cells.setIfInBounds (off+s) v) (by simp;omega);simp only[List.zipIdx_cons,vP];refine⟨by rw[h1];simp,λp=>?_⟩;rw[h2 p];by_cases hp:p=off+s
  .subst hp;have c1:¬(off+(s+1)<=off+s/\off+s<off+(s+1)+l.length):=by omega
   have c2:off+s<=off+s/\off+s<off+s+(v::l).length:=by simp
   rw[if_neg c1,if_pos c2,D7,if_pos rfl,if_pos (by omega)];simp
  .by_cases hc:off+(s+1)<=p/\p<off+(s+1)+l.length
   .have c2:off+s<=p/\p<off+s+(v::l).length:=by simp only[pQ];omega
    rw[if_pos hc,if_pos c2];rw[show p-(off+s)=(p-(off+(s+1)))+1 by omega];simp
   .have c2:¬(off+s<=p/\p<off+s+(v::l).length):=by simp only[pQ];omega
    rw[if_neg hc,if_neg c2,D7];rw[if_neg (by omega)]
def Ry (place:Nat->Option (Nat×Nat)):∀(parts:List (Nat×Value)) (cells:Array Value),
 (∀p,p∈parts->∃o,place p.1=some (o,p.2.cells.size)/\o+p.2.cells.size<=cells.size)->
 (∀i j oi si oj sj,i≠j->place i=some (oi,si)->place j=some (oj,sj)->oi+si<=oj\/oj+sj<=oi)->(parts.map (·.1)).Nodup->
 ∃dh,Instr.fill place cells parts=some dh/\dh.size=cells.size/\
  (∀i v o,(i,v)∈parts->place i=some (o,v.cells.size)->∀m,m<v.cells.size->dh[o+m]?=v.cells[m]?)/\
  (∀i o s,i∉parts.map (·.1)->place i=some (o,s)->∀m,m<s->dh[o+m]?=cells[o+m]?)
 |[],cells,_,_,_=>⟨cells,rfl,rfl,by simp,λ_ _ _ _ _ _ _=>rfl⟩
 |(i,v)::parts,cells,h,Cl,bp=>by
  obtain⟨o,hp,hle⟩:=h (i,v) (fS ..);simp only at hp hle;obtain⟨g1,g2⟩:=acV o v.cells.toList 0 cells (by simp;omega);simp only[iz,pS] at bp
  have hz:v.cells.zipIdx.foldl (λcs (x:Value×Nat)=>cs.setIfInBounds (o+x.2) x.1) cells=(v.cells.toList.zipIdx 0).foldl (λcs (x:Value×Nat)=>cs.setIfInBounds (o+x.2) x.1) cells:=by
    rw[<-Array.foldl_toList];simp
  generalize hc1:(v.cells.toList.zipIdx 0).foldl (λcs (x:Value×Nat)=>cs.setIfInBounds (o+x.2) x.1) cells=c1 at g1 g2 hz
  obtain⟨dh,k1,k2,k3,k4⟩:=Ry place parts c1 (λp hm=>by
    obtain⟨o',h1,h2⟩:=h p (fw _ hm);exact⟨o',h1,by rw[g1];exact h2⟩) Cl bp.2
  refine⟨dh,?_,k2.trans g1,?_,?_⟩
  .simp only[Instr.fill,hp];have:¬((v.cells.size≠v.cells.size||decide (o+v.cells.size>cells.size))=true):=by simp;omega
   rw[if_neg this];rw[<-k1,<-hz]
  .intro j u o' hm Cz m af;rcases cD.1 hm with e|fH
   .cases e;rw[hp] at Cz;cases Cz;rw[k4 i o v.cells.size bp.1 hp m af,g2];rw[if_pos (by simp;omega)];simp
   .exact k3 j u o' fH Cz m af
  .intro j o' s' qn Cz m af;simp only[iz,cD,not_or] at qn;rw[k4 j o' s' qn.2 Cz m af,g2];have:=Cl i j o v.cells.size o' s' (λe=>qn.1 e.symm) hp Cz;rw[if_neg (by simp;omega)]
section
variable {C:Ctx} {S:St} {O:Env} {V:Im} {own:Nat->Option Nat} {hv:Nat->Value} {w0:World} {σ0:Base} {A:Nat->Prop} {a:Act} {w:World} {gs:List (Nat×Bool)} {Z:aT} {dst:Nat}
def Rep.flat {cap:Nat->Option CSig}{t:Ty}{v:Value}{d:D}(h:Rep cap V t v d)(ht:t.rowT=true\/t.one=true):
 t.flat.length=t.size/\d.cells.length=t.size/\∀(m:Nat) (tm:Ty),t.flat[m]?=some tm->tm.one=true/\Rep cap V tm (v.cells.getD m undef) (d.cells.getD m .none):=by
 cases h with
 |agg ts vs ds h1 h2 h ho=>
  refine⟨rfl,by simp[D.cells,Ty.size,h2],λm tm hm=>⟨ho m tm hm,?_⟩⟩;have:=h m tm hm;simpa [Value.cells,D.cells,fQ,aF] using this
 |tup ts vs ds h1 h2 h=>simp[Ty.rowT,Ty.one] at ht
 |_=>
  refine⟨rfl,rfl,λm tm hm=>?_⟩
  match m,hm with
  |0,hm=>
   simp only[Ty.flat,PA,ba] at hm;subst hm;refine⟨rfl,?_⟩;simp only[Value.cells,D.cells,ri];constructor<;>assumption
  |m+1,hm=>simp[Ty.flat] at hm
def qD:∀{l:List Nat},il l=true->l.Nodup
 |[],_=>List.nodup_nil
 |a::r,h=>by
  simp only[il,ao,kT] at h;refine pS.2 ⟨λhm=>?_,qD h.2⟩;have:=List.any_eq_false.1 h.1 a hm;simp at this
def Laid (P:Program):List Field->Nat->Prop
 |[],_=>True
 |f::fs,off=>f.offset=off/\∃inf,P.info? f.type=some inf/\Laid P fs (off+inf.size)
def Laid.get {P:Program}:∀{fs:List Field} {off:Nat},Laid P fs off->∀(i:Nat) (f:Field),fs[i]?=some f->∃inf,P.info? f.type=some inf/\off<=f.offset/\
 ∀(j:Nat) (g:Field),i<j->fs[j]?=some g->f.offset+inf.size<=g.offset
 |[],_,_,i,f,hi=>by simp at hi
 |f0::fs,off,h,i,f,hi=>by
  obtain⟨h1,inf,h2,h3⟩:=h;cases i with
  |zero=>
   simp at hi;subst hi;refine⟨inf,h2,by omega,λj g hj hg=>?_⟩;cases j with
   |zero=>omega
   |succ j=>obtain⟨_,_,h4,_⟩:=h3.get j g (by simpa using hg);omega
  |succ i=>
   simp at hi;obtain⟨as6,k1,k2,k3⟩:=h3.get i f hi;refine⟨as6,k1,by omega,λj g hj hg=>?_⟩;cases j with
   |zero=>omega
   |succ j=>exact k3 j g (by omega) (by simpa using hg)
def ah4 {ft:Ty}{x:Operand}{y:List AgC×PE}(h:C6 C S gs ft x=some y):y.1.length=ft.size:=by
 have RH:∀t:Ty,t.flat.length=t.size:=λt=>by cases t<;>simp[Ty.flat,Ty.size]
 unfold C6 at h;split at h
 .rename_i a _;cases hs:(Ty.sub a.1 ft&&(a.1.rowT||a.1.one))<;>simp only[hs,zyy,zyx] at h
  .cases h
  cases h;simp only[ao] at hs;rw[ed,RH,(Ty.sub_one _ _ hs.1).2]
 .split at h
  .rename_i j ver _;cases hb:(Nat.beq ver (S.ver j)&&TJ (S.o j)&&Nat.beq ft.size 1)<;>simp only[hb,zyy,zyx] at h
   .cases h
   cases h;simp only[ao] at hb;exact(ay hb.2).symm
  .cases h
def ah5 (h:Inv C S O V own hv w0 σ0 A a w)(hC:CtxOK C σ0)(hg:holds gs O=true){ft:Ty}{x:Operand}{y:List AgC×PE}(hy:C6 C S gs ft x=some y):
 (a.eval x).cells.size=ft.size/\(y.2.ev O).cells.length=ft.size/\∀(m:Nat) (c:AgC),y.1[m]?=some c->nZ C S V hv c ((a.eval x).cells.getD m undef) ((y.2.ev O).cells.getD m .none):=by
 unfold C6 at hy;split at hy
 .rename_i q hq;cases hs:(Ty.sub q.1 ft&&(q.1.rowT||q.1.one))<;>simp only[hs,zyy,zyx] at hy
  .cases hy
  cases hy;simp only[ao,kj] at hs;have hr:=cB h hC hg hq;obtain⟨f1,f2,f3⟩:=hr.flat hs.2;have e:=(Ty.sub_one _ _ hs.1).2;refine⟨by rw[hr.size,e],by rw[f2,e],λm c hm=>?_⟩;simp only[cm,aB] at hm;obtain⟨t,ht,rfl⟩:=hm;exact f3 m t ht
 .split at hy
  .rename_i j ver jZ;cases hb:(Nat.beq ver (S.ver j)&&TJ (S.o j)&&Nat.beq ft.size 1)<;>simp only[hb,zyy,zyx] at hy
   .cases hy
   cases hy;simp only[ao] at hb;obtain⟨⟨gz,df⟩,R7⟩:=hb;have dC:=ay gz;have aI:=ay R7;have dV:aG C S O V hv (gN S gs x) (a.eval x) ((sQ x).ev O):=by
        cases x with
        |tmp t=>exact(nR h hg t).1
        |_=>cases jZ
   rw[jZ] at dV;have aO:=dV.2 dC;have bn:=h.objs j;have hc:(a.eval x).cells=#[a.eval x]:=by
        rw[aO];cases ho:S.o j with
        |row T e=>
         rw[ho] at bn;obtain⟨cells,xs,_,h2,_⟩:=bn;rcases h2.2 with⟨e1,_⟩|⟨g,cap,cur,e1,_⟩<;>rw[e1]<;>rfl
        |_=>rw[ho] at df;cases df
   refine⟨by rw[hc,aI];rfl,by rw[aI];rfl,λm c hm=>?_⟩;cases m with
   |zero=>
    simp at hm;subst hm;rw[hc];exact dV
   |succ m=>simp at hm
  .cases hy
def alV {zs:List Value}{parts:List (Nat×Operand)}:∀(fs:List Field) (i off:Nat) (r:List AgC×List PE),oh C S gs zs parts fs i off=some r->Laid C.P fs off:=by
 intro fs
 induction fs with
 |nil=>intro i off r _;trivial
 |cons f fs ih=>
  intro i off r h;simp only[oh] at h;split at h
  case h_2=>cases h
  rename_i inf ft hi ht;cases hc:(Nat.beq f.offset off&&Nat.beq inf.size ft.size)<;>simp only[hc,zyy,zyx] at h
  .cases h
  simp only[ao] at hc;simp only[az] at h;obtain⟨q,hq,_⟩:=h;exact⟨ay hc.1,inf,hi,ih _ _ _ hq⟩
def abE {zs:List Value}{parts:List (Nat×Operand)}:∀(fs:List Field) (i off:Nat) (r:List AgC×List PE),oh C S gs zs parts fs i off=some r->off<=zs.length:=by
 intro fs
 induction fs with
 |nil=>intro i off r h;simp only[oh] at h;cases hb:Nat.beq off zs.length<;>simp[hb] at h;exact Nat.le_of_eq (ay hb)
 |cons f fs ih=>
  intro i off r h;simp only[oh] at h;split at h
  case h_2=>cases h
  rename_i inf ft hi ht;cases hc:(Nat.beq f.offset off&&Nat.beq inf.size ft.size)<;>simp only[hc,zyy,zyx] at h
  .cases h
  simp only[az] at h;obtain⟨q,hq,_⟩:=h;have:=ih _ _ _ hq;omega
def alU {zs:List Value}{parts:List (Nat×Operand)}:∀(fs:List Field) (i off:Nat) (r:List AgC×List PE),oh C S gs zs parts fs i off=some r->
 ∃ft:List AgC×List PE,r=ft/\(∀(m:Nat) (f:Field) (inf:TypeInfo),fs[m]?=some f->C.P.info? f.type=some inf->f.offset+inf.size<=zs.length)/\(∀(m:Nat) (x:Nat×Operand) (f:Field) (inf:TypeInfo),fs[m]?=some f->C.P.info? f.type=some inf->parts.find? (λp=>Nat.beq p.1 (i+m))=some x->∃y ft,C6 C S gs ft x.2=some y/\ft.size=inf.size)/\off+r.1.length=zs.length:=by
 intro fs
 induction fs with
 |nil=>intro i off r h;simp only[oh] at h;cases hb:Nat.beq off zs.length<;>simp[hb] at h;subst h;exact⟨_,rfl,by simp,by simp,by simpa using ay hb⟩
 |cons f fs ih=>
  intro i off r h;simp only[oh] at h;split at h
  case h_2=>cases h
  rename_i inf ft hi ht;cases hc:(Nat.beq f.offset off&&Nat.beq inf.size ft.size)<;>simp only[hc,zyy,zyx] at h
  .cases h
  simp only[ao] at hc;have jk:=ay hc.1;have aI:=ay hc.2;simp only[az] at h;obtain⟨q,hq,h⟩:=h;have hle:=abE _ _ _ _ hq;obtain⟨_,rfl,k1,k2,k3⟩:=ih _ _ _ hq;have e1:∀(m:Nat) (g:Field) (ig:TypeInfo),(f::fs)[m]?=some g->C.P.info? g.type=some ig->g.offset+ig.size<=zs.length:=by
   intro m g ig hm gB;cases m with
   |zero=>simp at hm;subst hm;rw[hi] at gB;cases gB;omega
   |succ m=>exact k1 m g ig (by simpa using hm) gB
  have RH:∀t:Ty,t.flat.length=t.size:=λt=>by cases t<;>simp[Ty.flat,Ty.size]
  split at h
  .rename_i x hx;simp only[aB] at h;obtain⟨y,hy,rfl⟩:=h;refine⟨_,rfl,e1,λm x' g ig hm gB hf=>?_,?_⟩
   .cases m with
    |zero=>
     simp at hm;subst hm;rw[hi] at gB;cases gB;simp only[iY] at hf;rw[hx] at hf;cases hf;exact⟨y,ft,hy,aI.symm⟩
    |succ m=>exact k2 m x' g ig (by simpa using hm) gB (by rwa [show i+(m+1)=i+1+m by omega] at hf)
   .have:=ah4 hy;simp only[mW];omega
  .rename_i hx;cases nB:ki ft (rowOf ft.rowT ((zs.drop off).take inf.size))<;>simp only[nB,zyy,zyx] at h
   .cases h
   simp only[aB] at h;obtain⟨z,hz,rfl⟩:=h;have cu:=(Aw (cap:=C.cap) (V:=⟨λ_ _=>none,λ_=>none⟩) hz nB).2.1;refine⟨_,rfl,e1,λm x' g ig hm gB hf=>?_,?_⟩
   .cases m with
    |zero=>simp only[iY] at hf;rw[hx] at hf;cases hf
    |succ m=>exact k2 m x' g ig (by simpa using hm) gB (by rwa [show i+(m+1)=i+1+m by omega] at hf)
   .have:=(Ty.sub_one _ _ cu).2;simp only[mW,ed,RH];omega
def alW (h:Inv C S O V own hv w0 σ0 A a w)(hC:CtxOK C σ0)(hg:holds gs O=true){zs:List Value}{parts:List (Nat×Operand)}(cells:Array Value):
 ∀(fs:List Field) (i off:Nat) (r:List AgC×List PE),oh C S gs zs parts fs i off=some r->
  (∀(m:Nat) (f:Field) (inf:TypeInfo),fs[m]?=some f->C.P.info? f.type=some inf->
        (∀x,parts.find? (λp=>Nat.beq p.1 (i+m))=some x->∀q,q<inf.size->cells[f.offset+q]?=(a.eval x.2).cells[q]?)/\
        (parts.find? (λp=>Nat.beq p.1 (i+m))=none->∀q,q<inf.size->cells[f.offset+q]?=zs[f.offset+q]?))->
  (PE.evc O r.2).length=r.1.length/\∀(m:Nat) (c:AgC),r.1[m]?=some c->nZ C S V hv c (cells.getD (off+m) undef) ((PE.evc O r.2).getD m .none):=by
 intro fs
 induction fs with
 |nil=>intro i off r hr _;simp only[oh] at hr;cases hb:Nat.beq off zs.length<;>simp[hb] at hr;subst hr;simp[PE.evc]
 |cons f fs ih=>
  intro i off r hr aK;simp only[oh] at hr;split at hr
  case h_2=>cases hr
  rename_i inf ft hi ht;cases hc:(Nat.beq f.offset off&&Nat.beq inf.size ft.size)<;>simp only[hc,zyy,zyx] at hr
  .cases hr
  simp only[ao] at hc;have jk:=ay hc.1;have aI:=ay hc.2;simp only[az] at hr;obtain⟨q,hq,hr⟩:=hr
  obtain⟨l1,tW⟩:=ih (i+1) (off+inf.size) q hq (λm g as7 hm gB=>by
   have:=aK (m+1) g as7 (by simpa using hm) gB
   rwa [show i+(m+1)=i+1+m by omega] at this)
  obtain⟨hp,hn⟩:=aK 0 f inf rfl hi;have join:∀(l:List AgC) (v:Value) (d:D) (pe:PE),pe.ev O=d->l.length=inf.size->d.cells.length=inf.size->(∀m c,l[m]?=some c->nZ C S V hv c (v.cells.getD m undef) (d.cells.getD m .none))->(∀m,m<inf.size->cells[f.offset+m]?=v.cells[m]?)->
        (PE.evc O (pe::q.2)).length=(l++q.1).length/\∀(m:Nat) (c:AgC),(l++q.1)[m]?=some c->nZ C S V hv c (cells.getD (off+m) undef) ((PE.evc O (pe::q.2)).getD m .none):=by
   intro l v d pe oY f1 f2 f3 aY;simp only[PE.evc,oY];refine⟨by simp[f1,f2,l1],λm t' hm=>?_⟩;rw[mV] at hm;split at hm
   .rename_i af;have g2:=f3 m t' hm;have e1:cells.getD (off+m) undef=v.cells.getD m undef:=by
     rw[fQ,fQ,<-jk,aY m (by omega)]
    have e2:(d.cells++PE.evc O q.2).getD m .none=d.cells.getD m .none:=by
     rw[aF,aF,oc (by omega)]
    rw[e1,e2];exact g2
   .rename_i gZ;have g2:=tW _ t' hm;have e1:off+inf.size+(m-l.length)=off+m:=by omega
    have e2:(d.cells++PE.evc O q.2).getD m .none=(PE.evc O q.2).getD (m-l.length) .none:=by
     rw[aF,aF,od (by omega)];rw[f1,<-f2]
    rw[e1] at g2;rw[e2];exact g2
  simp only[iY] at hp hn;split at hr
  .rename_i x hx;simp only[aB] at hr;obtain⟨y,hy,rfl⟩:=hr;obtain⟨g1,g2,g3⟩:=ah5 h hC hg hy;exact join y.1 (a.eval x.2) (y.2.ev O) y.2 rfl (by rw[ah4 hy,aI]) (by rw[g2,aI]) g3 (hp x hx)
  .rename_i hx;cases nB:ki ft (rowOf ft.rowT ((zs.drop off).take inf.size))<;>simp only[nB,zyy,zyx] at hr
   .cases hr
   simp only[aB] at hr;obtain⟨z,hz,rfl⟩:=hr;obtain⟨k1,k2,k3⟩:=Aw (cap:=C.cap) (V:=V) hz nB;have wB:(rowOf ft.rowT ((zs.drop off).take inf.size)).cells.size=inf.size:=by rw[k1.size,(Ty.sub_one _ _ k2).2,aI]
   have jm:z.1.rowT=true\/z.1.one=true:=by
        cases ft<;>simp[q6,sW] at hz<;>first|(subst hz;simp[Ty.one])|(obtain⟨_,_,rfl⟩:=hz;simp[Ty.rowT])
   obtain⟨z1,z2,z3⟩:=k1.flat jm;have ez:z.1.size=inf.size:=by rw[(Ty.sub_one _ _ k2).2,aI]
   refine join (z.1.flat.map .dat) (rowOf ft.rowT ((zs.drop off).take inf.size)) z.2 (.con z.2) rfl (by rw[ed,z1,ez]) (by rw[z2,ez]) (λm c hm=>?_) (λm hm=>?_)
   .simp only[cm,aB] at hm;obtain⟨t,ht,rfl⟩:=hm;exact z3 m t ht
   .rw[hn hx m hm,jk];cases wF:ft.rowT with
    |true=>simp[rowOf,Value.cells,fR,gq,hm]
    |false=>
     rw[wF] at wB k1;have h1:(z.1).rowT=false:=by
       have:=(Ty.sub_one _ _ k2)
       cases ft<;>simp[Ty.rowT] at wF<;>simp[q6,sW] at hz<;>subst hz<;>rfl
     rw[k1.cells1 h1] at wB ⊢;simp at wB;have hm0:m=0:=by omega
     subst hm0;have:∃u,zs[off]?=some u:=⟨_,aX (show off<zs.length by have:=abE _ _ _ _ hq;omega)⟩
     simp[rowOf,aF,fR,gq,<-wB];obtain⟨u,hu⟩:=this;simp[hu]
def afm {P:Program}:∀(fs:List Field) (off:Nat),Laid P fs off->
 ∃l:List (Nat×Nat),fs.mapM (λf=>(P.info? f.type).map λi=>(f.offset,i.size))=some l/\l.length=fs.length/\
  ∀(i:Nat) (f:Field) (inf:TypeInfo),fs[i]?=some f->P.info? f.type=some inf->l[i]?=some (f.offset,inf.size)
 |[],_,_=>⟨[],rfl,rfl,by simp⟩
 |f::fs,off,h=>by
  obtain⟨h1,inf,h2,h3⟩:=h;obtain⟨l,k1,k2,k3⟩:=afm fs _ h3;refine⟨(f.offset,inf.size)::l,?_,by simp[k2],λi g ig hi gB=>?_⟩
  .simp[aaX,h2,k1]
  .cases i with
   |zero=>simp at hi;subst hi;rw[h2] at gB;cases gB;rfl
   |succ i=>simp at hi;simpa using k3 i g ig hi gB
def acM {parts:List (Nat×Operand)}(bp:(parts.map (·.1)).Nodup){i:Nat}{x:Operand}(h:(i,x)∈parts):parts.find? (λp=>Nat.beq p.1 i)=some (i,x):=by
 induction parts with
 |nil=>cases h
 |cons p ps ih=>
  simp only[iz,pS] at bp;rcases cD.1 h with e|hm
  .subst e;simp
  .have:¬p.1=i:=λe=>bp.1 (e▸AL (f:=(·.1)) hm);rw[List.find?_cons_of_neg (by simpa using this)];exact ih bp.2 hm
def avy (h:Inv C S O V own hv w0 σ0 A a w)(hC:CtxOK C σ0)(hg:holds gs O=true){T:TypeId}{ps:Array (Nat×Operand)}{r:Sh×List PI}(hr:U5 C S gs dst T ps.toList=some r){o:Oper}(ho:o.op=.build T ps):
 eM C S O V hv Z dst a w o r:=by
 unfold U5 at hr;split at hr
 case h_3=>cases hr
 case h_2=>
  rename_i n e inf hT qj;split at hr
  case h_2=>cases hr
  rename_i zs ie hz hie;split at hr
  case h_2=>cases hr
  rename_i x y tT;simp only[az] at hr;obtain⟨p,hp,q,hq,hr⟩:=hr;split at hr
  case h_2=>cases hr
  rename_i k k' hk bf;cases hc:(Nat.beq n 2&&Nat.beq zs.size 2&&Nat.beq ie.size 1)<;>simp only[hc,zyy,zyx] at hr
  .cases hr
  cases hr;simp only[ao] at hc;obtain⟨⟨c1,c2⟩,c3⟩:=hc;have c1:=ay c1;have c2:=ay c2;have c3:=ay c3;subst c1;have hx:=cB h hC hg hp;have hy:=cB h hC hg hq;rw[hk] at hx;rw[bf] at hy;obtain⟨a1,Rm,ea2,_⟩:=hx.int_inv;obtain⟨b1,Rn,eb2,_⟩:=hy.int_inv;have ar8:ps=#[(0,x),(1,y)]:=by rw[<-vJ];exact tT
  obtain⟨z0,z1,rfl⟩:∃z0 z1,zs=#[z0,z1]:=by
   match zs,c2 with
   |⟨[z0,z1]⟩,_=>exact⟨z0,z1,rfl⟩
  have Sa:C.P.built T [(0,a.eval x),(1,a.eval y)]=some #[a.eval x,a.eval y]:=by
   rw[Rm,Rn];simp only[Program.built,qj,hT,hz,hie,c3];simp[Instr.fill,Value.cells]
  have ak:(execOp a.eval o).run C.P w=.ok (.value (.agg #[a.eval x,a.eval y])) w:=by
   have:=run_build (P:=C.P) w T (ps.map λ(x:Nat×Operand)=>(x.1,a.eval x.2)) #[a.eval x,a.eval y] (by rw[ar8];simpa using Sa);simp[execOp,ho,this]
  refine .dat ak ?_;have e1:(PE.mk [p.2,q.2]).ev O=.agg [p.2.ev O,q.2.ev O]:=by simp[PE.ev,PE.evc,ea2,eb2,D.cells]
  rw[e1];refine .agg _ [a.eval x,a.eval y] _ rfl rfl (λi t hi=>?_) (λi t hi=>?_)
  .match i,hi with
   |0,hi=>simp at hi;subst hi;rw[hk];simpa using hx
   |1,hi=>simp at hi;subst hi;rw[bf];simpa using hy
   |i+2,hi=>simp at hi
  .match i,hi with
   |0,hi=>simp at hi;subst hi;rw[hk];rfl
   |1,hi=>simp at hi;subst hi;rw[bf];rfl
   |i+2,hi=>simp at hi
 rename_i fs inf hT qj;split at hr
 case h_2=>cases hr
 rename_i zs hz;cases hc:(il (ps.toList.map (·.1))&&ps.toList.all (λp=>Nat.blt p.1 fs.size))<;>simp only[hc,zyy,zyx] at hr
 .cases hr
 simp only[ao] at hc;obtain⟨bp,af⟩:=hc;simp only[aB] at hr;obtain⟨q,hq,rfl⟩:=hr;have L9:=alV _ _ _ _ hq;have nw:=qD bp;obtain⟨_,rfl,bO,asO,Sk⟩:=alU _ _ _ _ hq;obtain⟨pl,fK,aHi,Gq⟩:=afm _ _ L9
 have kK:∀p,p∈(ps.toList.map λ(x:Nat×Operand)=>(x.1,a.eval x.2))->∃o,pl.toArray[p.1]?=some (o,p.2.cells.size)/\o+p.2.cells.size<=zs.size:=by
  intro p hp;obtain⟨x,hx,rfl⟩:=bY.1 hp;have zm:x.1<fs.toList.length:=by
   have:=cQ.1 af x hx;have h2:x.1<fs.size:=by simpa [pU] using this
   simpa using h2
  obtain⟨f,hf⟩:∃f,fs.toList[x.1]?=some f:=⟨_,aX zm⟩
  obtain⟨ig,gB,_,_⟩:=L9.get _ _ hf;have F1:=acM nw (i:=x.1) (x:=x.2) hx;obtain⟨y,ft,hy,aI⟩:=asO x.1 (x.1,x.2) f ig hf gB (by simpa using F1);have wG:=(ah5 h hC hg hy).1;rw[aI] at wG;simp only;refine⟨f.offset,?_,?_⟩
  .rw[wG];simpa using Gq x.1 f ig hf gB
  .rw[wG];simpa using bO x.1 f ig hf gB
 have Cl:∀(i j oi si oj sj:Nat),i≠j->pl.toArray[i]?=some (oi,si)->pl.toArray[j]?=some (oj,sj)->oi+si<=oj\/oj+sj<=oi:=by
  intro i j oi si oj sj au hi hj;simp only[xY] at hi hj;obtain⟨f,hf⟩:∃f,fs.toList[i]?=some f:=⟨_,aX (by have:=(eL.1 hi).1;omega)⟩
  obtain⟨g,yW⟩:∃g,fs.toList[j]?=some g:=⟨_,aX (by have:=(eL.1 hj).1;omega)⟩
  obtain⟨ig,gB,_,arD⟩:=L9.get _ _ hf;obtain⟨jg,hjg,_,arE⟩:=L9.get _ _ yW;rw[Gq i f ig hf gB] at hi;rw[Gq j g jg yW hjg] at hj;cases hi;cases hj;rcases Jq i j with af|gZ
  .exact .inl (arD j g af yW)
  .exact .inr (arE i f (by omega) hf)
 obtain⟨dh,f1,f2,f3,f4⟩:=Ry (pl.toArray[·]?) (ps.toList.map λ(x:Nat×Operand)=>(x.1,a.eval x.2)) zs kK Cl (by simpa [Jg] using nw)
 have Sa:C.P.built T (ps.toList.map λ(x:Nat×Operand)=>(x.1,a.eval x.2))=some dh:=by
  simp only[Program.built,qj,hT,hz,fK];exact f1
 have ak:(execOp a.eval o).run C.P w=.ok (.value (.agg dh)) w:=by
  have:=run_build (P:=C.P) w T (ps.map λ(x:Nat×Operand)=>(x.1,a.eval x.2)) dh (by rw[vK];exact Sa);simp[execOp,ho,this]
 have yS:∀(m:Nat) (f:Field) (ig:TypeInfo),fs.toList[m]?=some f->C.P.info? f.type=some ig->
  (∀x,ps.toList.find? (λp=>Nat.beq p.1 (0+m))=some x->∀q,q<ig.size->dh[f.offset+q]?=(a.eval x.2).cells[q]?)/\
  (ps.toList.find? (λp=>Nat.beq p.1 (0+m))=none->∀q,q<ig.size->dh[f.offset+q]?=zs.toList[f.offset+q]?):=by
  intro m f ig hm gB;refine⟨λx hx p hp=>?_,λhx p hp=>?_⟩
  .have lj:x.1=m:=by have:=Pz hx;simpa using this
   have CK:(x.1,a.eval x.2)∈(ps.toList.map λ(x:Nat×Operand)=>(x.1,a.eval x.2)):=bY.2 ⟨x,Eh hx,rfl⟩;obtain⟨o',ji,hle⟩:=kK _ CK;simp only at ji hle;have aeq:=Gq m f ig hm gB;simp only[xY,lj] at ji;rw[aeq] at ji;simp only[ba,pW] at ji;obtain⟨e1,e2⟩:=ji;exact f3 x.1 (a.eval x.2) f.offset CK (by simp[lj,aeq,<-e2]) p (by omega)
  .have qn:m∉(ps.toList.map λ(x:Nat×Operand)=>(x.1,a.eval x.2)).map (·.1):=by
        intro cY;simp only[oe,bY,Jg] at cY;obtain⟨x,CK,e⟩:=cY;have:=xX.1 hx x CK;simp[e] at this
   rw[f4 m f.offset ig.size qn (by simpa using Gq m f ig hm gB) p hp];simp
 obtain⟨l1,aK⟩:=alW h hC hg dh _ _ _ _ hq yS;have Cj:dh=dh.toList.toArray:=by simp
 have hlen:dh.toList.length=q.1.length:=by simp[f2] at Sk ⊢;omega
 have uZ:∀(i:Nat) (c:AgC),q.1[i]?=some c->nZ C S V hv c (dh.toList.getD i undef) ((PE.evc O q.2).getD i .none):=λi c hi=>by
  have:=aK i c hi;simpa [fQ,aF] using this
 cases Sf:q.1.all ae1
 .simp only[zyx];exact λO' qt=>⟨_,_,vE qt,ak,⟨dh.toList,PE.evc O q.2,by rw[<-Cj],by simp only[PE.ev],hlen,l1,uZ⟩,λ_ _ e=>by cases e⟩
 .simp only[zyy];refine .dat ak ?_;simp only[PE.ev];rw[Cj]
  have rV:∀(i:Nat) (t:Ty),(q.1.map AgC.ty)[i]?=some t->t.one=true/\Rep C.cap V t (dh.toList.getD i undef) ((PE.evc O q.2).getD i .none):=λi t hi=>by
   simp only[cm,aB] at hi;obtain⟨c,hc,rfl⟩:=hi;have h1:=uZ i c hc;have h2:=cQ.1 Sf c (ko hc);cases c with
   |dat t=>exact h1
   |obj j ver=>cases h2
  exact .agg _ _ _ (by rw[ed];exact hlen) (by rw[ed];exact l1) (λi t hi=>(rV i t hi).2) (λi t hi=>(rV i t hi).1)
end
end Cx
