/-
  Shared texts of this claim.
-/
import Derived.Test.YtipjidjopglknaaGreatDoorMAA
import Derived.ChangeKeysEq
import Derived.Laws.Tables
set_option linter.defProp false
set_option linter.unusedSimpArgs false
set_option linter.unusedVariables false
namespace Cx
open Go Go.RowKit
def Rep.int_inv {cap:Nat->Option CSig}{V:Im}{k:IntKind}{v:Value}{d:D}(h:Rep cap V (.int k) v d):∃n,v=.int k n/\d=.v (.int k n)/\k.min<=n/\n<=k.max:=by
 cases h with
 |int k n h1 h2=>exact⟨n,rfl,rfl,h1,h2⟩
def Rep.bool_inv {cap:Nat->Option CSig}{V:Im}{v:Value}{d:D}(h:Rep cap V .bool v d):∃b,v=.bool b/\d=.v (.bool b):=by
 cases h with
 |bool b=>exact⟨b,rfl,rfl⟩
def Rep.str_inv {cap:Nat->Option CSig}{V:Im}{v:Value}{d:D}(h:Rep cap V .str v d):∃s,v=.string s/\d=.v (.string s)/\s.size<=maxLen:=by
 cases h with
 |str s h=>exact⟨s,rfl,rfl,h⟩
def Rep.slice_inv {cap:Nat->Option CSig}{V:Im}{e:Ty}{v:Value}{d:D}(h:Rep cap V (.slice e) v d):∃xs,d=.list xs/\
 (((∃p,v=.slice p 0 0)/\xs=[])\/∃k o c,v=.slice (some ⟨k,o,none⟩) xs.length c/\xs.length<=c/\c<=maxLen/\
   ∃vs:Nat->Value,(∀(i:Nat) (x:D),xs[i]?=some x->Rep cap V e.unf (vs i) x)/\∀(i j:Nat) (u:Value),i<xs.length->(vs i).cells[j]?=some u->V.c k (o+i*e.size+j)=some u):=by
 cases h with
 |nil e=>exact⟨[],rfl,.inl ⟨⟨_,rfl⟩,rfl⟩⟩
 |emp e a=>exact⟨[],rfl,.inl ⟨⟨_,rfl⟩,rfl⟩⟩
 |slice e k o n c xs vs hn hc hm h hv hz=>subst hn;exact⟨xs,rfl,.inr ⟨k,o,c,rfl,hc,hm,vs,h,hv⟩⟩
def Rep.slice_inv' {cap:Nat->Option CSig}{V:Im}{e:Ty}{v:Value}{d:D}(h:Rep cap V (.slice e) v d):∃xs,d=.list xs/\
 (((∃p,v=.slice p 0 0)/\xs=[])\/∃k o c,v=.slice (some ⟨k,o,none⟩) xs.length c/\xs.length<=c/\c<=maxLen/\(e=.int .i64->V.m k=some iV)/\
   ∃vs:Nat->Value,(∀(i:Nat) (x:D),xs[i]?=some x->Rep cap V e.unf (vs i) x)/\∀(i j:Nat) (u:Value),i<xs.length->(vs i).cells[j]?=some u->V.c k (o+i*e.size+j)=some u):=by
 cases h with
 |nil e=>exact⟨[],rfl,.inl ⟨⟨_,rfl⟩,rfl⟩⟩
 |emp e a=>exact⟨[],rfl,.inl ⟨⟨_,rfl⟩,rfl⟩⟩
 |slice e k o n c xs vs hn hc hm h hv hz=>subst hn;exact⟨xs,rfl,.inr ⟨k,o,c,rfl,hc,hm,hz,vs,h,hv⟩⟩
def Rep.ref_inv {cap:Nat->Option CSig}{V:Im}{t:Ty}{v:Value}{d:D}(h:Rep cap V (.ref t) v d):∃k o x y,v=.pointer (some ⟨k,o,none⟩)/\d=.ref y/\Rep cap V t x y/\∀(j:Nat) (u:Value),x.cells[j]?=some u->V.c k (o+j)=some u:=by
 cases h with
 |ref t k o x y h hv=>exact⟨k,o,x,y,rfl,rfl,h,hv⟩
def Rep.agg_inv {cap:Nat->Option CSig}{V:Im}{ts:List Ty}{v:Value}{d:D}(h:Rep cap V (.agg ts) v d):∃(vs:List Value) (ds:List D),v=.agg vs.toArray/\d=.agg ds/\vs.length=ts.length/\ds.length=ts.length/\
 (∀(i:Nat) (t:Ty),ts[i]?=some t->Rep cap V t (vs.getD i undef) (ds.getD i .none))/\∀(i:Nat) (t:Ty),ts[i]?=some t->t.one=true:=by
 cases h with
 |agg ts vs ds h1 h2 h ho=>exact⟨vs,ds,rfl,rfl,h1,h2,h,ho⟩
def Rep.tup_inv {cap:Nat->Option CSig}{V:Im}{ts:List Ty}{v:Value}{d:D}(h:Rep cap V (.tup ts) v d):∃(vs:List Value) (ds:List D),v=.tuple vs.toArray/\d=.tup ds/\vs.length=ts.length/\ds.length=ts.length/\
 (∀(i:Nat) (t:Ty),ts[i]?=some t->Rep cap V t (vs.getD i undef) (ds.getD i .none)):=by
 cases h with
 |tup ts vs ds h1 h2 h=>exact⟨vs,ds,rfl,rfl,h1,h2,h⟩
def tH (k:IntKind)(n:Int):k.min<=k.wrap n/\k.wrap n<=k.max:=by
 cases k<;>simp only[IntKind.min,IntKind.max,IntKind.wrap,IntKind.signed,IntKind.bits]<;>simp<;>(try split)<;>omega
def ajo (k:IntKind){a b:Int}(ha:k.min<=a/\a<=k.max):k.min<=a.tmod b/\a.tmod b<=k.max:=by
 have h1:k.min<=0:=by cases k<;>decide
 have h2:0<=k.max:=by cases k<;>decide
 have hn:(a.tmod b).natAbs<=a.natAbs:=by rw[Int.natAbs_tmod];exact Nat.mod_le _ _
 rcases Int.le_total 0 a with h|h
 .have:=Int.tmod_nonneg b h;omega
 .have:a.tmod b<=0:=by
   have:=Int.tmod_nonneg b (a:=-a) (by omega);rw[Int.neg_tmod] at this;omega
  omega
def abA (k:IntKind){a:Int}(n:Nat)(ha:k.min<=a/\a<=k.max):k.min<=a.fdiv (2^n)/\a.fdiv (2^n)<=k.max:=by
 have h1:k.min<=0:=by cases k<;>decide
 have h2:0<=k.max:=by cases k<;>decide
 have hp:(0:Int)<2^n:=Int.pow_pos (by decide);rw[aln _ (by omega)];rcases Int.le_total 0 a with h|h
 .have h3:=Int.ediv_nonneg h (by omega:(0:Int)<=2^n);have h4:=Int.ediv_le_self (b:=2^n) h;omega
 .have h3:a/2^n<=0:=by
   have:=Int.ediv_le_ediv hp h;simpa using this
  have h4:a<=a/2^n:=by
   rw[Int.le_ediv_iff_mul_le hp];have:a*2^n<=a*1:=Int.mul_le_mul_of_nonpos_left h (by omega);omega
  omega
section
variable {C:Ctx} {S:St} {O:Env} {V:Im} {own:Nat->Option Nat} {hv:Nat->Value} {w0:World} {σ0:Base} {A:Nat->Prop} {a:Act} {w:World} {gs:List (Nat×Bool)} {Z:aQ} {dst:Nat}
def vh {e:PE}{O':Env}(h:PI.runs Z [.setR dst e] O=some O'):O'=O.setR dst (e.ev O):=by
 simp[PI.runs,PI.run] at h;exact h.symm
def Ws (hg:holds gs O=true){c e:PE}{O':Env}(h:PI.runs Z [sk gs c,.setR dst e] O=some O'):(c.ev O).b=true/\O'=O.setR dst (e.ev O):=by
 simp only[PI.runs,PI.run,sk] at h;cases eG:gs with
 |nil=>
  subst eG;simp only at h;cases hb:(c.ev O).b<;>simp[hb] at h;exact⟨rfl,h.symm⟩
 |cons g r=>
  rw[eG] at h;simp only at h;rw[eG] at hg;cases hb:(c.ev O).b
  .simp[PE.ev,hg,hb,D.b_bool] at h
  .simp[PE.ev,hg,hb,D.b_bool] at h;exact⟨rfl,h.symm⟩
def fe (C:Ctx)(S:St)(O:Env)(V:Im)(hv:Nat->Value)(Z:aQ)(dst:Nat)(a:Act)(w:World)(o:Oper)(r:Sh×List PI):Prop:=
 ∀O',PI.runs Z r.2 O=some O'->∃v d,O'=O.setR dst d/\(execOp a.eval o).run C.P w=.ok (.value v) w/\aI C S O V hv r.1 v d/\∀gs s,r.1≠.opt gs s
def fe.dat {o:Oper}{t:Ty}{e:PE}{v:Value}(hx:(execOp a.eval o).run C.P w=.ok (.value v) w)(hr:Rep C.cap V t v (e.ev O)):
 fe C S O V hv Z dst a w o (.dat t,[.setR dst e]):=by
 intro O' h;exact⟨v,e.ev O,vh h,hx,hr,λ_ _ e=>by cases e⟩
def fe.datc (hg:holds gs O=true){o:Oper}{t:Ty}{c e:PE}(hx:(c.ev O).b=true->∃v,(execOp a.eval o).run C.P w=.ok (.value v) w/\Rep C.cap V t v (e.ev O)):
 fe C S O V hv Z dst a w o (.dat t,[sk gs c,.setR dst e]):=by
 intro O' h;obtain⟨hb,he⟩:=Ws hg h;obtain⟨v,h1,h2⟩:=hx hb;exact⟨v,e.ev O,he,h1,h2,λ_ _ e=>by cases e⟩
def agY (h:Inv C S O V own hv w0 σ0 A a w)(hC:CtxOK C σ0)(hg:holds gs O=true){x:Operand}{r:Sh×List PI}(hr:rz C S gs dst x=some r){o:Oper}(ho:o.op=.move x\/o.op=.assign x):
 fe C S O V hv Z dst a w o r:=by
 have hx:(execOp a.eval o).run C.P w=.ok (.value (a.eval x)) w:=by rcases ho with ho|ho<;>simp[execOp,ho,Sem.run,pure]
 unfold rz at hr;split at hr
 .rename_i y hy;cases hr;exact .dat hx (cK h hC hg hy)
 .split at hr
  .rename_i t _;obtain⟨hs,hn⟩:=nF h hg t;split at hr
   .cases hr
   .cases hr
   .cases hr;intro O' h';exact⟨_,_,vh h',hx,hs,hn⟩
  .cases hr
def awD (h:Inv C S O V own hv w0 σ0 A a w)(hC:CtxOK C σ0)(hg:holds gs O=true){c x y:Operand}{r:Sh×List PI}(hr:C7 C S gs dst c x y=some r){o:Oper}(ho:o.op=.pick c x y):
 fe C S O V hv Z dst a w o r:=by
 unfold C7 at hr;split at hr
 .rename_i t;split at hr
  .rename_i es;obtain⟨hs,_⟩:=nF h hg t;rw[es] at hs;obtain⟨b,aV,bA⟩:=Rep.bool_inv hs;simp only[ay] at hr;obtain⟨q1,h1,q2,h2,hr⟩:=hr;cases hb:Ty.beq q1.1 q2.1<;>simp only[hb,zyy,zyx] at hr
   .cases hr
   .cases hr;have e2:=Ty.beq_eq _ _ hb;have ar:(execOp a.eval o).run C.P w=.ok (.value (if b then a.eval x else a.eval y)) w:=by
     have:a.eval (.tmp t)=.bool b:=aV;simp[execOp,ho,this,asBool,Sem.run,pure,bind,Sem.bind]
    refine .dat ar ?_;show Rep C.cap V q1.1 _ (bif (O.r t).b then q1.2.ev O else q2.2.ev O);have dR:(O.r t).b=b:=by rw[bA];rfl
    cases b with
    |true=>
     simp only[dR,zyy,if_true];exact cK h hC (by simp only[holds,rW,dR];exact hg) h1
    |false=>
     simp only[dR,zyx];rw[e2];exact cK h hC (by simp only[holds,rW,dR];exact hg) h2
  .cases hr
 .cases hr
def Ot {op:BinOp}{T T':TypeId}{x y:Operand}{v v':Value}{o:Oper}(ho:o.op=.binOp op T x y T')(hv:a.eval x=v)(hv':a.eval y=v')(h1:∀u,v≠.agg u)(h2:v≠.nilIface):
 (execOp a.eval o).run C.P w=((binOp op T v v').bind λr=>.pure (.value r)).run C.P w:=by
 have he:eqGuard op T x y v v'=.pure ():=by
  cases v<;>first|(exact absurd rfl h2)|(exact absurd rfl (h1 _))|(cases op<;>simp[eqGuard]<;>rfl)
 simp only[execOp,ho,hv,hv',he];rfl
def abu {P:Program}{cap:Nat->Option CSig}{V:Im}{O:Env}{x y:PE}(w:World)(d:Nat){t:Ty}{T:TypeId}{v u:Value}{e:PE}(hk:nq P T t=true)(he:yB t x y=some e)(g1:Rep cap V t v (x.ev O))(g2:Rep cap V t u (y.ev O)):
 ∃b,e.ev O=.v (.bool b)/\(Op.equalIn (d+1) T v u).run P w=.ok b w:=by
 cases t with
 |int k=>
  obtain⟨n,v1,d1,_⟩:=g1.int_inv;obtain⟨m,v2,d2,_⟩:=g2.int_inv;simp only[yB,aX] at he;subst he;have hu:∃k',P.underlying T=some (.int k'):=by
   simp only[nq] at hk;split at hk
   .exact⟨_,by assumption⟩
   .cases hk
  obtain⟨k',hu⟩:=hu;exact⟨n==m,by simp only[PE.ev,d1,d2];rfl,by rw[v1,v2];exact run_equalIn_int w d T k k' n m hu⟩
 |bool=>
  obtain⟨n,v1,d1⟩:=g1.bool_inv;obtain⟨m,v2,d2⟩:=g2.bool_inv;simp only[yB,aX] at he;subst he;have hu:P.underlying T=some .bool:=by
   simp only[nq] at hk;split at hk
   .assumption
   .cases hk
  exact⟨n==m,by simp only[PE.ev,d1,d2];rfl,by rw[v1,v2];exact run_equalIn_bool' w d T n m hu⟩
 |str=>
  obtain⟨n,v1,d1,_⟩:=g1.str_inv;obtain⟨m,v2,d2,_⟩:=g2.str_inv;simp only[yB,aX] at he;subst he;have hu:P.underlying T=some .string:=by
   simp only[nq] at hk;split at hk
   .assumption
   .cases hk
  exact⟨n.toList==m.toList,by simp only[PE.ev,d1,d2];rfl,by rw[v1,v2];exact run_equalIn_string w d T n m hu⟩
 |_=>simp[yB] at he
def aoJ {P:Program}{cap:Nat->Option CSig}{V:Im}{O:Env}{x y:PE}{X Y:List D}(w:World)(hx:x.ev O=.agg X)(hy:y.ev O=.agg Y){vs us:List Value}(b d:Nat):
 ∀(fs:List Field) (i:Nat) (ts:List Ty) (e:PE),yz P x y b fs i ts=some e->(∀j t,ts[j]?=some t->Rep cap V t (vs.getD (i+j) undef) (X.getD (b+i+j) .none)/\Rep cap V t (us.getD (i+j) undef) (Y.getD (b+i+j) .none))->
  i+ts.length<=vs.length->i+ts.length<=us.length->
  ∃b,e.ev O=.v (.bool b)/\(Op.eqFields (d+1) vs.toArray us.toArray fs).run P w=.ok b w:=by
 intro fs
 induction fs with
 |nil=>
  intro i ts e h _ _ _;cases ts with
  |nil=>simp only[yz,aX] at h;subst h;exact⟨true,rfl,rfl⟩
  |cons t ts=>simp[yz] at h
 |cons f fs ih=>
  intro i ts e h hr l1 l2;cases ts with
  |nil=>simp[yz] at h
  |cons t ts=>
   simp only[yz] at h;cases hc:((f.name != "_")&&Nat.beq f.offset i&&nq P f.type t&&P.plainKey f.type)<;>simp only[hc,zyy,zyx] at h
   .cases h
   simp only[au,bne_iff_ne,ne_eq] at hc;obtain⟨⟨⟨hn,ho⟩,hk⟩,hp⟩:=hc;have ho:=aC ho;simp only[ay,aD] at h;obtain⟨e1,kr,r,nl,rfl⟩:=h
   obtain⟨b2,cB,Gr⟩:=ih (i+1) ts r nl (λj t hj=>by
        have:=hr (j+1) t (by simpa using hj)
        rwa [show i+(j+1)=i+1+j by omega,show b+i+(j+1)=b+(i+1)+j by omega] at this) (by simp at l1;omega) (by simp at l2;omega)
   obtain⟨g1,g2⟩:=hr 0 t rfl;rw[jA,jA] at g1 g2;simp only[mY] at l1 l2;have wP:vs.toArray[f.offset]?=some (vs.getD i undef):=by rw[ho];simp[aK,show i<vs.length by omega]
   have SP:us.toArray[f.offset]?=some (us.getD i undef):=by rw[ho];simp[aK,show i<us.length by omega]
   have p1:=run_part_plain (P:=P) (w:=w) hp wP;have p2:=run_part_plain (P:=P) (w:=w) hp SP;have ex:(PE.cell x (b+i)).ev O=X.getD (b+i) .none:=by simp only[PE.ev,hx];rfl
   have ey:(PE.cell y (b+i)).ev O=Y.getD (b+i) .none:=by simp only[PE.ev,hy];rfl
   obtain⟨b1,eP,pH⟩:=abu (P:=P) w d (O:=O) hk kr (by rw[ex];exact g1) (by rw[ey];exact g2);refine⟨b1&&b2,by simp only[PE.ev,eP,cB];rfl,?_⟩;simp only[Op.eqFields,if_pos hn,Sem.run_bind,p1,p2,pH,Result.andThen_ok];cases b1
   .rfl
   .simpa using Gr
def aoI {P:Program}{cap:Nat->Option CSig}{V:Im}{O:Env}{x y:PE}{X Y:List D}(w:World)(hx:x.ev O=.agg X)(hy:y.ev O=.agg Y){vs us:List Value}(d:Nat):
 ∀(fs:List Field) (i:Nat) (ts:List Ty) (e:PE),yA P x y fs i ts=some e->(∀j t,ts[j]?=some t->Rep cap V t (vs.getD (i+j) undef) (X.getD (i+j) .none)/\Rep cap V t (us.getD (i+j) undef) (Y.getD (i+j) .none))->
  i+ts.length<=vs.length->i+ts.length<=us.length->
  ∃b,e.ev O=.v (.bool b)/\(Op.eqFields (d+2) vs.toArray us.toArray fs).run P w=.ok b w:=by
 intro fs
 induction fs with
 |nil=>
  intro i ts e h _ _ _;cases ts with
  |nil=>simp only[yA,aX] at h;subst h;exact⟨true,rfl,rfl⟩
  |cons t ts=>simp[yA] at h
 |cons f fs ih=>
  intro i ts e h hr l1 l2;unfold yA at h;split at h
  .rename_i n bG;cases hb:Nat.ble n ts.length<;>simp only[hb,zyy,zyx] at h
   .cases h
   have hn:=kp hb;simp only[ay,aD] at h;obtain⟨e1,kr,r,nl,rfl⟩:=h
   obtain⟨b2,cB,Gr⟩:=ih (i+n) (ts.drop n) r nl (λj t hj=>by
        have:=hr (n+j) t (by rw[gP] at hj;exact hj)
        rwa [show i+(n+j)=i+n+j by omega] at this) (by rw[Pk];omega) (by rw[Pk];omega)
   unfold adP at bG;split at bG
   case h_2=>cases bG
   rename_i fs' hu;cases hc:((f.name != "_")&&Nat.beq f.offset i&& !P.stoodInHeld f.type)<;>simp only[hc,zyy,zyx] at bG
   .cases bG
   cases bG;simp only[au,bne_iff_ne,ne_eq,iZ] at hc;obtain⟨⟨aB,ho⟩,df⟩:=hc;have ho:=aC ho;have jI:P.underlying f.type=some (.struct (P.fieldsOf f.type)):=by unfold Program.fieldsOf;rw[hu]
   obtain⟨inf,hi⟩:=info_of_underlying hu
   have pE:∀zs:List Value,(part f.type zs.toArray f.offset).run P w=.ok (.agg ((zs.drop i).take (P.cellsOf f.type)).toArray) w:=λzs=>by
        have:(zs.toArray.extract f.offset (f.offset+P.cellsOf f.type))=((zs.drop i).take (P.cellsOf f.type)).toArray:=by
         rw[ho];apply tJ;rw[Array.toList_extract];simp[List.extract]
        rw[<-this];simp[part,isAgg,run_underlying hu,run_sizeOf w hi]
   obtain⟨b1,eP,pH⟩:=aoJ (P:=P) (cap:=cap) (V:=V) (O:=O) w hx hy (vs:=(vs.drop i).take (P.cellsOf f.type)) (us:=(us.drop i).take (P.cellsOf f.type)) i d _ 0 (ts.take (P.cellsOf f.type)) e1 kr (λj t hj=>by
        rw[gx] at hj;split at hj
        .rename_i RX;have:=hr j t hj;simpa [aK,gx,RX,gP] using this
        .cases hj) (by simp only[eN,Pk];omega) (by simp only[eN,Pk];omega)
   have asN:(Op.equalIn (d+2) f.type (.agg ((vs.drop i).take (P.cellsOf f.type)).toArray) (.agg ((us.drop i).take (P.cellsOf f.type)).toArray)).run P w=.ok b1 w:=by
        rw[run_equalIn_struct w (d+1) f.type _ _ jI df];exact pH
   refine⟨b1&&b2,by simp only[PE.ev,eP,cB];rfl,?_⟩;simp only[Op.eqFields,if_pos aB,Sem.run_bind,pE,asN,Result.andThen_ok];cases b1
   .rfl
   .simpa using Gr
  .split at h
   .rename_i t ts;cases hc:((f.name != "_")&&Nat.beq f.offset i&&nq P f.type t&&P.plainKey f.type)<;>simp only[hc,zyy,zyx] at h
    .cases h
    simp only[au,bne_iff_ne,ne_eq] at hc;obtain⟨⟨⟨hn,ho⟩,hk⟩,hp⟩:=hc;have ho:=aC ho;simp only[ay,aD] at h;obtain⟨e1,kr,r,nl,rfl⟩:=h
    obtain⟨b2,cB,Gr⟩:=ih (i+1) ts r nl (λj t hj=>by
     have:=hr (j+1) t (by simpa using hj)
     rwa [show i+(j+1)=i+1+j by omega] at this) (by simp at l1;omega) (by simp at l2;omega)
    obtain⟨g1,g2⟩:=hr 0 t rfl;rw[jA] at g1 g2;simp only[mY] at l1 l2;have wP:vs.toArray[f.offset]?=some (vs.getD i undef):=by rw[ho];simp[aK,show i<vs.length by omega]
    have SP:us.toArray[f.offset]?=some (us.getD i undef):=by rw[ho];simp[aK,show i<us.length by omega]
    have p1:=run_part_plain (P:=P) (w:=w) hp wP;have p2:=run_part_plain (P:=P) (w:=w) hp SP;have ex:(PE.cell x i).ev O=X.getD i .none:=by simp only[PE.ev,hx];rfl
    have ey:(PE.cell y i).ev O=Y.getD i .none:=by simp only[PE.ev,hy];rfl
    obtain⟨b1,eP,pH⟩:=abu (P:=P) w (d+1) (O:=O) hk kr (by rw[ex];exact g1) (by rw[ey];exact g2);refine⟨b1&&b2,by simp only[PE.ev,eP,cB];rfl,?_⟩;simp only[Op.eqFields,if_pos hn,Sem.run_bind,p1,p2,pH,Result.andThen_ok];cases b1
    .rfl
    .simpa using Gr
   .cases h
def awe (h:Inv C S O V own hv w0 σ0 A a w)(hC:CtxOK C σ0)(hg:holds gs O=true){op:BinOp}{T T':TypeId}{x y:Operand}{r:Sh×List PI}(hr:CW C S gs dst op T x y=some r){o:Oper}(ho:o.op=.binOp op T x y T'):
 fe C S O V hv Z dst a w o r:=by
 simp only[CW,ay] at hr;obtain⟨p,hp,q,hq,hr⟩:=hr;have aY:=cK h hC hg hp;have eu:=cK h hC hg hq;split at hr
 .rename_i k k' e1 e2;rw[e1] at aY;rw[e2] at eu;obtain⟨n,aV,bA,b1,b2⟩:=aY.int_inv;obtain⟨m,jh,dX,b3,b4⟩:=eu.int_inv;have ar:=Ot (C:=C) (w:=w) ho aV jh (by intro u e;cases e) (by intro e;cases e);cases gG:(op==.shl||op==.shr)<;>simp only[gG,zyy,zyx] at hr
  .cases wz:(k==k')<;>simp only[wz,zyy,zyx] at hr
   .cases hr
   .have R0:k=k':=by simpa using wz
    subst R0;cases Sz:(op==.quo||op==.rem)<;>simp only[Sz,zyy,zyx] at hr
    .cases LH:Jo op<;>simp only[LH,zyy,zyx] at hr
     .cases mu:BR op<;>simp only[mu,zyy,zyx] at hr
      .cases hr
      .cases hr;refine .dat (v:=.bool (jW op n m)) ?_ ?_
       .rw[ar];cases op<;>simp_all [BR]<;>simp[binOp,Op.intCmp,jW,Sem.run,pure,Sem.bind]
       .simp only[PE.ev,bA,dX,D.i_int];exact .bool _
     .cases hr;refine .dat (v:=.int k (ed op k n m)) ?_ ?_
      .rw[ar];cases op<;>simp_all [Jo]<;>simp[binOp,Op.intArith,Op.intBits,ed,Sem.run,pure,Sem.bind]
      .simp only[PE.ev,bA,dX,D.i_int];refine .int _ _ ?_ ?_<;>(cases op<;>simp_all [Jo]<;>first|exact(tH _ _).1|exact(tH _ _).2)
    .cases hr;refine .datc hg λhc=>⟨.int k (ed op k n m),?_,?_⟩
     .have aB:m≠0:=by simpa [PE.ev,dX,D.i_int,D.b_bool,jW,D.int] using hc
      rw[ar];rcases(by simpa using Sz:op=.quo\/op=.rem) with rfl|rfl<;>simp[binOp,Op.intDiv,ed,Sem.run,pure,Sem.bind,aB]
     .simp only[PE.ev,bA,dX,D.i_int];cases op<;>simp_all
      .exact .int _ _ (tH _ _).1 (tH _ _).2
      .exact .int _ _ (ajo k ⟨b1,b2⟩).1 (ajo k ⟨b1,b2⟩).2
  .cases hr;refine .datc hg λhc=>⟨.int k (ed op k n m),?_,?_⟩
   .have aB:¬m<0:=by
     have:0<=m:=by simpa [PE.ev,dX,D.i_int,D.b_bool,jW,D.int] using hc
     omega
    rw[ar];rcases(by simpa using gG:op=.shl\/op=.shr) with rfl|rfl<;>simp[binOp,Op.shift,ed,Sem.run,pure,Sem.bind,aB]
   .simp only[PE.ev,bA,dX,D.i_int];cases op<;>simp_all
    .exact .int _ _ (tH _ _).1 (tH _ _).2
    .exact .int _ _ (abA k _ ⟨b1,b2⟩).1 (abA k _ ⟨b1,b2⟩).2
 .rename_i e1 e2;rw[e1] at aY;rw[e2] at eu;obtain⟨n,aV,bA⟩:=aY.bool_inv;obtain⟨m,jh,dX⟩:=eu.bool_inv;have ar:=Ot (C:=C) (w:=w) ho aV jh (by intro u e;cases e) (by intro e;cases e);cases bQ:((op==.eql||op==.neq)&&Tc C.P T)<;>simp only[bQ,zyy,zyx] at hr
  .cases hr
  .cases hr;simp only[au] at bQ;obtain⟨bQ,hT⟩:=bQ;have Cb:C.P.underlying T=some .bool:=by
        unfold Tc at hT;split at hT
        .assumption
        .cases hT
   have heq:(Op.equal T (.bool n) (.bool m)).run C.P w=.ok (n==m) w:=by
        have:∀d,(Op.equalIn (d+1) T (.bool n) (.bool m)).run C.P w=.ok (n==m) w:=λd=>by simp[Op.equalIn,run_underlying Cb]
        exact this 9999
   refine .dat (v:=.bool (BQ op n m)) ?_ ?_
   .rw[ar];rcases(by simpa using bQ:op=.eql\/op=.neq) with rfl|rfl<;>simp[binOp,BQ,heq,Sem.run_bind']
   .simp only[PE.ev,bA,dX,D.b_bool];exact .bool _
 .rename_i e1 e2;rw[e1] at aY;rw[e2] at eu;obtain⟨n,aV,bA,_⟩:=aY.str_inv;obtain⟨m,jh,dX,_⟩:=eu.str_inv;have ar:=Ot (C:=C) (w:=w) ho aV jh (by intro u e;cases e) (by intro e;cases e);cases bQ:BR op<;>simp only[bQ,zyy,zyx] at hr
  .cases hr
  .cases hr;refine .dat (v:=.bool (BS op n m)) ?_ ?_
   .rw[ar];cases op<;>simp_all [BR]<;>simp[binOp,Op.stringOp,BS,Sem.run,pure,Sem.bind]
   .simp only[PE.ev,bA,dX,D.s_str];exact .bool _
 .rename_i e e' e1 e2;rw[e1] at aY;rw[e2] at eu;split at hr
  case h_2=>cases hr
  rename_i E hT;cases bQ:(op==.eql||op==.neq)<;>simp only[bQ,zyy,zyx] at hr
  .cases hr
  cases hr;obtain⟨n,xs,aV,bA,Sd⟩:∃(n:Bool) (xs:List D),(n=true/\a.eval x=.slice none 0 0\/n=false/\∃k o m c,a.eval x=.slice (some ⟨k,o,none⟩) m c)/\p.2.ev O=.list xs/\n=decide (xs=[]):=by
   generalize a.eval x=vv at aY;generalize p.2.ev O=dd at aY;cases aY with
   |nsl0=>exact⟨true,[],.inl ⟨rfl,rfl⟩,rfl,rfl⟩
   |nsl _ k o m c xs h hx=>exact⟨false,xs,.inr ⟨rfl,k,o,m,c,rfl⟩,rfl,by simp[hx]⟩
  have jh:a.eval y=.slice none 0 0:=by
   generalize a.eval y=vv at eu;generalize q.2.ev O=dd at eu;cases eu;rfl
  have heq:(Op.equal T (a.eval x) (a.eval y)).run C.P w=.ok n w:=by
   have:∀d,(Op.equalIn (d+1) T (a.eval x) (a.eval y)).run C.P w=.ok n w:=λd=>by
        rw[jh];rcases aV with⟨rfl,h1⟩|⟨rfl,k,o,m,c,h1⟩<;>rw[h1]<;>simp[Op.equalIn,run_underlying hT]
   exact this 9999
  have ar:=Ot (C:=C) (w:=w) ho rfl rfl (by
   intro u e;rcases aV with⟨_,h1⟩|⟨_,k,o,m,c,h1⟩<;>rw[h1] at e<;>cases e) (by
   intro e;rcases aV with⟨_,h1⟩|⟨_,k,o,m,c,h1⟩<;>rw[h1] at e<;>cases e)
  refine .dat (v:=.bool (jW op xs.length 0)) ?_ ?_
  .have aB:∀(y:D) (ys:List D),¬((ys.length:Int)+1=0):=λy ys=>by omega
   rw[ar,jh];rw[jh] at heq;rcases aV with⟨_,h1⟩|⟨_,k,o,m,c,h1⟩<;>rw[h1] at heq ⊢<;>rcases(by simpa using bQ:op=.eql\/op=.neq) with rfl|rfl<;>cases xs<;>simp[binOp,heq,Sem.run_bind',jW,Sd]<;>(try omega)
  .simp only[PE.ev,bA,D.l_list,D.int,D.i_int];exact .bool _
 .rename_i ts us e1 e2;rw[e1] at aY;rw[e2] at eu;cases bQ:((op==.eql||op==.neq)&&Ty.beqs ts us&&Q7 C.P T)<;>simp only[bQ,zyy,zyx] at hr
  .cases hr
  simp only[au] at bQ;obtain⟨⟨bQ,SM⟩,df⟩:=bQ;have:=Ty.beqs_eq _ _ SM;subst this;simp only[Q7,au,iZ] at df;obtain⟨⟨adw,as1⟩,as2⟩:=df;have jI:C.P.underlying T=some (.struct (C.P.fieldsOf T)):=by
   unfold Program.fieldsOf;split at adw
   .rename_i fs hu;rw[hu]
   .cases adw
  simp only[aD] at hr;obtain⟨e,he,rfl⟩:=hr;obtain⟨vs,ds,aV,bA,l1,l2,aS,_⟩:=aY.agg_inv;obtain⟨tG,ds',jh,dX,l3,l4,jF,_⟩:=eu.agg_inv
  obtain⟨b,hb,ar⟩:=aoI (P:=C.P) (cap:=C.cap) (V:=V) (O:=O) w bA dX (vs:=vs) (us:=tG) 9997 _ 0 ts e he (λj t hj=>by
   rw[iM];exact⟨aS j t hj,jF j t hj⟩) (by omega) (by omega)
  have heq:(Op.equalIn 10000 T (.agg vs.toArray) (.agg tG.toArray)).run C.P w=.ok b w:=by
   rw[run_equalIn_struct w 9999 T _ _ jI as1];exact ar
  have kW:=run_eqGuard_agg (P:=C.P) (w:=w) op T x y vs.toArray tG.toArray as2
  have acz:(execOp a.eval o).run C.P w=((binOp op T (.agg vs.toArray) (.agg tG.toArray)).run C.P w).andThen λr w'=>.ok (.value r) w':=by
   simp only[execOp,ho,aV,jh,Sem.run_bind,kW,Result.andThen_ok];rfl
  rcases(by simpa using bQ:op=.eql\/op=.neq) with rfl|rfl
  .refine .dat (v:=.bool b) ?_ ?_
   .rw[acz,run_eql_struct,heq];rfl
   .show Rep _ _ .bool _ (PE.ev O e);rw[hb];exact .bool _
  .refine .dat (v:=.bool (!b)) ?_ ?_
   .rw[acz,run_neq_struct,heq];rfl
   .show Rep _ _ .bool _ (PE.ev O (.nt e));simp only[PE.ev,hb];exact .bool _
 .cases hr
def awI (h:Inv C S O V own hv w0 σ0 A a w)(hC:CtxOK C σ0)(hg:holds gs O=true){op:UnOp}{T:TypeId}{x:Operand}{r:Sh×List PI}(hr:C9 C S gs dst op x=some r){o:Oper}(ho:o.op=.unOp op T x):
 fe C S O V hv Z dst a w o r:=by
 simp only[C9,ay] at hr;obtain⟨p,hp,hr⟩:=hr;have aY:=cK h hC hg hp;split at hr
 .rename_i k e1;rw[e1] at aY;obtain⟨n,aV,bA,b1,b2⟩:=aY.int_inv;cases hr;refine .dat (v:=.int k (ed .sub k 0 n)) ?_ ?_
  .simp[execOp,ho,aV,Op.unary,Op.intArith,ed,Sem.run,pure,bind,Sem.bind]
  .simp only[PE.ev,bA,D.i_int];exact .int _ _ (tH _ _).1 (tH _ _).2
 .rename_i e1;rw[e1] at aY;obtain⟨n,aV,bA⟩:=aY.bool_inv;cases hr;refine .dat (v:=.bool (!n)) ?_ ?_
  .simp[execOp,ho,aV,Op.unary,Sem.run,pure,bind,Sem.bind]
  .simp only[PE.ev,bA,D.b_bool];exact .bool _
 .cases hr
def awi (h:Inv C S O V own hv w0 σ0 A a w)(hC:CtxOK C σ0)(hg:holds gs O=true){s d:TypeId}{x:Operand}{r:Sh×List PI}(hr:CY C S gs dst s d x=some r){o:Oper}(ho:o.op=.convert s d x):
 fe C S O V hv Z dst a w o r:=by
 simp only[CY,ay] at hr;obtain⟨p,hp,hr⟩:=hr;have aY:=cK h hC hg hp;split at hr
 .rename_i k0 k k1 u1 u2 e1;rw[e1] at aY;obtain⟨n,aV,bA,b1,b2⟩:=aY.int_inv;cases hr;refine .dat (v:=.int k (k.wrap n)) ?_ ?_
  .simp[execOp,ho,aV,convert,run_underlying u1,run_underlying u2,Conv.intToInt]
  .simp only[PE.ev,bA,D.i_int];exact .int _ _ (tH _ _).1 (tH _ _).2
 .rename_i u1 u2 e1;rw[e1] at aY;obtain⟨n,aV,bA,b1⟩:=aY.str_inv;cases hr;refine .dat (v:=.string n) ?_ ?_
  .simp[execOp,ho,aV,convert,run_underlying u1,run_underlying u2]
  .rw[bA];exact .str _ b1
 .cases hr
end
def w6 {n:Nat}(h:n<=maxLen):IntKind.i64.min<=(n:Int)/\(n:Int)<=IntKind.i64.max:=by
 simp only[maxLen] at h;simp only[IntKind.min,IntKind.max,IntKind.signed,IntKind.bits];simp;omega
section
variable {C:Ctx} {S:St} {O:Env} {V:Im} {own:Nat->Option Nat} {hv:Nat->Value} {w0:World} {σ0:Base} {A:Nat->Prop} {a:Act} {w:World} {gs:List (Nat×Bool)} {Z:aQ} {dst:Nat}
def Pv (C:Ctx)(V:Im)(w:World)(B:Nat)(t:Ty)(v:Value)(d:D):Prop:=
 Rep C.cap V t v d\/
 (∃T e cells xs,t=.slice e.rol/\d=.list xs/\w.ownsRow B T e.size v xs.length cells/\fc C.cap V e cells xs)\/
 (∃k arr clock es kt et,t=.map kt et/\v=.map (some k)/\w.heap[k]?=some (.map arr clock)/\d=.map es/\es.length=arr.size/\es.length<=maxLen/\
    ∀(i:Nat) (e:MapEntry) (p:D×D),arr[i]?=some e->es[i]?=some p->Rep C.cap V kt e.key p.1/\Rep C.cap V et e.val p.2)
def ZK (h:Inv C S O V own hv w0 σ0 A a w)(hC:CtxOK C σ0)(hg:holds gs O=true){x:Operand}{r:Ty×PE}(hu:view C S gs x=some r):Pv C V w w0.heap.size r.1 (a.eval x) (r.2.ev O):=by
 unfold view at hu;split at hu
 .rename_i r' wI;cases hu;exact .inl (cK h hC hg wI)
 .split at hu
  .rename_i t _;obtain⟨hs,_⟩:=nF h hg t;split at hu
   .rename_i j ver e;rw[e] at hs;cases hb:Nat.beq ver (S.ver j)<;>simp only[hb,zyy,zyx] at hu
    .cases hu
    .have dY:=aC hb;have ho:=h.objs j;have cC:a.eval (.tmp t)=hv j:=hs.2 dY;split at hu
     .rename_i T e eo;rw[eo] at ho;cases hu;obtain⟨cells,xs,h1,h2,h3,h4⟩:=ho;rw[cC];exact .inr (.inl ⟨T,e,cells,xs,rfl,h1,h2,h3⟩)
     .rename_i kt et eo;rw[eo] at ho;cases hu;obtain⟨k,arr,clock,es,h1,h2,h3,h4,h5,⟨hx,_⟩,h6⟩:=ho;rw[cC];exact .inr (.inr ⟨k,arr,clock,es,kt,et,rfl,h1,h3,h4,h5,hx,h6⟩)
     .cases hu
   .cases hu
  .cases hu
def zP {w:World}{B e size n:Nat}{v:Value}{cells:List Value}(h:w.ownsRow B e size v n cells):∃b c,v=.slice b n c/\n<=maxLen/\n<=c:=by
 rcases h.2 with⟨rfl,rfl⟩|⟨g,cap,cur,rfl,h1,h2,h3,h4,h5⟩
 .exact⟨none,0,rfl,by decide,bj _⟩
 .exact⟨_,cap,rfl,ij h3 h4,h3⟩
def Wq {b:Builtin}{args:Array Operand}{ts:Array TypeId}{o:Oper}(ho:o.op=.call {callee:=.builtin b,args:=args,argTypes:=ts}):
 ∃cs,(execOp a.eval o).run C.P w=(builtin b ts o.type cs (args.map a.eval)).run C.P w:=
 ⟨_,by simp only[execOp,ho,resolve,invoke];rfl⟩
def awv (h:Inv C S O V own hv w0 σ0 A a w)(hC:CtxOK C σ0)(hg:holds gs O=true){T:TypeId}{x:Operand}{r:Sh×List PI}(hr:C4 C S gs dst T x=some r){o:Oper}
 (ho:o.op=.call {callee:=.builtin .len,args:=#[x],argTypes:=#[T]}):fe C S O V hv Z dst a w o r:=by
 simp only[C4,ay] at hr;obtain⟨p,hp,hr⟩:=hr;have aY:=ZK h hC hg hp;obtain⟨cs,ar⟩:=Wq (C:=C) (w:=w) (a:=a) ho;split at hr
 .rename_i e T' e1 e2;rw[e1] at aY;cases hr;have hx:∃b n c xs,a.eval x=.slice b n c/\p.2.ev O=.list xs/\xs.length=n/\n<=maxLen:=by
   rcases aY with aY|⟨T,e,cells,xs,ht,hd,cE,j1⟩|⟨k,arr,clock,es,kt,et,ht,_⟩
   .obtain⟨xs,hd,⟨⟨p0,aV⟩,rfl⟩|⟨k,o,c,aV,h1,h2,_⟩⟩:=aY.slice_inv
    .exact⟨p0,0,0,[],aV,hd,rfl,by decide⟩
    .exact⟨_,_,c,xs,aV,hd,rfl,by omega⟩
   .obtain⟨b,c,aV,h1,_⟩:=zP cE;exact⟨b,_,c,xs,aV,hd,rfl,h1⟩
   .cases ht
  obtain⟨b,n,c,xs,aV,hd,hl,hm⟩:=hx;refine .dat (v:=.int .i64 n) ?_ ?_
  .rw[ar];simp[builtin,Builtin.len_,aV,run_underlying e2,goInt]
  .simp only[PE.ev,hd,D.l_list,hl];exact .int _ _ (w6 hm).1 (w6 hm).2
 .rename_i e T' e1 e2;rw[e1] at aY;cases hr;rcases aY with aY|⟨T,e,cells,xs,ht,_⟩|⟨k,arr,clock,es,kt,et,ht,_⟩
  .generalize zg:a.eval x=v at aY;generalize FU:p.2.ev O=d at aY;cases aY;refine .dat (v:=.int .i64 0) ?_ ?_
   .rw[ar];simp[builtin,Builtin.len_,zg,run_underlying e2,goInt]
   .simp only[PE.ev,FU,D.l_list];exact .int _ _ (by decide) (by decide)
  .cases ht
  .cases ht
 .rename_i e1 e2;rw[e1] at aY;cases hr;rcases aY with aY|⟨T,e,cells,xs,ht,_⟩|⟨k,arr,clock,es,kt,et,ht,_⟩
  .obtain⟨n,aV,bA,hm⟩:=aY.str_inv;refine .dat (v:=.int .i64 n.size) ?_ ?_
   .rw[ar];simp[builtin,Builtin.len_,aV,run_underlying e2,goInt]
   .simp only[PE.ev,bA,D.s_str];exact .int _ _ (w6 hm).1 (w6 hm).2
  .cases ht
  .cases ht
 .rename_i k0 e0 a0 b0 e1 e2;rw[e1] at aY;cases hr;rcases aY with aY|⟨T,e,cells,xs,ht,_⟩|⟨k,arr,clock,es,kt,et,ht,aV,hb,bA,hl,hx,_⟩
  .generalize zg:a.eval x=v at aY;generalize FU:p.2.ev O=d at aY;cases aY with
   |mapnil=>
    refine .dat (v:=.int .i64 0) ?_ ?_
    .rw[ar];simp[builtin,Builtin.len_,zg,run_underlying e2,goInt]
    .simp only[PE.ev,FU,D.m];exact .int _ _ (by decide) (by decide)
   |map kt et r gZ es hm hl hx hk _=>
    obtain⟨arr,clock,hb,j2⟩:=(h.ok.m _ _ hm).mp (GV hl hk) (aeW hl hk);have hn:arr.size=es.length:=by rw[hl,<-j2];simp[entriesOf]
    refine .dat (v:=.int .i64 arr.size) ?_ ?_
    .rw[ar];simp[builtin,Builtin.len_,zg,run_underlying e2,goInt,getObj,Sem.run,hb]
    .simp only[PE.ev,FU,D.m,hn];exact .int _ _ (w6 hx).1 (w6 hx).2
  .cases ht
  .refine .dat (v:=.int .i64 arr.size) ?_ ?_
   .rw[ar];simp[builtin,Builtin.len_,aV,run_underlying e2,goInt,getObj,Sem.run,hb]
   .simp only[PE.ev,bA,D.m,hl];exact .int _ _ (w6 (hl▸hx)).1 (w6 (hl▸hx)).2
 .cases hr
def agW (h:Inv C S O V own hv w0 σ0 A a w)(hC:CtxOK C σ0)(hg:holds gs O=true){mx:Bool}{x y:Operand}{ts:Array TypeId}{r:Sh×List PI}(hr:zK C S gs dst mx x y=some r){o:Oper}
 (ho:o.op=.call {callee:=.builtin (bif mx then .max else .min),args:=#[x,y],argTypes:=ts}):fe C S O V hv Z dst a w o r:=by
 simp only[zK,ay] at hr;obtain⟨p,hp,q,hq,hr⟩:=hr;have aY:=cK h hC hg hp;have eu:=cK h hC hg hq;obtain⟨cs,ar⟩:=Wq (C:=C) (w:=w) (a:=a) ho;split at hr
 .rename_i k k' e1 e2;rw[e1] at aY;rw[e2] at eu;obtain⟨n,aV,bA,b1,b2⟩:=aY.int_inv;obtain⟨m,jh,dX,b3,b4⟩:=eu.int_inv;cases wz:(k==k')<;>simp only[wz,zyy,zyx] at hr
  .cases hr
  .have R0:k=k':=by simpa using wz
   subst R0;cases hr;cases mx with
   |true=>
    refine .dat (v:=.int k (if m>n then m else n)) ?_ ?_
    .rw[ar];simp[builtin,Builtin.max_,Builtin.max2,aV,jh]
    .simp only[zyy,PE.ev,bA,dX,D.i_int];by_cases ak:m>n<;>simp[ak]<;>constructor<;>assumption
   |false=>
    refine .dat (v:=.int k (if m<n then m else n)) ?_ ?_
    .rw[ar];simp[builtin,Builtin.min_,Builtin.min2,aV,jh]
    .simp only[zyx,PE.ev,bA,dX,D.i_int];by_cases ak:m<n<;>simp[ak]<;>constructor<;>assumption
 .cases hr
def awk (h:Inv C S O V own hv w0 σ0 A a w)(hC:CtxOK C σ0)(hg:holds gs O=true){x:Operand}{i:Nat}{r:Sh×List PI}(hr:CZ C S gs dst x i=some r){o:Oper}(ho:o.op=.extract x i):
 fe C S O V hv Z dst a w o r:=by
 simp only[CZ,ay] at hr;obtain⟨p,hp,hr⟩:=hr;have aY:=cK h hC hg hp;split at hr
 .rename_i ts e1;rw[e1] at aY;simp only[aD] at hr;obtain⟨t,ht,rfl⟩:=hr;obtain⟨vs,ds,aV,bA,l1,l2,aS⟩:=aY.tup_inv;have hi:i<vs.length:=by rw[l1];exact(ga.1 ht).1
  refine .dat (v:=vs.getD i undef) ?_ ?_
  .obtain⟨u,hu⟩:∃u,vs[i]?=some u:=⟨_,bI hi⟩
   have kW:vs.getD i undef=u:=by rw[aK,hu];rfl
   rw[kW];simp[execOp,ho,aV,Instr.extract,hu]
  .simp only[PE.ev,bA];exact aS i t ht
 .cases hr
end
def wU {P:Program}{T:TypeId}{ag:Bool}(h:rk P T=some ag)(w:World):(isAgg T).run P w=.ok ag w:=by
 unfold rk at h;split at h
 .rename_i fs hu;cases h;simp[isAgg,run_underlying hu]
 .rename_i n e hu;cases h;simp[isAgg,run_underlying hu]
 .rename_i d h1 h2 hu;cases h;cases d<;>simp_all [isAgg,run_underlying hu]
 .cases h
def tS (k o n:Nat):(⟨k,o,none⟩:Addr).add n=⟨k,o+n,none⟩:=by
 unfold Addr.add;split<;>simp_all
def Ou {P:Program}{T:TypeId}{inf:TypeInfo}{ag:Bool}{w:World}{k o:Nat}{cs:List Value}(hi:P.info? T=some inf)(ha:rk P T=some ag)(hl:cs.length=inf.size)
 (h1:ag=false->cs.length=1) (hc:∀j u,cs[j]?=some u->w.cell? ⟨k,o+j,none⟩=some u):(loadVar T ⟨k,o,none⟩).run P w=.ok (rowOf ag cs) w:=by
 cases ag with
 |true=>
  have:=run_loadCells_list (P:=P) w ⟨k,o,none⟩ cs (λj v hv=>by rw[tS];exact hc j v hv);rw[hl] at this;simp[loadVar,wU ha,Go.sizeOf,run_typeInfo w hi,this,rowOf]
 |false=>
  obtain⟨u,hu⟩:∃u,cs=[u]:=by
   have:=h1 rfl
   match cs,this with
   |[u],_=>exact⟨u,rfl⟩
  subst hu;have h0:=hc 0 u rfl;simp only[jA] at h0;simp[loadVar,wU ha,rowOf,run_load,h0]
section
variable {C:Ctx} {S:St} {O:Env} {V:Im} {own:Nat->Option Nat} {hv:Nat->Value} {w0:World} {σ0:Base} {A:Nat->Prop} {a:Act} {w:World} {gs:List (Nat×Bool)} {Z:aQ} {dst:Nat}
def xz {o:Oper}{T:TypeId}{x:Operand}{v:Value}{k off:Nat}(ho:o.op=.load T x)(hx:a.eval x=.pointer (some ⟨k,off,none⟩))(hl:(loadVar T ⟨k,off,none⟩).run C.P w=.ok v w):
 (execOp a.eval o).run C.P w=.ok (.value v) w:=by
 simp[execOp,ho,Instr.loadAt,hx,Instr.sureAddr,hl]
def uk {α:Type}{l:List α}{i:Nat}{x d:α}(h:l[i]?=some x):l.getD i d=x:=by
 rw[aK,h];rfl
def Nd {cap:Nat->Option CSig}{ts:List Ty}{vs:List Value}{ds:List D}{ag:Bool}{n off:Nat}{ty:Ty}(hp:xk ag n ts off=some ty)
 (h1:vs.length=ts.length) (h2:ds.length=ts.length) (hr:∀(i:Nat) (t:Ty),ts[i]?=some t->Rep cap V t (vs.getD i undef) (ds.getD i .none)) (ho:∀(i:Nat) (t:Ty),ts[i]?=some t->t.one=true):
 Rep cap V ty (rowOf ag ((vs.drop off).take n)) (bif ag then .agg ((ds.drop off).take n) else ds.getD off .none)/\((vs.drop off).take n).length=n/\(ag=false->n=1):=by
 unfold xk at hp;cases hle:Nat.ble (off+n) ts.length<;>simp only[hle,zyy,zyx] at hp
 .cases hp
 .have F7:=kp hle;have hlen:((vs.drop off).take n).length=n:=by simp;omega
  cases ag with
  |true=>
   simp only[zyy] at hp;cases hp;refine⟨?_,hlen,λe=>by cases e⟩;simp only[rowOf,if_true,zyy];refine .agg _ _ _ (by simp;omega) (by simp;omega) (λi t hi=>?_) (λi t hi=>?_)
   .simp only[gx,gP] at hi;split at hi
    .rename_i bG;have:=hr (off+i) t hi;simpa [aK,gx,gP,bG] using this
    .cases hi
   .simp only[gx,gP] at hi;split at hi
    .exact ho _ t hi
    .cases hi
  |false=>
   simp only[zyx] at hp;cases hn:Nat.beq n 1<;>simp only[hn,zyy,zyx] at hp
   .cases hp
   .have mA:=aC hn;subst mA;refine⟨?_,hlen,λ_=>rfl⟩;have:=hr off ty hp;have ak:off<vs.length:=by omega
    simpa [rowOf,aK,gx,gP] using this
def Nc {ag:Bool}{n:Nat}{e:PE}{off:Nat}{ds:List D}(h:e.ev O=.agg ds):(Dc ag n e off).ev O=bif ag then .agg ((ds.drop off).take n) else ds.getD off .none:=by
 cases ag<;>simp[Dc,PE.ev,h,D.cells,D.c]
def Inv.cell (h:Inv C S O V own hv w0 σ0 A a w){k o:Nat}{u:Value}(hc:V.c k o=some u):w.cell? ⟨k,o,none⟩=some u:=h.ok.c _ _ _ hc
def Rep.rowOf {cap:Nat->Option CSig}{t:Ty}{v:Value}{d:D}(h:Rep cap V t v d):v=Cx.rowOf t.rowT v.cells.toList:=by
 cases h<;>simp[Cx.rowOf,Ty.rowT,Value.cells]
def Rep.cells1 {cap:Nat->Option CSig}{t:Ty}{v:Value}{d:D}(h:Rep cap V t v d)(ht:t.rowT=false):v.cells=#[v]:=by
 cases h<;>simp_all [Ty.rowT,Value.cells]
def awx (h:Inv C S O V own hv w0 σ0 A a w){T:TypeId}{x:Operand}{inf:TypeInfo}{ag:Bool}(hi:C.P.info? T=some inf)(ha:rk C.P T=some ag){o:Oper}(ho:o.op=.load T x)
 {ty:Ty} {e:PE} (hr:Rep C.cap V (.ref ty) (a.eval x) (e.ev O)) (hs:Nat.beq inf.size ty.size=true) (LG:(ag==ty.rowT)=true):
 fe C S O V hv Z dst a w o (.dat ty,[.setR dst (.deref e)]):=by
 obtain⟨k,off,v,y,aV,bA,bX,jH⟩:=hr.ref_inv;have fG:=aC hs;have FM:ag=ty.rowT:=by simpa using LG
 have hz:=bX.size;have uz:=bX.rowOf;refine .dat (v:=v) (xz ho aV ?_) ?_
 .rw[uz,<-FM];refine Ou hi ha (by simp[hz,fG]) (λe=>?_) (λj u hu=>?_)
  .subst e;simp[bX.cells1 FM.symm]
  .exact h.cell (jH j u (by simpa using hu))
 .simp only[PE.ev,bA,D.deref];exact bX
def QC {w:World}{k:Nat}{cs:Array Value}{T:TypeId}{fr:Nat×Nat}(hb:w.heap[k]?=some (.cells cs T fr)){i:Nat}(hi:i<cs.size):w.cell? ⟨k,i,none⟩=some (cs.getD i undef):=by
 simp[World.cell?,hb,eM,gw hi]
def B7 (cs:Array Value)(i:Nat):cs.toList.getD i undef=cs.getD i undef:=by
 simp[aK,eM]
def aas {cs:Array Value}{ds:List D}:∀(shs:List Sh) (i:Nat) (l:List AgC),vP S shs=some l->(∀m s,shs[m]?=some s->aI C S O V hv s (cs.getD (i+m) undef) (ds.getD (i+m) .none))->
 l.length=shs.length/\∀(m:Nat) (c:AgC),l[m]?=some c->nM C S V hv c (cs.getD (i+m) undef) (ds.getD (i+m) .none)
 |[],i,l,hl,_=>by simp only[vP,aX] at hl;subst hl;exact⟨rfl,λm c hm=>by simp at hm⟩
 |s::r,i,l,hl,aS=>by
  simp only[vP,ay] at hl;obtain⟨x,hx,hl⟩:=hl
  obtain⟨g1,g3⟩:=aas r (i+1) x hx λm s hm=>by
   have:=aS (m+1) s (by simpa using hm)
   rwa [show i+(m+1)=i+1+m by omega] at this
  have h0:=aS 0 s rfl;rw[jA] at h0;split at hl
  .rename_i t;cases de:t.one<;>simp only[de,zyy,zyx] at hl
   .cases hl
   cases hl;refine⟨by simp[g1],λm c hm=>?_⟩;cases m with
   |zero=>simp at hm;subst hm;exact⟨de,h0⟩
   |succ m=>simp at hm;have:=g3 m c hm;rwa [show i+1+m=i+(m+1) by omega] at this
  .rename_i j ver;cases hb:Nat.beq ver (S.ver j)<;>simp only[hb,zyy,zyx] at hl
   .cases hl
   cases hl;refine⟨by simp[g1],λm c hm=>?_⟩;cases m with
   |zero=>simp at hm;subst hm;exact h0
   |succ m=>simp at hm;have:=g3 m c hm;rwa [show i+1+m=i+(m+1) by omega] at this
  .cases hl
def alM {j off n len:Nat}{ds:List D}(h:O.o j=.agg ds)(hl:ds.length=len):(PA j off n len).ev O=.agg ((ds.drop off).take n):=by
 unfold PA;cases hb:(Nat.beq off 0&&Nat.beq n len)
 .simp only[zyx,PE.ev,h];rfl
 .simp only[au] at hb;obtain rfl:=aC hb.1;obtain rfl:=aC hb.2;simp only[zyy,PE.ev,h,List.drop_zero,<-hl,Ec]
def G0 (h:Inv C S O V own hv w0 σ0 A a w)(hC:CtxOK C σ0)(hg:holds gs O=true){T:TypeId}{x:Operand}{r:Sh×List PI}(hr:uO C S gs dst T x=some r){o:Oper}(ho:o.op=.load T x):
 fe C S O V hv Z dst a w o r:=by
 unfold uO at hr;split at hr
 case h_2=>cases hr
 rename_i inf ag hi ha;have eJ:aI C S O V hv (fN S gs x) (a.eval x) ((rN x).ev O):=by
  cases x with
  |tmp t=>exact(nF h hg t).1
  |_=>trivial
 split at hr
 ·
  rename_i j ver off es;rw[es] at eJ;cases hb:Nat.beq ver (S.ver j)<;>simp only[hb,zyy,zyx] at hr
  .cases hr
  have dY:=aC hb;obtain⟨k,fI,gB⟩:=eJ.2 dY;have bo:=h.objs j;split at hr
  .rename_i bag shs eo;rw[eo] at bo;obtain⟨k',cs,T',ds,h1,h2,h3,h4,h5,h6,h7⟩:=bo;rw[fI] at h1;cases h1;cases ag with
   |true=>
    simp only[zyy] at hr;cases hle:Nat.ble (off+inf.size) shs.length<;>simp only[hle,zyy,zyx] at hr
    .cases hr
    have F7:=kp hle;have hlen:((shs.drop off).take inf.size).length=inf.size:=by simp;omega
    have dF:∀m u,((cs.toList.drop off).take inf.size)[m]?=some u->w.cell? ⟨k,off+m,none⟩=some u:=λm u hu=>by
     simp only[gx,gP] at hu;split at hu
     .rename_i hm;have:=QC h3 (i:=off+m) (by omega);rw[this,<-B7];exact congrArg some (uk hu)
     .cases hu
    have adt:=xz ho gB (Ou hi ha (by simp;omega) (λe=>by cases e) dF);split at hr
    .rename_i l hl;cases hr
     revert hl
     cases Py C j
     .intro hl;cases hl
     intro hl
     obtain⟨ll,lo⟩:=aas (cs:=cs) (ds:=ds) _ off l hl (λm s hm=>by
      simp only[gx,gP] at hm;split at hm
      .exact(h7 (off+m) s hm).2
      .cases hm)
     rw[hlen] at ll;refine λO' ar=>⟨_,_,vh ar,adt,⟨(cs.toList.drop off).take inf.size,(ds.drop off).take inf.size,by simp[rowOf],alM h5 h6,by simp;omega,by simp;omega,λm c hm=>?_⟩,λ_ _ e=>by cases e⟩
     have od:m<inf.size:=by have:=(ga.1 hm).1;omega
     have:=lo m c hm;simpa [aK,gx,gP,od] using this
    simp only[aD] at hr;obtain⟨p,hp,rfl⟩:=hr
    obtain⟨l1,es,⟨he,_⟩,l2,bX⟩:=QI (b:=.o j) h (cs:=cs.toList) h5 _ off p (λm s hm=>by
     simp only[gx,gP] at hm;split at hm
     .have:=(h7 (off+m) s hm).2;rw[B7];exact this
     .cases hm) hp
    refine .dat (v:=rowOf true ((cs.toList.drop off).take inf.size)) adt ?_
    .simp only[PE.ev,rowOf,if_true,he];refine .agg _ _ _ (by simp;omega) (by omega) (λm t hm=>?_) (λm t hm=>(bX m t hm).1);have od:m<inf.size:=by have:=(ga.1 hm).1;omega
     have:=(bX m t hm).2;simpa [aK,gx,gP,od] using this
   |false=>
    simp only[zyx] at hr;split at hr
    .rename_i ty hs;cases de:ty.one<;>simp only[de,zyy,zyx] at hr
     .cases hr
     cases hr;have mq:=(h7 off _ hs).2;have ak:off<shs.length:=(ga.1 hs).1;have yY:(loadVar T ⟨k,off,none⟩).run C.P w=.ok (cs.getD off undef) w:=by
      simp[loadVar,wU ha,run_load,QC h3 (i:=off) (by omega)]
     refine .dat (v:=cs.getD off undef) (xz ho gB yY) ?_;simp only[PE.ev,h5,D.c,D.cells];exact mq
    .rename_i j' nJ hs;cases hr;have mq:=(h7 off _ hs).2;have ak:off<shs.length:=(ga.1 hs).1;have yY:(loadVar T ⟨k,off,none⟩).run C.P w=.ok (cs.getD off undef) w:=by
      simp[loadVar,wU ha,run_load,QC h3 (i:=off) (by omega)]
     intro O' ar;exact⟨_,_,vh ar,xz ho gB yY,mq,λ_ _ e=>by cases e⟩
    .cases hr
  .rename_i ts eo;rw[eo] at bo;obtain⟨k',v,h1,h2,h3⟩:=bo;rw[fI] at h1;cases h1;simp only[aD] at hr;obtain⟨ty,bt,rfl⟩:=hr;obtain⟨vs,ds,rfl,hd,l1,l2,aS,de⟩:=h2.agg_inv;obtain⟨bX,hlen,mA⟩:=Nd bt l1 l2 aS de;refine .dat (xz ho gB (Ou hi ha hlen (λe=>by rw[hlen];exact mA e) (λm u hu=>h.cell ?_))) (by rw[Nc (e:=.o j) hd];exact bX);simp only[gx,gP] at hu;split at hu
   .exact h3 (off+m) u (by simpa [Value.cells] using hu)
   .cases hu
  .rename_i ty aB eo;rw[eo] at bo;obtain⟨k',v,h1,h2,h3⟩:=bo;rw[fI] at h1;cases h1;cases hc:(!ag&&ty.one&&Nat.beq off 0)<;>simp only[hc,zyy,zyx] at hr
   .cases hr
   cases hr;simp only[au,iZ] at hc;have j3:=aC hc.2;subst j3;have yY:(loadVar T ⟨k,0,none⟩).run C.P w=.ok v w:=by
        have:=h.cell (h3 0 v (by simp[(h2.oneCell hc.1.2).1]));rw[hc.1.1] at ha;simp[loadVar,wU ha,run_load,this]
   exact .dat (xz ho gB yY) h2
  .cases hr
 ·
  rename_i j ver size off es;rw[es] at eJ;cases hb:Nat.beq ver (S.ver j)<;>simp only[hb,zyy,zyx] at hr
  .cases hr
  have dY:=aC hb;obtain⟨k,n,c,ik,i,fI,wj,bG,gB⟩:=eJ.2 dY;have bo:=h.objs j;split at hr
  .rename_i T' ts eo;rw[eo] at bo;obtain⟨cells,xs,h1,h2,⟨vs,h3,h4⟩,h5⟩:=bo;cases aF:Nat.beq size ts.length<;>simp only[aF,zyy,zyx] at hr
   .cases hr
   have sK:=aC aF;simp only[aD] at hr;obtain⟨ty,bt,rfl⟩:=hr;rw[fI] at h2;have bh:=h2.cells (g:=k) rfl;obtain⟨b,c',e1,y3,y4⟩:=zP h2;cases e1;obtain⟨y,hy⟩:∃y,xs[i]?=some y:=⟨_,bI bG⟩
   have Mi:=h3 i y hy;obtain⟨us,ds,wP,hd,l1,l2,aS,de⟩:=Mi.agg_inv;obtain⟨bX,hlen,mA⟩:=Nd bt l1 l2 aS de;have asg:(PE.nth (.o j) (rN x)).ev O=.agg ds:=by
        simp only[PE.ev,h1,D.l_list,wj,D.i_int,xX];rw[uk hy,hd]
   refine .dat (xz ho gB (Ou hi ha hlen (λe=>by rw[hlen];exact mA e) (λm u hu=>?_))) (by rw[Nc asg];exact bX);simp only[gx,gP] at hu;split at hu
   .have:=h4 i (off+m) u (by omega) (by rw[wP];simpa [Value.cells] using hu);have:=bh _ _ this;rw[tS] at this;simpa [Ty.size,sK,vK] using this
   .cases hu
  .rename_i T' e aB eo;rw[eo] at bo;obtain⟨cells,xs,h1,h2,⟨vs,h3,h4⟩,h5⟩:=bo;cases hc:(!ag&&e.one&&Nat.beq off 0&&Nat.beq size 1)<;>simp only[hc,zyy,zyx] at hr
   .cases hr
   cases hr;simp only[au,iZ] at hc;have j3:=aC hc.1.2;have aF:=aC hc.2;subst j3;subst aF;rw[fI] at h2;have bh:=h2.cells (g:=k) rfl;obtain⟨b,c',e1,y3,y4⟩:=zP h2;cases e1;obtain⟨y,hy⟩:∃y,xs[i]?=some y:=⟨_,bI bG⟩
   have Mi:=h3 i y hy;have yY:(loadVar T ⟨k,i*1+0,none⟩).run C.P w=.ok (vs i) w:=by
        have h6:=h4 i 0 (vs i) bG (by simp[(Mi.oneCell hc.1.1.2).1]);have:=bh _ _ h6;rw[tS] at this;have FW:e.size=1:=by cases e<;>simp_all [Ty.size,Ty.one]
        rw[hc.1.1.1] at ha;rw[FW] at this;simp only[iM,jA,Nat.mul_one] at this;simp[loadVar,wU ha,run_load,this]
   refine .dat (xz ho gB yY) ?_;simp only[PE.ev,h1,D.l_list,wj,D.i_int,xX];rw[uk hy];exact Mi
  .cases hr
 .simp only[ay] at hr;obtain⟨p,hp,hr⟩:=hr;have aY:=cK h hC hg hp;split at hr
  .rename_i ty e1;rw[e1] at aY;cases hc:(Nat.beq inf.size ty.size&&(ag==ty.rowT))<;>simp only[hc,zyy,zyx] at hr
   .cases hr
   cases hr;simp only[au] at hc;exact awx h hi ha ho aY hc.1 hc.2
  .cases hr
def tw (h:Inv C S O V own hv w0 σ0 A a w)(hg:holds gs O=true)(x:Operand):aI C S O V hv (fN S gs x) (a.eval x) ((rN x).ev O)/\∀cd s,fN S gs x≠.opt cd s:=by
 cases x with
 |tmp t=>exact nF h hg t
 |_=>exact⟨trivial,λ_ _ e=>by cases e⟩
def abB {P:Program}{T:TypeId}{i:Nat}{f:Field}(h:Ft P T i=some f):∃fs,P.underlying T=some (.struct fs)/\fs[i]?=some f:=by
 unfold Ft at h;split at h
 .rename_i fs hu;exact⟨fs,hu,h⟩
 .cases h
def Wr {o:Oper}{T:TypeId}{x:Operand}{i:Nat}{f:Field}{inf:TypeInfo}{k off:Nat}(ho:o.op=.fieldAddr T x i)(hf:Ft C.P T i=some f)(hi:C.P.info? f.type=some inf)(hn:Nat.beq inf.size 0=false)
 (hx:a.eval x=.pointer (some ⟨k,off,none⟩)):(execOp a.eval o).run C.P w=.ok (.value (.pointer (some ⟨k,off+f.offset,none⟩))) w:=by
 obtain⟨fs,hu,yR⟩:=abB hf;have gE:inf.size≠0:=by intro e;simp[e] at hn
 simp[execOp,ho,Instr.fieldAt,run_underlying hu,yR,hx,Instr.sureAddr,fieldPlace,Go.sizeOf,run_typeInfo w hi,gE,tS]
def awm (h:Inv C S O V own hv w0 σ0 A a w)(hC:CtxOK C σ0)(hg:holds gs O=true){T:TypeId}{x:Operand}{i:Nat}{r:Sh×List PI}(hr:C1 C S gs dst T x i=some r){o:Oper}(ho:o.op=.fieldAddr T x i):
 fe C S O V hv Z dst a w o r:=by
 simp only[C1,ay] at hr;obtain⟨f,hf,hr⟩:=hr;obtain⟨eJ,eH⟩:=tw h hg x;split at hr
 case h_2=>cases hr
 rename_i inf ag hi ha;cases hn:Nat.beq inf.size 0<;>simp only[hn,zyy,zyx] at hr
 case true=>cases hr
 split at hr
 .rename_i j ver size off es;cases hb:Nat.beq ver (S.ver j)<;>simp only[hb,zyy,zyx] at hr
  .cases hr
  cases hr;rw[es] at eJ;intro O' ar;obtain⟨k,n,c,ik,idx,fI,wj,bG,gB⟩:=eJ.2 (aC hb);exact⟨_,_,vh ar,Wr ho hf hi hn gB,⟨eJ.1,λ_=>⟨k,n,c,ik,idx,fI,wj,bG,by rw[vK]⟩⟩,λ_ _ e=>by cases e⟩
 .split at hr
  .rename_i ts e hu;have aY:=cK h hC hg hu;simp only[aD] at hr;obtain⟨ty,bt,rfl⟩:=hr;obtain⟨k,off,v,y,aV,bA,bX,jH⟩:=Rep.ref_inv aY;obtain⟨vs,ds,rfl,rfl,l1,l2,aS,de⟩:=bX.agg_inv;obtain⟨pE,hlen,mA⟩:=Nd bt l1 l2 aS de;refine .dat (Wr ho hf hi hn aV) ?_;have LP:(PE.deref e).ev O=.agg ds:=by simp only[PE.ev,bA,D.deref]
   simp only[PE.ev];rw[Nc LP];refine .ref ty k (off+f.offset) _ _ pE (λj u hu=>?_);have lW:((vs.drop f.offset).take inf.size)[j]?=some u:=by
        cases ag with
        |true=>simpa [rowOf,Value.cells] using hu
        |false=>
         have:=mA rfl;rw[this] at hlen ⊢;obtain⟨q,hq⟩:∃q,(vs.drop f.offset).take 1=[q]:=by
          match(vs.drop f.offset).take 1,hlen with
          |[q],_=>exact⟨q,rfl⟩
         rw[this] at pE hu;rw[hq] at pE hu ⊢;simp only[rowOf,qs] at pE hu;have wK:ty.rowT=false:=by
          unfold xk at bt;cases hle:Nat.ble (f.offset+inf.size) ts.length<;>simp only[hle,zyy,zyx] at bt
          .cases bt
          .cases hb:Nat.beq inf.size 1<;>simp only[hb,zyy,zyx] at bt
           .cases bt
           .have:=de _ _ bt;cases ty<;>simp_all [Ty.one,Ty.rowT]
         rw[pE.cells1 wK] at hu;simpa using hu
   simp only[gx,gP] at lW;split at lW
   .have:=jH (f.offset+j) u (by simpa [Value.cells] using lW)
    rwa [<-vK] at this
   .cases lW
  .split at hr
   .rename_i j ver off es;cases hb:Nat.beq ver (S.ver j)<;>simp only[hb,zyy,zyx] at hr
    .cases hr
    cases hr;rw[es] at eJ;intro O' ar;obtain⟨k,fI,gB⟩:=eJ.2 (aC hb);exact⟨_,_,vh ar,Wr ho hf hi hn gB,⟨eJ.1,λ_=>⟨k,fI,rfl⟩⟩,λ_ _ e=>by cases e⟩
   .cases hr
def awo (h:Inv C S O V own hv w0 σ0 A a w)(hC:CtxOK C σ0)(hg:holds gs O=true){T:TypeId}{x:Operand}{i:Nat}{r:Sh×List PI}(hr:C0 C S gs dst T x i=some r){o:Oper}(ho:o.op=.field T x i):
 fe C S O V hv Z dst a w o r:=by
 simp only[C0,ay] at hr;obtain⟨f,hf,hr⟩:=hr;split at hr
 case h_2=>cases hr
 rename_i inf ag hi ha;split at hr
 case h_2=>cases hr
 rename_i ts e hu;have aY:=cK h hC hg hu;simp only[aD] at hr;obtain⟨ty,bt,rfl⟩:=hr;obtain⟨vs,ds,aV,bA,l1,l2,aS,de⟩:=Rep.agg_inv aY;obtain⟨pE,hlen,mA⟩:=Nd bt l1 l2 aS de;obtain⟨fs,lW,yR⟩:=abB hf;have hle:f.offset+inf.size<=ts.length:=by
  unfold xk at bt;cases hle:Nat.ble (f.offset+inf.size) ts.length<;>simp only[hle,zyy,zyx] at bt
  .cases bt
  .exact kp hle
 refine .dat (v:=rowOf ag ((vs.drop f.offset).take inf.size)) ?_ (by rw[Nc bA];exact pE);cases ag with
 |true=>
  simp only[execOp,ho,Instr.field,aV,asAgg,part];simp[run_underlying lW,yR,wU ha,Go.sizeOf,run_typeInfo w hi,rowOf]
 |false=>
  have hn:=mA rfl;have ak:f.offset<vs.length:=by omega
  simp only[execOp,ho,Instr.field,aV,asAgg,part];simp[run_underlying lW,yR,wU ha,rowOf,hn,bI ak,aK,gx,gP]
def aiX {o:Oper}{T e:TypeId}{x i:Operand}{inf:TypeInfo}{k off n c idx:Nat}{ik:IntKind}(ho:o.op=.indexAddr T x i)(hT:C.P.underlying T=some (.slice e))(hi:C.P.info? e=some inf)
 (hx:a.eval x=.slice (some ⟨k,off,none⟩) n c) (arD:a.eval i=.int ik idx) (ak:idx<n):(execOp a.eval o).run C.P w=.ok (.value (.pointer (some ⟨k,off+idx*inf.size,none⟩))) w:=by
 simp[execOp,ho,Instr.indexAt,run_underlying hT,hx,arD,asIntOf,ak,Go.sizeOf,run_typeInfo w hi,tS]
def OA {P:Program}{T:TypeId}{t:Ty}(h:tz P T t=true):∃inf,P.info? T=some inf/\inf.size=t.size:=by
 unfold tz at h;split at h
 .rename_i i hi;exact⟨i,hi,aC h⟩
 .cases h
def awr (h:Inv C S O V own hv w0 σ0 A a w)(hC:CtxOK C σ0)(hg:holds gs O=true){T:TypeId}{x i:Operand}{r:Sh×List PI}(hr:C3 C S gs dst T x i=some r){o:Oper}(ho:o.op=.indexAddr T x i):
 fe C S O V hv Z dst a w o r:=by
 unfold C3 at hr;split at hr
 case h_2=>cases hr
 rename_i e hT;simp only[ay] at hr;obtain⟨p,hp,hr⟩:=hr;have aY:=cK h hC hg hp;split at hr
 case h_2=>cases hr
 rename_i ik e1;rw[e1] at aY;obtain⟨idx,aV,bA,b1,b2⟩:=aY.int_inv;split at hr
 .rename_i t pe hu;have dN:=cK h hC hg hu;cases aF:tz C.P e t<;>simp only[aF,zyy,zyx] at hr
  .cases hr
  cases hr;obtain⟨inf,hi,hs⟩:=OA aF;obtain⟨xs,hd,sC⟩:=Rep.slice_inv dN;refine .datc hg λhc=>?_;simp only[PE.ev,hd,bA,D.l_list,D.i_int,D.b_bool,decide_eq_true_eq] at hc;rcases sC with⟨_,rfl⟩|⟨k,off,c,sM,h1,h2,vs,h3,h4⟩
  .simp at hc;omega
  .obtain⟨m,rfl⟩:=vD hc.1;have ak:m<xs.length:=by omega
   refine⟨_,aiX ho hT hi sM aV ak,?_⟩;obtain⟨y,hy⟩:∃y,xs[m]?=some y:=⟨_,bI ak⟩
   simp only[PE.ev,hd,bA,D.l_list,D.i_int,xX,uk hy];exact .ref t.unf k _ (vs m) y (h3 m y hy) (λj u hu=>by rw[hs];exact h4 m j u ak hu)
 .cases hr
 .obtain⟨eJ,eH⟩:=tw h hg x;split at hr
  .rename_i j ver es;rw[es] at eJ;cases hb:Nat.beq ver (S.ver j)<;>simp only[hb,zyy,zyx] at hr
   .cases hr
   have dY:=aC hb;have bo:=h.objs j;have cC:=eJ.2 dY;split at hr
   .rename_i T' t eo;rw[eo] at bo;cases aF:tz C.P e t<;>simp only[aF,zyy,zyx] at hr
    .cases hr
    cases hr;obtain⟨inf,hi,hs⟩:=OA aF;obtain⟨cells,xs,h1,h2,⟨vs,h3,h4⟩,h5⟩:=bo;intro O' ar;obtain⟨hc,hρ⟩:=Ws hg ar;simp only[PE.ev,h1,bA,D.l_list,D.i_int,D.b_bool,decide_eq_true_eq] at hc;obtain⟨m,rfl⟩:=vD hc.1;have ak:m<xs.length:=by omega
    rcases h2.2 with⟨_,e0⟩|⟨g,cap,cur,fI,_⟩
    .omega
    .refine⟨_,_,hρ,aiX ho hT hi (cC.trans fI) aV ak,⟨by omega,λ_=>⟨g,xs.length,cap,ik,m,fI,bA,ak,?_⟩⟩,λ_ _ e=>by cases e⟩;rw[hs];simp
   .cases hr
  .cases hr
def awt (h:Inv C S O V own hv w0 σ0 A a w)(hC:CtxOK C σ0)(hg:holds gs O=true){T:TypeId}{x i:Operand}{r:Sh×List PI}(hr:C2 C S gs dst T x i=some r){o:Oper}(ho:o.op=.index T x i):
 fe C S O V hv Z dst a w o r:=by
 unfold C2 at hr;split at hr
 case h_2=>cases hr
 rename_i hT;simp only[ay] at hr;obtain⟨p,hp,q,hq,hr⟩:=hr;have aY:=cK h hC hg hp;have eu:=cK h hC hg hq;split at hr
 case h_2=>cases hr
 rename_i ik e1 e2;rw[e1] at aY;rw[e2] at eu;obtain⟨idx,aV,bA,b1,b2⟩:=aY.int_inv;obtain⟨s,jh,dX,_⟩:=eu.str_inv;cases hr;refine .datc hg λhc=>?_;simp only[PE.ev,dX,bA,D.s_str,D.i_int,D.b_bool,decide_eq_true_eq] at hc;obtain⟨m,rfl⟩:=vD hc.1;have ak:m<s.size:=by omega
 refine⟨.int .u8 (s.data.getD m 0).toNat,?_,?_⟩
 .have:s[m]?=some (s.data.getD m 0):=by
   rw[getElem?_pos s m ak];simp[ByteArray.getElem_eq_getElem_data,eM,gw (show m<s.data.size from ak)]
  simp[execOp,ho,Instr.index,run_underlying hT,aV,jh,asIntOf,this]
 .simp only[PE.ev,dX,bA,D.s_str,D.i_int,xX];refine .int _ _ ?_ ?_
  .simp only[IntKind.min,IntKind.signed];simp
  .simp only[IntKind.max,IntKind.signed,IntKind.bits];have:=UInt8.toNat_lt (s.data.getD m 0);simp at this ⊢;omega
def aCA (h:Inv C S O V own hv w0 σ0 A a w)(hC:CtxOK C σ0)(hg:holds gs O=true){lo:Option Operand}{l:Ty×PE}{k:IntKind}(hl:I1 C S gs lo=some l)(hk:l.1=.int k):
 ∃n,l.2.ev O=.v (.int k n)/\((lo=none/\n=0)\/∃x,lo=some x/\a.eval x=.int k n):=by
 cases lo with
 |none=>simp[I1] at hl;subst hl;simp at hk;subst hk;exact⟨0,rfl,.inl ⟨rfl,rfl⟩⟩
 |some x=>
  have:=cK h hC hg hl;rw[hk] at this;obtain⟨n,h1,h2,_⟩:=this.int_inv;exact⟨n,h2,.inr ⟨x,rfl,h1⟩⟩
def aCy (h:Inv C S O V own hv w0 σ0 A a w)(hC:CtxOK C σ0)(hg:holds gs O=true){e:PE}{hi:Option Operand}{l:Ty×PE}{k:IntKind}(hl:I0 C S gs e hi=some l)(hk:l.1=.int k):
 ∃n,l.2.ev O=.v (.int k n)/\((hi=none/\n=(e.ev O).l.length)\/∃x,hi=some x/\a.eval x=.int k n):=by
 cases hi with
 |none=>simp[I0] at hl;subst hl;simp at hk;subst hk;exact⟨_,rfl,.inl ⟨rfl,rfl⟩⟩
 |some x=>
  have:=cK h hC hg hl;rw[hk] at this;obtain⟨n,h1,h2,_⟩:=this.int_inv;exact⟨n,h2,.inr ⟨x,rfl,h1⟩⟩
def run_sliceBound {P:Program}{x:Value}{y i:Nat}{k:IntKind}{code:BoundsCode}{w:World}(hx:x=.int k i)(h:i<=y):(Instr.sliceBound x y code).run P w=.ok i w:=by
 subst hx;simp[Instr.sliceBound,asIntOf,h]
def awG (h:Inv C S O V own hv w0 σ0 A a w)(hC:CtxOK C σ0)(hg:holds gs O=true){T:TypeId}{x:Operand}{lo hi mx:Option Operand}{r:Sh×List PI}(hr:C8 C S gs dst T x lo hi mx=some r){o:Oper}(ho:o.op=.slice T x lo hi mx):
 fe C S O V hv Z dst a w o r:=by
 unfold C8 at hr;split at hr
 case h_3=>cases hr
 case h_2=>
  rename_i n e hT;split at hr
  case h_2=>cases hr
  simp only[ay] at hr;obtain⟨p,hp,hr⟩:=hr;have aY:=cK h hC hg hp;split at hr
  case h_2=>cases hr
  rename_i t ts e1;cases hc:(Nat.beq n (ts.length+1)&&ts.all (Ty.beq t)&&t.one&&tz C.P e t&&Nat.ble n maxLen&&(adV x|| !Ty.beq t (.int .i64)))<;>simp only[hc,zyy,zyx] at hr
  .cases hr
  cases hr;simp only[au] at hc;obtain⟨⟨⟨⟨⟨c1,c2⟩,c3⟩,c4⟩,c5⟩,c6⟩:=hc;have hn:=aC c1;have hm:=kp c5;obtain⟨inf,pA,hs⟩:=OA c4;rw[e1] at aY;obtain⟨k,off,x0,y,sM,hd,hr0,jH⟩:=aY.ref_inv;have wR:t=.int .i64->V.m k=some iV:=by
   rintro rfl;rw[fZ] at c6;rcases c6 with c6|c6
   .cases x with
    |global g=>
     simp only[use,aD] at hp;obtain⟨y',hy',_⟩:=hp;have hk:k=g:=by
      have e:a.eval (.global g)=.pointer (some ⟨g,0,none⟩):=rfl;rw[e] at sM;cases sM;rfl
     subst hk;exact h.le.m _ _ (hC.mg _ _ hy')
    |_=>cases c6
   .exact absurd c6 (by decide)
  obtain⟨vs,ds,rfl,rfl,l1,l2,j1,_⟩:=hr0.agg_inv
  have aS:∀(i:Nat),i<n->(t::ts)[i]?=some t:=λi hi=>by
   cases i with
   |zero=>rfl
   |succ i=>
    have ak:i<ts.length:=by omega
    rw[Jd,bI ak];rw[Ty.beq_eq _ _ (bR.1 c2 _ (bW ak))]
  have R3:vs.length=n:=by rw[l1,hn];rfl
  have hld:ds.length=n:=by rw[l2,hn];rfl
  have de:t.size=1:=by cases t<;>simp_all [Ty.one,Ty.size]
  refine fe.dat (v:=.slice (some ⟨k,off,none⟩) n n) ?_ ?_
  .have:Addr.add ⟨k,off,none⟩ 0=⟨k,off,none⟩:=by simp[Addr.add]
   simp[execOp,ho,Instr.sliceAt,run_underlying hT,sM,Instr.sureAddr,Instr.sliceBounds,Go.sizeOf,run_typeInfo w pA,this]
  .have arZ:(PE.lst ((List.range n).map λi=>.cell (.deref p.2) i)).ev O=.list ds:=by
        simp only[PE.ev]
        congr 1
        have bT:∀l:List PE,PE.evs O l=l.map λe=>e.ev O:=λl=>by induction l with|nil=>rfl|cons e l ih=>simp[PE.evs,ih]
        rw[bT,Jf];apply Z7;intro i;rw[cL];by_cases hi:i<n
        .rw[rX hi,bI (by omega)];simp only[kO,Function.comp,PE.ev,hd,D.deref,D.c,D.cells];rw[aK,bI (by omega)];rfl
        .rw[tM (by simp;omega),tM (by omega)];rfl
   rw[arZ];refine .slice t k off n n ds (λi=>vs.getD i undef) hld (bj _) hm (λi x hx=>?_) (λi j u hi hu=>?_) wR
   .have ak:i<n:=by rw[<-hld];exact(ga.1 hx).1
    have:=j1 i t (aS i ak);rw[uk hx] at this;exact this.unf
   .have h1:=(j1 i t (aS i hi)).oneCell c3;rw[h1.1] at hu;cases j with
    |zero=>
     simp at hu;have:=jH i (vs.getD i undef) (by
      simp only[Value.cells];rw[Je,bI (by omega),aK,bI (by omega)];rfl)
     rw[de,<-hu];simpa using this
    |succ j=>simp at hu
 rename_i e hT;simp only[ay] at hr;obtain⟨p,hp,hr⟩:=hr;have aY:=cK h hC hg hp;split at hr
 case h_2=>cases hr
 rename_i t e1;rw[e1] at aY;simp only[ay] at hr;obtain⟨l,hl,u,hu,hr⟩:=hr;split at hr
 case h_2=>cases hr
 rename_i k1 k2 e2 e3;cases aF:tz C.P e t<;>simp only[aF,zyy,zyx] at hr
 .cases hr
 cases hr;obtain⟨inf,pA,hs⟩:=OA aF;obtain⟨n1,bA,yX⟩:=aCA h hC hg hl e2;obtain⟨n2,dX,RU⟩:=aCy h hC hg hu e3;obtain⟨xs,hd,sC⟩:=Rep.slice_inv' aY;refine .datc hg λhc=>?_;simp only[PE.ev,hd,bA,dX,D.l_list,D.i_int,D.b_bool,decide_eq_true_eq] at hc;obtain⟨m1,rfl⟩:=vD hc.1;obtain⟨m2,rfl⟩:=vD (show 0<=n2 by omega);have ng:m1<=m2:=by omega
 have h2l:m2<=xs.length:=by omega
 have acq:∀c,xs.length<=c->(Instr.sliceBounds true xs.length c (lo.map a.eval) (hi.map a.eval) none).run C.P w=.ok (m1,m2,c) w:=by
  intro c jG
  have hh:∀code,(match hi.map a.eval with|some v=>Instr.sliceBound v c code|none=>(pure xs.length:Sem Nat)).run C.P w=.ok m2 w:=by
   intro code;rcases RU with⟨rfl,e⟩|⟨y,rfl,e⟩
   .rw[hd,D.l_list] at e;simp;omega
   .simp only[kO];exact run_sliceBound e (by omega)
  have R2:∀code,(match lo.map a.eval with|some v=>Instr.sliceBound v m2 code|none=>(pure 0:Sem Nat)).run C.P w=.ok m1 w:=by
   intro code;rcases yX with⟨rfl,e⟩|⟨y,rfl,e⟩
   .simp;omega
   .simp only[kO];exact run_sliceBound e ng
  have Cq:=hh .sliceAcap;have acW:=R2 .sliceB;unfold Instr.sliceBounds;cases hi<;>cases lo<;>simp at Cq acW ⊢<;>simp[Cq,acW]
 rcases sC with⟨⟨p0,sM⟩,rfl⟩|⟨k,off,c,sM,h1,h2,wR,vs,h3,h4⟩
 .have:m2=0:=by simpa using h2l
  have:m1=0:=by omega
  subst_vars
  refine⟨.slice p0 0 0,?_,?_⟩
  .have hb:=acq 0 (bj _);simp only[tN] at hb;cases p0 with
   |none=>simp[execOp,ho,Instr.sliceAt,Instr.slice,run_underlying hT,sM,hb,Go.sizeOf,run_typeInfo w pA]
   |some a0=>simp[execOp,ho,Instr.sliceAt,Instr.slice,run_underlying hT,sM,hb,Go.sizeOf,run_typeInfo w pA]
  .simp only[PE.ev,hd,bA,dX,D.l_list,D.i_int];cases p0 with
   |none=>exact .nil t
   |some a0=>exact .emp t a0
 .refine⟨.slice (some (if c=m1 then⟨k,off,none⟩ else⟨k,off+m1*inf.size,none⟩)) (m2-m1) (c-m1),?_,?_⟩
  .have hb:=acq c h1;simp only[execOp,ho,Option.map_none,Instr.sliceAt,run_underlying hT,sM];simp[run_underlying hT,Instr.slice,hb,Go.sizeOf,run_typeInfo w pA,tS];split<;>simp
  .simp only[PE.ev,hd,bA,dX,D.l_list,D.i_int,xX];have hlen:((xs.take m2).drop m1).length=m2-m1:=by simp;omega
   have j1:∀(i:Nat) (y:D),((xs.take m2).drop m1)[i]?=some y->xs[m1+i]?=some y:=by
        intro i y hy;simp only[gP,gx] at hy;split at hy
        .exact hy
        .cases hy
   have jH:∀(i j:Nat) (v:Value),i<m2-m1->(vs (m1+i)).cells[j]?=some v->V.c k (off+m1*inf.size+i*t.size+j)=some v:=by
        intro i j v hi hj;have:=h4 (m1+i) j v (by omega) hj;rw[qv] at this;rw[hs]
        rwa [<-vK] at this
   split
   .rename_i mu;refine .slice t k off (m2-m1) (c-m1) _ (λi=>vs (m1+i)) hlen (by omega) (by omega) (λi y hy=>h3 _ _ (j1 i y hy)) (λi j v hi hj=>by omega) wR
   .exact .slice t k (off+m1*inf.size) (m2-m1) (c-m1) _ (λi=>vs (m1+i)) hlen (by omega) (by omega) (λi y hy=>h3 _ _ (j1 i y hy)) jH wR
def akW (h:Inv C S O V own hv w0 σ0 A a w)(hC:CtxOK C σ0)(hg:holds gs O=true):∀(xs:List Operand) (r:List Ty×List PE),lu C S gs xs=some r->
 r.1.length=xs.length/\r.2.length=xs.length/\∀(i:Nat) (t:Ty),r.1[i]?=some t->Rep C.cap V t ((xs.map a.eval).getD i undef) ((PE.evs O r.2).getD i .none):=by
 intro xs
 induction xs with
 |nil=>intro r hr;simp[lu] at hr;subst hr;exact⟨rfl,rfl,by simp⟩
 |cons x xs ih=>
  intro r hr;simp only[lu,ay,aD] at hr;obtain⟨p,hp,q,hq,rfl⟩:=hr;obtain⟨l1,l2,aS⟩:=ih q hq;refine⟨by simp[l1],by simp[l2],λi t hi=>?_⟩;cases i with
  |zero=>simp at hi;subst hi;simpa [PE.evs] using cK h hC hg hp
  |succ i=>simp at hi;simpa [PE.evs] using aS i t hi
def awp (h:Inv C S O V own hv w0 σ0 A a w)(hC:CtxOK C σ0)(hg:holds gs O=true){fn:Fn}{first caps:Array Operand}{r:Sh×List PI}(hr:Ut C S gs dst fn first caps=some r){o:Oper}(ho:o.op=.makeFunc fn first caps):
 fe C S O V hv Z dst a w o r:=by
 unfold Ut at hr;split at hr
 case h_2=>cases hr
 rename_i f RQ;have FX:first=#[]:=by simpa using RQ
 subst FX;simp only[ay] at hr;obtain⟨cs,dF,p,hp,hr⟩:=hr;cases hb:Ty.subs p.1 cs.caps<;>simp only[hb,zyy,zyx] at hr
 .cases hr
 cases hr;obtain⟨l1,l2,aS⟩:=akW h hC hg _ _ hp;have hl:=Ty.subs_len _ _ hb;refine .dat (v:=.func (.func f) #[] (caps.map a.eval)) ?_ ?_
 .simp[execOp,ho,Instr.makeFunc]
 .simp only[PE.ev];have:caps.map a.eval=(caps.toList.map a.eval).toArray:=by apply tJ;rw[xT]
  rw[this];have e1:(caps.toList.map a.eval).length=cs.caps.length:=by rw[fw];omega
  have e2:(PE.evs O p.2).length=cs.caps.length:=by rw[PE.evs_eq,fw];omega
  refine .fn f cs _ _ dF e1 e2 (λi t hi=>?_);obtain⟨s,hs,df⟩:=Ty.subs_get _ _ hb i t hi;exact(aS i s hs).sub df
def awB (h:Inv C S O V own hv w0 σ0 A a w)(hC:CtxOK C σ0)(hg:holds gs O=true){x:Operand}{r:Sh×List PI}(hr:C6 C S gs dst x=some r){o:Oper}(ho:o.op=.nilCheck x):
 fe C S O V hv Z dst a w o r:=by
 have ar:∀k off,a.eval x=.pointer (some ⟨k,off,none⟩)->(execOp a.eval o).run C.P w=.ok (.value (a.eval x)) w:=by
  intro k off e;simp[execOp,ho,e]
 unfold C6 at hr;split at hr
 .rename_i t e hu;cases hr;have aY:=cK h hC hg hu;obtain⟨k,off,v,y,aV,bA,bX,jH⟩:=Rep.ref_inv aY;exact .dat (ar k off aV) aY
 .split at hr
  .rename_i t _;obtain⟨hs,eH⟩:=nF h hg t;split at hr
   .rename_i j ver off es;rw[es] at hs;cases hb:Nat.beq ver (S.ver j)<;>simp only[hb,zyy,zyx] at hr
    .cases hr
    cases hr;obtain⟨k,fI,gB⟩:=hs.2 (aC hb);intro O' wI;exact⟨_,_,vh wI,ar k off gB,hs,λ_ _ e=>by cases e⟩
   .rename_i j ver sz off es;rw[es] at hs;cases hb:Nat.beq ver (S.ver j)<;>simp only[hb,zyy,zyx] at hr
    .cases hr
    cases hr;have gl:=hs;obtain⟨k,n,c,ik,i,fI,wj,bG,gB⟩:=hs.2 (aC hb);intro O' wI;exact⟨_,_,vh wI,ar _ _ gB,gl,λ_ _ e=>by cases e⟩
   .cases hr
  .cases hr
def ak5 {cap:Nat->Option CSig}{t:Ty}{z:Ty×D}{v:Value}(h:rT t=some z)(hz:AA t v=true):Rep cap V z.1 v z.2/\z.1.one=true/\Ty.sub z.1 t=true:=by
 unfold AA at hz;split at hz
 .simp at hz;obtain⟨rfl,rfl⟩:=hz;simp[rT] at h;subst h;exact⟨.int _ 0 (by rename_i k;cases k<;>decide) (by rename_i k;cases k<;>decide),rfl,by simp[Ty.sub,Ty.beq]⟩
 .simp at hz;subst hz;simp[rT] at h;subst h;exact⟨.bool false,rfl,rfl⟩
 .rename_i s;have:s=ByteArray.empty:=by
   have:s.size=0:=by simpa using hz
   cases s with|mk d=>simp[ByteArray.size] at this;subst this;rfl
  subst this;simp[rT] at h;subst h;exact⟨.str _ (by decide),rfl,rfl⟩
 .simp[rT] at h;subst h;exact⟨.nils _,rfl,rfl⟩
 .simp[rT] at h;subst h;refine⟨.mapnil _ _,rfl,?_⟩;simp only[Ty.sub];exact Ty.beq_refl _
 .simp[rT] at h;subst h;exact⟨.fnnil _ _,rfl,by simp only[Ty.sub];exact Ty.beq_refl _⟩
 .cases hz
end
def mapM_some {α β:Type}(f:α->Option β):∀(l:List α) (r:List β),l.mapM f=some r->r.length=l.length/\∀(i:Nat) (x:α),l[i]?=some x->∃y,r[i]?=some y/\f x=some y
 |[],r,h=>by simp at h;subst h;exact⟨rfl,by simp⟩
 |x::l,r,h=>by
  simp only[aae,Option.bind_eq_bind,ay] at h;obtain⟨y,hy,ys,wQ,h⟩:=h;cases h;obtain⟨h1,h2⟩:=mapM_some f l ys wQ;refine⟨by simp[h1],λi z hi=>?_⟩;cases i with
  |zero=>simp at hi;subst hi;exact⟨y,rfl,hy⟩
  |succ i=>simp at hi;simpa using h2 i z hi
def ZQ:∀(ts:List Ty) (vs:List Value),D4 ts vs=true->vs.length=ts.length/\∀(i:Nat) (t:Ty),ts[i]?=some t->∃v,vs[i]?=some v/\AA t v=true
 |[],vs,h=>by cases vs<;>simp_all [D4]
 |t::ts,vs,h=>by
  cases vs with
  |nil=>simp[D4] at h
  |cons v vs=>
   simp only[D4,au] at h;obtain⟨h1,h2⟩:=ZQ ts vs h.2;refine⟨by simp[h1],λi u hi=>?_⟩;cases i with
   |zero=>simp at hi;subst hi;exact⟨v,rfl,h.1⟩
   |succ i=>simp at hi;simpa using h2 i u hi
def AB {cap:Nat->Option CSig}{V:Im}{t:Ty}{z:Ty×D}{v:Value}(h:qn t=some z)(hz:kl t v=true):Rep cap V z.1 v z.2/\Ty.sub z.1 t=true/\z.1.one=t.one:=by
 cases t with
 |agg ts=>
  simp only[qn,aD] at h;obtain⟨zs,uG,rfl⟩:=h;cases v with
  |agg vs=>
   simp only[kl] at hz;obtain⟨l1,h1⟩:=ZQ ts vs.toList hz;obtain⟨l2,h2⟩:=mapM_some _ _ _ uG;have key:∀(i:Nat) (t:Ty),ts[i]?=some t->∃y v,zs[i]?=some y/\vs.toList[i]?=some v/\Rep cap V y.1 v y.2/\y.1.one=true/\Ty.sub y.1 t=true:=by
      intro i t hi;obtain⟨y,hy,uE⟩:=h2 i t hi;obtain⟨v,hv,jh⟩:=h1 i t hi;obtain⟨g1,g2,g3⟩:=ak5 (cap:=cap) (V:=V) uE jh;exact⟨y,v,hy,hv,g1,g2,g3⟩
   have cn:∀(ts:List Ty) (zs:List (Ty×D)),zs.length=ts.length->(∀(i:Nat) (t:Ty),ts[i]?=some t->∃y,zs[i]?=some y/\Ty.sub y.1 t=true)->Ty.subs (zs.map (·.1)) ts=true:=by
      intro ts
      induction ts with
      |nil=>intro zs hl _;cases zs<;>simp_all [Ty.subs]
      |cons t ts ih=>
       intro zs hl hh;cases zs with
       |nil=>simp at hl
       |cons z zs=>
        simp only[fO,Ty.subs,au];refine⟨?_,ih zs (by simpa using hl) λi u hu=>by simpa using hh (i+1) u (by simpa using hu)⟩;obtain⟨y,hy,uE⟩:=hh 0 t rfl;simp at hy;subst hy;exact uE
   refine⟨?_,?_,rfl⟩
   .have:vs=vs.toList.toArray:=by simp
    rw[this];refine .agg _ _ _ (by rw[fw];omega) (by simp) (λi t hi=>?_) (λi t hi=>?_)
    .simp only[cL,aD] at hi;obtain⟨q,hq,rfl⟩:=hi;obtain⟨t',SK⟩:∃t',ts[i]?=some t':=⟨_,bI (by have:=(ga.1 hq).1;omega)⟩
     obtain⟨y,v,hy,hv,g1,g2,g3⟩:=key i t' SK;rw[hq] at hy;cases hy;rw[uk hv,uk (show(zs.map (·.2))[i]?=some q.2 by simp[hq])];exact g1
    .simp only[cL,aD] at hi;obtain⟨q,hq,rfl⟩:=hi;obtain⟨t',SK⟩:∃t',ts[i]?=some t':=⟨_,bI (by have:=(ga.1 hq).1;omega)⟩
     obtain⟨y,v,hy,hv,g1,g2,g3⟩:=key i t' SK;rw[hq] at hy;cases hy;exact g2
   .simp only[Ty.sub];exact cn ts zs l2 λi t hi=>by obtain⟨y,v,hy,hv,g1,g2,g3⟩:=key i t hi;exact⟨y,hy,g3⟩
  |_=>simp[kl] at hz
 |_=>
  obtain⟨g1,g2,g3⟩:=ak5 (cap:=cap) (V:=V) (by simpa [qn] using h) (by simpa [kl] using hz);exact⟨g1,g3,(Ty.sub_one _ _ g3).1⟩
def amB {a b:ByteArray}(h:(a==b)=true):a=b:=by
 cases a with|mk x=>cases b with|mk y=>
 have:(x==y)=true:=h;rw[eq_of_beq this]
def amC (a:ByteArray):(a==a)=true:=by
 cases a with|mk x=>
 show(x==x)=true;simp
def Tf {P:Program}{K:TypeId}{kt:Ty}(hk:nq P K kt=true):
 (∃k k',kt=.int k/\P.underlying K=some (.int k'))\/(kt=.str/\P.underlying K=some .string)\/(kt=.bool/\P.underlying K=some .bool):=by
 unfold nq at hk;split at hk
 .split at hk
  .exact .inl ⟨_,_,rfl,by assumption⟩
  .cases hk
 .split at hk
  .exact .inr (.inl ⟨rfl,by assumption⟩)
  .cases hk
 .split at hk
  .exact .inr (.inr ⟨rfl,by assumption⟩)
  .cases hk
 .cases hk
def aoR {cap:Nat->Option CSig}{V:Im}{P:Program}{K:TypeId}{kt:Ty}{desc:TypeDesc}(hk:nq P K kt=true)(hu:P.underlying K=some desc){v:Value}{d:D}(hv:Rep cap V kt v d):
 ∀(es:List MapEntry) (ds:List (D×D)) (i:Nat),ds.length=es.length->(∀(j:Nat) (e:MapEntry) (p:D×D),es[j]?=some e->ds[j]?=some p->Rep cap V kt e.key p.1)->
  (Instr.findNow desc v es i=some none/\∀(j:Nat) (p:D×D),ds[j]?=some p->fj d p.1=false)\/
  ∃j e p,es[j]?=some e/\ds[j]?=some p/\Instr.findNow desc v es i=some (some (i+j,e.val))/\fj d p.1=true/\Instr.sameBits 10000 e.key v=true/\∀m q,m<j->ds[m]?=some q->fj d q.1=false:=by
 have de:∀(v':Value) (d':D),Rep cap V kt v' d'->Instr.sameNow desc v v'=some (fj d d')/\(fj d d'=true->Instr.sameBits 10000 v' v=true):=by
  intro v' d' h';rcases Tf hk with⟨k,k',rfl,lW⟩|⟨rfl,lW⟩|⟨rfl,lW⟩
  .rw[hu] at lW;cases lW;obtain⟨n,rfl,rfl,_⟩:=hv.int_inv;obtain⟨m,rfl,rfl,_⟩:=h'.int_inv;refine⟨by simp[Instr.sameNow,fj,D.cells,sN,uI],λe=>?_⟩;have:n=m:=by simpa [fj,D.cells,sN,uI] using e
   subst this;simp[Instr.sameBits]
  .rw[hu] at lW;cases lW;obtain⟨n,rfl,rfl,_⟩:=hv.str_inv;obtain⟨m,rfl,rfl,_⟩:=h'.str_inv;refine⟨by simp[Instr.sameNow,fj,D.cells,sN,uI],λe=>?_⟩;have:n=m:=amB (by simpa [fj,D.cells,sN,uI] using e);subst this;simpa [Instr.sameBits] using amC n
  .rw[hu] at lW;cases lW;obtain⟨n,rfl,rfl⟩:=hv.bool_inv;obtain⟨m,rfl,rfl⟩:=h'.bool_inv;refine⟨by simp[Instr.sameNow,fj,D.cells,sN,uI],λe=>?_⟩;have:n=m:=by simpa [fj,D.cells,sN,uI] using e
   subst this;simp[Instr.sameBits]
 intro es
 induction es with
 |nil=>intro ds i hl _;left;exact⟨rfl,by cases ds<;>simp_all⟩
 |cons e es ih=>
  intro ds i hl aS;cases ds with
  |nil=>simp at hl
  |cons p ds=>
   obtain⟨hs,hb⟩:=de e.key p.1 (aS 0 e p rfl rfl);cases oa:fj d p.1 with
   |true=>
    right;rw[oa] at hs;exact⟨0,e,p,rfl,rfl,by simp[Instr.findNow,hs],oa,hb oa,λm q hm=>by omega⟩
   |false=>
    rw[oa] at hs;rcases ih ds (i+1) (by simpa using hl) (λj e' p' he hp=>aS (j+1) e' p' (by simpa using he) (by simpa using hp)) with⟨h1,h2⟩|⟨j,e',p',h1,h2,h3,h4,h5,h6⟩
    .left;refine⟨by simp[Instr.findNow,hs,h1],λj q hq=>?_⟩;cases j with
     |zero=>simp at hq;subst hq;exact oa
     |succ j=>exact h2 j q (by simpa using hq)
    .right;refine⟨j+1,e',p',by simpa using h1,by simpa using h2,?_,h4,h5,λm q hm hq=>?_⟩
     .simp[Instr.findNow,hs,h3];omega
     .cases m with
      |zero=>simp at hq;subst hq;exact oa
      |succ m=>exact h6 m q (by omega) (by simpa using hq)
def Tp {d:D}:∀{ds:List (D×D)},(∀(j:Nat) (p:D×D),ds[j]?=some p->fj d p.1=false)->nr d ds=none
 |[],_=>rfl
 |p::ds,h=>by simp only[nr,h 0 p rfl];exact Tp λj q hq=>h (j+1) q (by simpa using hq)
def Tq {d:D}:∀{ds:List (D×D)} {j:Nat} {p:D×D},ds[j]?=some p->fj d p.1=true->(∀(m:Nat) (q:D×D),m<j->ds[m]?=some q->fj d q.1=false)->nr d ds=some p.2
 |[],j,p,hp,_,_=>by simp at hp
 |x::ds,0,p,hp,hk,_=>by simp at hp;subst hp;simp[nr,hk]
 |x::ds,j+1,p,hp,hk,hm=>by
  simp only[nr,hm 0 x (by omega) rfl];exact Tq (j:=j) (by simpa using hp) hk λm q ak hq=>hm (m+1) q (by omega) (by simpa using hq)
def UH {d v:D}:∀{ds:List (D×D)},(∀(j:Nat) (p:D×D),ds[j]?=some p->fj d p.1=false)->l9 d v ds=ds++[(d,v)]
 |[],_=>rfl
 |p::ds,h=>by simp only[l9,h 0 p rfl,xU,if_false,Ja];rw[UH λj q hq=>h (j+1) q (by simpa using hq)]
def UI {d v:D}:∀{ds:List (D×D)} {j:Nat} {p:D×D},ds[j]?=some p->fj d p.1=true->(∀(m:Nat) (q:D×D),m<j->ds[m]?=some q->fj d q.1=false)->l9 d v ds=ds.set j (d,v)
 |[],j,p,hp,_,_=>by simp at hp
 |x::ds,0,p,hp,hk,_=>by simp at hp;subst hp;simp[l9,hk]
 |x::ds,j+1,p,hp,hk,hm=>by
  simp only[l9,hm 0 x (by omega) rfl,xU,if_false,List.set_cons_succ];rw[UI (j:=j) (by simpa using hp) hk λm q ak hq=>hm (m+1) q (by omega) (by simpa using hq)]
def ad9 {P:Program}{K:TypeId}{kt:Ty}(hk:CJ P K kt=true):
 ∃k k' e q i,kt=.agg [.int k,.int k']/\P.underlying K=some (.array 2 e)/\P.underlying e=some (.int q)/\P.plainKey e=true/\P.info? e=some i/\P.cellsOf e=1:=by
 unfold CJ at hk;split at hk
 case h_2=>cases hk
 rename_i k k';split at hk
 case h_2=>cases hk
 rename_i n e hu;simp only[au] at hk;obtain⟨⟨⟨h1,h2⟩,h3⟩,h4⟩:=hk;have hn:=aC h1;subst hn;split at h2
 case h_2=>cases h2
 rename_i q hq;split at h4
 case h_2=>cases h4
 rename_i i hi;exact⟨k,k',e,q,i,rfl,hu,hq,h3,hi,aC h4⟩
def Rep.pair_inv {cap:Nat->Option CSig}{V:Im}{k k':IntKind}{v:Value}{d:D}(h:Rep cap V (.agg [.int k,.int k']) v d):∃a b,v=.agg #[.int k a,.int k' b]/\d=.agg [.v (.int k a),.v (.int k' b)]:=by
 generalize ht:Ty.agg [.int k,.int k']=t at h;cases h with
 |agg ts vs ds h1 h2 h ho=>
  cases ht;obtain⟨x,y,rfl⟩:∃x y,vs=[x,y]:=by
   match vs,h1 with
   |[x,y],_=>exact⟨x,y,rfl⟩
  obtain⟨p,q,rfl⟩:∃x y,ds=[x,y]:=by
   match ds,h2 with
   |[x,y],_=>exact⟨x,y,rfl⟩
  obtain⟨a,e1,e2,_⟩:=(h 0 _ rfl).int_inv;obtain⟨b,e3,e4,_⟩:=(h 1 _ rfl).int_inv;simp at e1 e2 e3 e4;subst e1 e2 e3 e4;exact⟨a,b,rfl,rfl⟩
 |_=>cases ht
def ayD {P:Program}{K e:TypeId}{q:IntKind}{i:TypeInfo}(hu:P.underlying K=some (.array 2 e))(hq:P.underlying e=some (.int q))(hp:P.plainKey e=true)(hi:P.info? e=some i)(hc:P.cellsOf e=1)(k k':IntKind)(a b c d:Int)(w:World):
 (Op.equal K (.agg #[.int k a,.int k' b]) (.agg #[.int k c,.int k' d])).run P w=.ok (a==c&&b==d) w:=by
 unfold Op.equal;show(Op.equalIn (9999+1) K _ _).run P w=_;rw[run_equalIn_array w 9999 _ _ hu hi,hc];have e0:List.range 2=[0,1]:=rfl;have p0:∀(x y:Value) (w:World),(part e #[x,y] 0).run P w=.ok x w:=λx y w=>run_part_plain w hp rfl;have p1:∀(x y:Value) (w:World),(part e #[x,y] 1).run P w=.ok y w:=λx y w=>run_part_plain w hp rfl;have q0:∀(k:IntKind) (a b:Int) (w:World),(Op.equalIn 9999 e (.int k a) (.int k b)).run P w=.ok (a==b) w:=λk a b w=>run_equalIn_int w 9998 e k q a b hq;rw[e0];simp only[Op.eqItems,Sem.run_bind,Nat.zero_mul,Nat.one_mul,p0,p1,Result.andThen_ok,q0];cases a==c
 .simp
 .simp only[tL,xU,if_false,Sem.run_bind,p1,Result.andThen_ok,q0];cases b==d<;>simp
def ad8 {P:Program}{K:TypeId}{kt:Ty}(hk:wX P K kt=true):nq P K kt=true\/CJ P K kt=true:=by
 unfold wX at hk;simpa using hk
def am5 {cap:Nat->Option CSig}{V:Im}{P:Program}{K:TypeId}{kt:Ty}(hk:CJ P K kt=true){v:Value}{d:D}(hv:Rep cap V kt v d){w:World}{b:Bool}:(Instr.checkKey b 10000 K v).run P w=.ok () w:=by
 obtain⟨k,k',e,q,i,rfl,hu,hq,hp,hi,hc⟩:=ad9 hk;obtain⟨x,y,rfl,_⟩:=hv.pair_inv;have p0:∀(x y:Value) (w:World),(part e #[x,y] 0).run P w=.ok x w:=λx y w=>run_part_plain w hp rfl;have p1:∀(x y:Value) (w:World),(part e #[x,y] 1).run P w=.ok y w:=λx y w=>run_part_plain w hp rfl
 have c0:∀(m:Nat) (k:IntKind) (n:Int) (w:World),(Instr.checkKey b (m+1) e (.int k n)).run P w=.ok () w:=λm k n w=>by
  simp[Instr.checkKey,run_underlying hq]
 have s0:∀w:World,(Go.sizeOf e).run P w=Result.ok 1 w:=λw=>by rw[run_sizeOf w hi,hc]
 have main:∀m,(Instr.checkKey b (m+1+1) K (.agg #[.int k x,.int k' y])).run P w=.ok () w:=by
  intro m;rw[Instr.checkKey];simp only[Sem.run_bind,run_underlying hu,Result.andThen_ok,Std.Legacy.Range.forIn_eq_forIn_range',Std.Legacy.Range.size,Nat.sub_zero,Nat.add_one_sub_one,Nat.div_one];simp[List.range',s0,p0,p1,c0,Sem.run_bind,Result.andThen_ok]
 exact main 9998
def aaY {cap:Nat->Option CSig}{V:Im}{P:Program}{K:TypeId}{kt:Ty}(hk:wX P K kt=true){v:Value}{d:D}(hv:Rep cap V kt v d){w:World}{b:Bool}:(Instr.checkKey b 10000 K v).run P w=.ok () w:=by
 rcases ad8 hk with hk|hk
 case inr=>exact am5 hk hv
 have:∀n,(Instr.checkKey b (n+1) K v).run P w=.ok () w:=by
  intro n;rcases Tf hk with⟨k,k',rfl,hu⟩|⟨rfl,hu⟩|⟨rfl,hu⟩<;>cases v<;>simp[Instr.checkKey,run_underlying hu]
 exact this 9999
section
variable {C:Ctx} {S:St} {O:Env} {V:Im} {own:Nat->Option Nat} {hv:Nat->Value} {w0:World} {σ0:Base} {A:Nat->Prop} {a:Act} {w:World} {gs:List (Nat×Bool)} {Z:aQ} {dst:Nat}
def atP {P:Program}{K:TypeId}{kt:Ty}(hk:nq P K kt=true):∃desc,P.underlying K=some desc:=by
 rcases Tf hk with⟨k,k',rfl,hu⟩|⟨rfl,hu⟩|⟨rfl,hu⟩<;>exact⟨_,hu⟩
def ayE {cap:Nat->Option CSig}{P:Program}{K:TypeId}{kt et:Ty}(hk:CJ P K kt=true){v:Value}{d:D}(hv:Rep cap V kt v d)(arr:Array MapEntry)(ds:List (D×D))(hl:ds.length=arr.size)
 (aS:∀(j:Nat) (e:MapEntry) (p:D×D),arr[j]?=some e->ds[j]?=some p->Rep cap V kt e.key p.1/\Rep cap V et e.val p.2) (w:World):
 ((Instr.findKey K v arr.toList).run P w=.ok none w/\nr d ds=none/\∀u,l9 d u ds=ds++[(d,u)])\/
 ∃j e p,arr[j]?=some e/\ds[j]?=some p/\(Instr.findKey K v arr.toList).run P w=.ok (some (j,e.val)) w/\nr d ds=some p.2/\(∀u,l9 d u ds=ds.set j (d,u))/\Instr.sameBits 10000 e.key v=true:=by
 obtain⟨k,k',e,q,i,rfl,hu,hq,hp,hi,hc⟩:=ad9 hk;have de:∀(v':Value) (d':D),Rep cap V (.agg [.int k,.int k']) v' d'->(Op.equal K v v').run P w=.ok (fj d d') w/\(fj d d'=true->Instr.sameBits 10000 v' v=true)/\Instr.sameNow (.array 2 e) v v'=none:=by
  intro v' d' h';obtain⟨a,b,rfl,rfl⟩:=hv.pair_inv;obtain⟨a',b',rfl,rfl⟩:=h'.pair_inv;refine⟨?_,λhe=>?_,rfl⟩
  .rw[ayD hu hq hp hi hc];simp[fj,D.cells,sN,uI]
  .have:a=a'/\b=b':=by simpa [fj,D.cells,sN,uI] using he
   obtain⟨rfl,rfl⟩:=this;simp[Instr.sameBits]
 have ask:∀(es:List MapEntry) (ds:List (D×D)) (i:Nat),ds.length=es.length->(∀(j:Nat) (e:MapEntry) (p:D×D),es[j]?=some e->ds[j]?=some p->Rep cap V (.agg [.int k,.int k']) e.key p.1)->
  ((Instr.findAsking K v es i).run P w=.ok none w/\∀(j:Nat) (p:D×D),ds[j]?=some p->fj d p.1=false)\/
  ∃j e p,es[j]?=some e/\ds[j]?=some p/\(Instr.findAsking K v es i).run P w=.ok (some (i+j,e.val)) w/\fj d p.1=true/\Instr.sameBits 10000 e.key v=true/\∀m q,m<j->ds[m]?=some q->fj d q.1=false:=by
  intro es
  induction es with
  |nil=>intro ds i hl _;left;exact⟨by simp[Instr.findAsking],by cases ds<;>simp_all⟩
  |cons en es ih=>
   intro ds i hl aS;cases ds with
   |nil=>simp at hl
   |cons p ds=>
    obtain⟨hs,hb,_⟩:=de en.key p.1 (aS 0 en p rfl rfl);cases oa:fj d p.1 with
    |true=>
     right;rw[oa] at hs;exact⟨0,en,p,rfl,rfl,by simp[Instr.findAsking,hs],oa,hb oa,λm q hm=>by omega⟩
    |false=>
     rw[oa] at hs;rcases ih ds (i+1) (by simpa using hl) (λj e' p' he hp=>aS (j+1) e' p' (by simpa using he) (by simpa using hp)) with⟨h1,h2⟩|⟨j,e',p',h1,h2,h3,h4,h5,h6⟩
     .left;refine⟨by simp[Instr.findAsking,hs,h1],λj q hq=>?_⟩;cases j with
      |zero=>simp at hq;subst hq;exact oa
      |succ j=>exact h2 j q (by simpa using hq)
     .right;refine⟨j+1,e',p',by simpa using h1,by simpa using h2,?_,h4,h5,λm q hm hq=>?_⟩
      .simp[Instr.findAsking,hs,h3];omega
      .cases m with
       |zero=>simp at hq;subst hq;exact oa
       |succ m=>exact h6 m q (by omega) (by simpa using hq)
 have lR:(Instr.findKey K v arr.toList).run P w=(Instr.findAsking K v arr.toList 0).run P w:=by
  cases j2:arr.toList with
  |nil=>simp[Instr.findKey,run_underlying hu,Instr.findNow,Instr.findAsking]
  |cons en es=>
   obtain⟨p,Cw⟩:∃p,ds[0]?=some p:=by
        have:0<ds.length:=by rw[hl];have:=congrArg List.length j2;simp at this;omega
        exact⟨_,bI this⟩
   have RO:arr[0]?=some en:=by rw[<-D5,j2];rfl
   have:=(de en.key p.1 (aS 0 en p RO Cw).1).2.2;simp[Instr.findKey,run_underlying hu,Instr.findNow,this]
 rw[lR];rcases ask arr.toList ds 0 (by simpa using hl) (λj e p he hp=>(aS j e p (by simpa using he) hp).1) with⟨h1,h2⟩|⟨j,e,p,h1,h2,h3,h4,h5,h6⟩
 .left;exact⟨h1,Tp h2,λu=>UH h2⟩
 .right;simp only[iM] at h3;exact⟨j,e,p,by simpa using h1,h2,h3,Tq h2 h4 h6,λu=>UI h2 h4 h6,h5⟩
def run_findKey {cap:Nat->Option CSig}{P:Program}{K:TypeId}{kt et:Ty}(gD:wX P K kt=true){v:Value}{d:D}(hv:Rep cap V kt v d)(arr:Array MapEntry)(ds:List (D×D))(hl:ds.length=arr.size)
 (aS:∀(j:Nat) (e:MapEntry) (p:D×D),arr[j]?=some e->ds[j]?=some p->Rep cap V kt e.key p.1/\Rep cap V et e.val p.2) (w:World):
 ((Instr.findKey K v arr.toList).run P w=.ok none w/\nr d ds=none/\∀u,l9 d u ds=ds++[(d,u)])\/
 ∃j e p,arr[j]?=some e/\ds[j]?=some p/\(Instr.findKey K v arr.toList).run P w=.ok (some (j,e.val)) w/\nr d ds=some p.2/\(∀u,l9 d u ds=ds.set j (d,u))/\Instr.sameBits 10000 e.key v=true:=by
 rcases ad8 gD with hk|hk
 case inr=>exact ayE hk hv arr ds hl aS w
 obtain⟨desc,hu⟩:=atP hk;rcases aoR hk hu hv arr.toList ds 0 (by simpa using hl) (λj e p he hp=>(aS j e p (by simpa using he) hp).1) with⟨h1,h2⟩|⟨j,e,p,h1,h2,h3,h4,h5,h6⟩
 .left;exact⟨by simp[Instr.findKey,run_underlying hu,h1],Tp h2,λu=>UH h2⟩
 .right;refine⟨j,e,p,by simpa using h1,h2,?_,Tq h2 h4 h6,λu=>UI h2 h4 h6,h5⟩;simp only[iM] at h3;simp[Instr.findKey,run_underlying hu,h3]
def awz (h:Inv C S O V own hv w0 σ0 A a w)(hC:CtxOK C σ0)(hg:holds gs O=true){T:TypeId}{m k:Operand}{ok:Bool}{r:Sh×List PI}(hr:C5 C S gs dst T m k ok=some r){o:Oper}(ho:o.op=.lookup T m k ok):
 fe C S O V hv Z dst a w o r:=by
 unfold C5 at hr;split at hr
 case h_2=>cases hr
 rename_i K E hT;simp only[ay] at hr;obtain⟨p,hp,q,hq,hr⟩:=hr;have aY:=ZK h hC hg hp;have eu:=cK h hC hg hq;split at hr
 case h_2=>cases hr
 rename_i kt et e1;rw[e1] at aY;split at hr
 case h_2=>cases hr
 rename_i z inf hz pA;cases hc:(Ty.beq q.1 kt&&wX C.P K kt&&Ty.sub z.1 et&&vy inf et)<;>simp only[hc,zyy,zyx] at hr
 .cases hr
 simp only[au] at hc;obtain⟨⟨⟨L2,F6⟩,cn⟩,hzero⟩:=hc;rw[Ty.beq_eq _ _ L2] at eu;obtain⟨v0,uB,GD⟩:∃v0,inf.zero=some v0/\Rep C.cap V et v0 z.2:=by
  unfold vy at hzero;split at hzero
  .rename_i v0 e0;exact⟨v0,e0,(AB hz hzero).1.sub cn⟩
  .cases hzero
 have aro:∃(arr:Array MapEntry) (ds:List (D×D)),(p.2.ev O).m=ds/\ds.length=arr.size/\
  (∀(j:Nat) (e:MapEntry) (p:D×D),arr[j]?=some e->ds[j]?=some p->Rep C.cap V kt e.key p.1/\Rep C.cap V et e.val p.2)/\
  ((a.eval m=.map none/\arr=#[])\/∃g clock,a.eval m=.map (some g)/\w.heap[g]?=some (.map arr clock)):=by
  rcases aY with aY|⟨T',e,cells,xs,ht,_⟩|⟨g,arr,clock,es,kt',et',ht,hvm,hb,hd,hl,hx,aS⟩
  .generalize zg:a.eval m=v at aY;generalize FU:p.2.ev O=d at aY;cases aY with
   |mapnil=>exact⟨#[],[],by simp[D.m],rfl,by simp,.inl ⟨rfl,rfl⟩⟩
   |map kt et r gZ es hm hl hx hk he=>
    obtain⟨arr,clock,hb,j2⟩:=(h.ok.m _ _ hm).mp (GV hl hk) (aeW hl hk);have hn:es.length=arr.size:=by rw[hl,<-j2];simp[entriesOf]
    refine⟨arr,es,by simp[D.m],hn,λj e p hj hp=>?_,.inr ⟨r,clock,rfl,hb⟩⟩;have:gZ[j]?=some (e.key,e.val):=by rw[<-j2];simp[entriesOf,hj]
    exact⟨hk j _ p this hp,he j _ p this hp⟩
  .cases ht
  .cases ht;exact⟨arr,es,by rw[hd];rfl,hl,aS,.inr ⟨g,clock,hvm,hb⟩⟩
 obtain⟨arr,ds,hd,hl,aS,cC⟩:=aro;have gR:∀b,(Instr.checkKey b 10000 K (a.eval k)).run C.P w=.ok () w:=λb=>aaY (cap:=C.cap) (V:=V) F6 eu;have R5:∃u b x,(Instr.lookup T (a.eval m) (a.eval k) ok).run C.P w=.ok (if ok then .tuple #[u,.bool b] else u) w/\(nr (q.2.ev O) (p.2.ev O).m).getD z.2=x/\(nr (q.2.ev O) (p.2.ev O).m).isSome=b/\Rep C.cap V et u x:=by
  rw[hd];rcases run_findKey F6 eu arr ds hl aS w with⟨h1,h2,_⟩|⟨j,e,x,h1,h2,h3,h4,_,_⟩
  .refine⟨v0,false,z.2,?_,by rw[h2];rfl,by rw[h2];rfl,GD⟩;rcases cC with⟨em,rfl⟩|⟨g,clock,em,hb⟩
   .simp only[List.toList_toArray] at h1;cases ok<;>simp[Instr.lookup,run_underlying hT,em,gR,h1,zeroValue,run_typeInfo w pA,uB]
   .cases ok<;>simp[Instr.lookup,run_underlying hT,em,getObj,Sem.run,hb,gR,h1,zeroValue,run_typeInfo w pA,uB]
  .refine⟨e.val,true,x.2,?_,by rw[h4];rfl,by rw[h4];rfl,(aS j e x h1 h2).2⟩;rcases cC with⟨em,rfl⟩|⟨g,clock,em,hb⟩
   .simp at h1
   .cases ok<;>simp[Instr.lookup,run_underlying hT,em,getObj,Sem.run,hb,gR,h3]
 obtain⟨u,b,x,ar,ot,S5,bX⟩:=R5;cases ok with
 |true=>
  simp only[zyy] at hr;cases hr;refine .dat (v:=.tuple #[u,.bool b]) (by simp[execOp,ho,ar]) ?_;simp only[PE.ev,PE.evs,ot,S5];refine .tup [et,.bool] [u,.bool b] [x,.v (.bool b)] rfl rfl (λi t hi=>?_)
  match i,hi with
  |0,hi=>simp at hi;subst hi;exact bX
  |1,hi=>simp at hi;subst hi;exact .bool b
  |i+2,hi=>simp at hi
 |false=>
  simp only[zyx] at hr;cases hr;refine .dat (v:=u) (by simp[execOp,ho,ar]) ?_;simp only[PE.ev,ot];exact bX
end
def abQ (off:Nat):∀(l:List Value) (s:Nat) (cells:Array Value),off+s+l.length<=cells.size->
 ((l.zipIdx s).foldl (λcs (x:Value×Nat)=>cs.setIfInBounds (off+x.2) x.1) cells).size=cells.size/\
 ∀p,((l.zipIdx s).foldl (λcs (x:Value×Nat)=>cs.setIfInBounds (off+x.2) x.1) cells)[p]?=if off+s<=p/\p<off+s+l.length then l[p-(off+s)]? else cells[p]?
 |[],s,cells,_=>by
  refine⟨rfl,λp=>?_⟩;have:¬(off+s<=p/\p<off+s+0):=by omega
  simp only[List.zipIdx_nil,aab,tN];rw[if_neg this]
 |v::l,s,cells,h=>by
  simp only[mY] at h;obtain⟨h1,h2⟩:=abQ off l (s+1) (cells.setIfInBounds (off+s) v) (by simp;omega);simp only[List.zipIdx_cons,Jc];refine⟨by rw[h1];simp,λp=>?_⟩;rw[h2 p];by_cases hp:p=off+s
  .subst hp;have c1:¬(off+(s+1)<=off+s/\off+s<off+(s+1)+l.length):=by omega
   have c2:off+s<=off+s/\off+s<off+s+(v::l).length:=by simp
   rw[if_neg c1,if_pos c2,xS,if_pos rfl,if_pos (by omega)];simp
  .by_cases hc:off+(s+1)<=p/\p<off+(s+1)+l.length
   .have c2:off+s<=p/\p<off+s+(v::l).length:=by simp only[mY];omega
    rw[if_pos hc,if_pos c2];rw[show p-(off+s)=(p-(off+(s+1)))+1 by omega];simp
   .have c2:¬(off+s<=p/\p<off+s+(v::l).length):=by simp only[mY];omega
    rw[if_neg hc,if_neg c2,xS];rw[if_neg (by omega)]
def Q9 (place:Nat->Option (Nat×Nat)):∀(parts:List (Nat×Value)) (cells:Array Value),
 (∀p,p∈parts->∃o,place p.1=some (o,p.2.cells.size)/\o+p.2.cells.size<=cells.size)->
 (∀i j oi si oj sj,i≠j->place i=some (oi,si)->place j=some (oj,sj)->oi+si<=oj\/oj+sj<=oi)->(parts.map (·.1)).Nodup->
 ∃dI,Instr.fill place cells parts=some dI/\dI.size=cells.size/\
  (∀i v o,(i,v)∈parts->place i=some (o,v.cells.size)->∀m,m<v.cells.size->dI[o+m]?=v.cells[m]?)/\
  (∀i o s,i∉parts.map (·.1)->place i=some (o,s)->∀m,m<s->dI[o+m]?=cells[o+m]?)
 |[],cells,_,_,_=>⟨cells,rfl,rfl,by simp,λ_ _ _ _ _ _ _=>rfl⟩
 |(i,v)::parts,cells,h,Ck,bC=>by
  obtain⟨o,hp,hle⟩:=h (i,v) (dZ ..);simp only at hp hle;obtain⟨g1,g2⟩:=abQ o v.cells.toList 0 cells (by simp;omega);simp only[fO,nO] at bC
  have hz:v.cells.zipIdx.foldl (λcs (x:Value×Nat)=>cs.setIfInBounds (o+x.2) x.1) cells=(v.cells.toList.zipIdx 0).foldl (λcs (x:Value×Nat)=>cs.setIfInBounds (o+x.2) x.1) cells:=by
    rw[<-Array.foldl_toList];simp
  generalize hc1:(v.cells.toList.zipIdx 0).foldl (λcs (x:Value×Nat)=>cs.setIfInBounds (o+x.2) x.1) cells=c1 at g1 g2 hz
  obtain⟨dI,k1,k2,k3,k4⟩:=Q9 place parts c1 (λp hm=>by
    obtain⟨o',h1,h2⟩:=h p (dV _ hm);exact⟨o',h1,by rw[g1];exact h2⟩) Ck bC.2
  refine⟨dI,?_,k2.trans g1,?_,?_⟩
  .simp only[Instr.fill,hp];have:¬((v.cells.size≠v.cells.size||decide (o+v.cells.size>cells.size))=true):=by simp;omega
   rw[if_neg this];rw[<-k1,<-hz]
  .intro j u o' hm Cy m ak;rcases cU.1 hm with e|bP
   .cases e;rw[hp] at Cy;cases Cy;rw[k4 i o v.cells.size bC.1 hp m ak,g2];rw[if_pos (by simp;omega)];simp
   .exact k3 j u o' bP Cy m ak
  .intro j o' s' oe Cy m ak;simp only[fO,cU,not_or] at oe;rw[k4 j o' s' oe.2 Cy m ak,g2];have:=Ck i j o v.cells.size o' s' (λe=>oe.1 e.symm) hp Cy;rw[if_neg (by simp;omega)]
section
variable {C:Ctx} {S:St} {O:Env} {V:Im} {own:Nat->Option Nat} {hv:Nat->Value} {w0:World} {σ0:Base} {A:Nat->Prop} {a:Act} {w:World} {gs:List (Nat×Bool)} {Z:aQ} {dst:Nat}
def Rep.flat {cap:Nat->Option CSig}{t:Ty}{v:Value}{d:D}(h:Rep cap V t v d)(ht:t.rowT=true\/t.one=true):
 t.flat.length=t.size/\d.cells.length=t.size/\∀(m:Nat) (tm:Ty),t.flat[m]?=some tm->tm.one=true/\Rep cap V tm (v.cells.getD m undef) (d.cells.getD m .none):=by
 cases h with
 |agg ts vs ds h1 h2 h ho=>
  refine⟨rfl,by simp[D.cells,Ty.size,h2],λm tm hm=>⟨ho m tm hm,?_⟩⟩;have:=h m tm hm;simpa [Value.cells,D.cells,eM,aK] using this
 |tup ts vs ds h1 h2 h=>simp[Ty.rowT,Ty.one] at ht
 |_=>
  refine⟨rfl,rfl,λm tm hm=>?_⟩
  match m,hm with
  |0,hm=>
   simp only[Ty.flat,Pj,aX] at hm;subst hm;refine⟨rfl,?_⟩;simp only[Value.cells,D.cells,qs];constructor<;>assumption
  |m+1,hm=>simp[Ty.flat] at hm
def mH:∀{l:List Nat},ix l=true->l.Nodup
 |[],_=>List.nodup_nil
 |a::r,h=>by
  simp only[ix,au,iZ] at h;refine nO.2 ⟨λhm=>?_,mH h.2⟩;have:=List.any_eq_false.1 h.1 a hm;simp at this
def Laid (P:Program):List Field->Nat->Prop
 |[],_=>True
 |f::fs,off=>f.offset=off/\∃inf,P.info? f.type=some inf/\Laid P fs (off+inf.size)
def Laid.get {P:Program}:∀{fs:List Field} {off:Nat},Laid P fs off->∀(i:Nat) (f:Field),fs[i]?=some f->∃inf,P.info? f.type=some inf/\off<=f.offset/\
 ∀(j:Nat) (g:Field),i<j->fs[j]?=some g->f.offset+inf.size<=g.offset
 |[],_,_,i,f,hi=>by simp at hi
 |f0::fs,off,h,i,f,hi=>by
  obtain⟨h1,inf,h2,h3⟩:=h;cases i with
  |zero=>
   simp at hi;subst hi;refine⟨inf,h2,by omega,λj g hj hg=>?_⟩;cases j with
   |zero=>omega
   |succ j=>obtain⟨_,_,h4,_⟩:=h3.get j g (by simpa using hg);omega
  |succ i=>
   simp at hi;obtain⟨atx,k1,k2,k3⟩:=h3.get i f hi;refine⟨atx,k1,by omega,λj g hj hg=>?_⟩;cases j with
   |zero=>omega
   |succ j=>exact k3 j g (by omega) (by simpa using hg)
def ag7 {ft:Ty}{x:Operand}{y:List AgC×PE}(h:uP C S gs ft x=some y):y.1.length=ft.size:=by
 have Re:∀t:Ty,t.flat.length=t.size:=λt=>by cases t<;>simp[Ty.flat,Ty.size]
 unfold uP at h;split at h
 .rename_i a _;cases hs:(Ty.sub a.1 ft&&(a.1.rowT||a.1.one))<;>simp only[hs,zyy,zyx] at h
  .cases h
  cases h;simp only[au] at hs;rw[fw,Re,(Ty.sub_one _ _ hs.1).2]
 .split at h
  .rename_i j ver _;cases hb:(Nat.beq ver (S.ver j)&&Td (S.o j)&&Nat.beq ft.size 1)<;>simp only[hb,zyy,zyx] at h
   .cases h
   cases h;simp only[au] at hb;exact(aC hb.2).symm
  .cases h
def ag8 (h:Inv C S O V own hv w0 σ0 A a w)(hC:CtxOK C σ0)(hg:holds gs O=true){ft:Ty}{x:Operand}{y:List AgC×PE}(hy:uP C S gs ft x=some y):
 (a.eval x).cells.size=ft.size/\(y.2.ev O).cells.length=ft.size/\∀(m:Nat) (c:AgC),y.1[m]?=some c->nM C S V hv c ((a.eval x).cells.getD m undef) ((y.2.ev O).cells.getD m .none):=by
 unfold uP at hy;split at hy
 .rename_i q hq;cases hs:(Ty.sub q.1 ft&&(q.1.rowT||q.1.one))<;>simp only[hs,zyy,zyx] at hy
  .cases hy
  cases hy;simp only[au,fZ] at hs;have hr:=cK h hC hg hq;obtain⟨f1,f2,f3⟩:=hr.flat hs.2;have e:=(Ty.sub_one _ _ hs.1).2;refine⟨by rw[hr.size,e],by rw[f2,e],λm c hm=>?_⟩;simp only[cL,aD] at hm;obtain⟨t,ht,rfl⟩:=hm;exact f3 m t ht
 .split at hy
  .rename_i j ver gG;cases hb:(Nat.beq ver (S.ver j)&&Td (S.o j)&&Nat.beq ft.size 1)<;>simp only[hb,zyy,zyx] at hy
   .cases hy
   cases hy;simp only[au] at hb;obtain⟨⟨eP,cB⟩,Ce⟩:=hb;have dY:=aC eP;have aF:=aC Ce;have eJ:aI C S O V hv (fN S gs x) (a.eval x) ((rN x).ev O):=by
        cases x with
        |tmp t=>exact(nF h hg t).1
        |_=>cases gG
   rw[gG] at eJ;have aV:=eJ.2 dY;have bo:=h.objs j;have hc:(a.eval x).cells=#[a.eval x]:=by
        rw[aV];cases ho:S.o j with
        |row T e=>
         rw[ho] at bo;obtain⟨cells,xs,_,h2,_⟩:=bo;rcases h2.2 with⟨e1,_⟩|⟨g,cap,cur,e1,_⟩<;>rw[e1]<;>rfl
        |_=>rw[ho] at cB;cases cB
   refine⟨by rw[hc,aF];rfl,by rw[aF];rfl,λm c hm=>?_⟩;cases m with
   |zero=>
    simp at hm;subst hm;rw[hc];exact eJ
   |succ m=>simp at hm
  .cases hy
def amJ {zs:List Value}{parts:List (Nat×Operand)}:∀(fs:List Field) (i off:Nat) (r:List AgC×List PE),lI C S gs zs parts fs i off=some r->Laid C.P fs off:=by
 intro fs
 induction fs with
 |nil=>intro i off r _;trivial
 |cons f fs ih=>
  intro i off r h;simp only[lI] at h;split at h
  case h_2=>cases h
  rename_i inf ft hi ht;cases hc:(Nat.beq f.offset off&&Nat.beq inf.size ft.size)<;>simp only[hc,zyy,zyx] at h
  .cases h
  simp only[au] at hc;simp only[ay] at h;obtain⟨q,hq,_⟩:=h;exact⟨aC hc.1,inf,hi,ih _ _ _ hq⟩
def aaO {zs:List Value}{parts:List (Nat×Operand)}:∀(fs:List Field) (i off:Nat) (r:List AgC×List PE),lI C S gs zs parts fs i off=some r->off<=zs.length:=by
 intro fs
 induction fs with
 |nil=>intro i off r h;simp only[lI] at h;cases hb:Nat.beq off zs.length<;>simp[hb] at h;exact Nat.le_of_eq (aC hb)
 |cons f fs ih=>
  intro i off r h;simp only[lI] at h;split at h
  case h_2=>cases h
  rename_i inf ft hi ht;cases hc:(Nat.beq f.offset off&&Nat.beq inf.size ft.size)<;>simp only[hc,zyy,zyx] at h
  .cases h
  simp only[ay] at h;obtain⟨q,hq,_⟩:=h;have:=ih _ _ _ hq;omega
def amI {zs:List Value}{parts:List (Nat×Operand)}:∀(fs:List Field) (i off:Nat) (r:List AgC×List PE),lI C S gs zs parts fs i off=some r->
 ∃ft:List AgC×List PE,r=ft/\(∀(m:Nat) (f:Field) (inf:TypeInfo),fs[m]?=some f->C.P.info? f.type=some inf->f.offset+inf.size<=zs.length)/\(∀(m:Nat) (x:Nat×Operand) (f:Field) (inf:TypeInfo),fs[m]?=some f->C.P.info? f.type=some inf->parts.find? (λp=>Nat.beq p.1 (i+m))=some x->∃y ft,uP C S gs ft x.2=some y/\ft.size=inf.size)/\off+r.1.length=zs.length:=by
 intro fs
 induction fs with
 |nil=>intro i off r h;simp only[lI] at h;cases hb:Nat.beq off zs.length<;>simp[hb] at h;subst h;exact⟨_,rfl,by simp,by simp,by simpa using aC hb⟩
 |cons f fs ih=>
  intro i off r h;simp only[lI] at h;split at h
  case h_2=>cases h
  rename_i inf ft hi ht;cases hc:(Nat.beq f.offset off&&Nat.beq inf.size ft.size)<;>simp only[hc,zyy,zyx] at h
  .cases h
  simp only[au] at hc;have j3:=aC hc.1;have aF:=aC hc.2;simp only[ay] at h;obtain⟨q,hq,h⟩:=h;have hle:=aaO _ _ _ _ hq;obtain⟨_,rfl,k1,k2,k3⟩:=ih _ _ _ hq;have e1:∀(m:Nat) (g:Field) (ig:TypeInfo),(f::fs)[m]?=some g->C.P.info? g.type=some ig->g.offset+ig.size<=zs.length:=by
   intro m g ig hm gS;cases m with
   |zero=>simp at hm;subst hm;rw[hi] at gS;cases gS;omega
   |succ m=>exact k1 m g ig (by simpa using hm) gS
  have Re:∀t:Ty,t.flat.length=t.size:=λt=>by cases t<;>simp[Ty.flat,Ty.size]
  split at h
  .rename_i x hx;simp only[aD] at h;obtain⟨y,hy,rfl⟩:=h;refine⟨_,rfl,e1,λm x' g ig hm gS hf=>?_,?_⟩
   .cases m with
    |zero=>
     simp at hm;subst hm;rw[hi] at gS;cases gS;simp only[jA] at hf;rw[hx] at hf;cases hf;exact⟨y,ft,hy,aF.symm⟩
    |succ m=>exact k2 m x' g ig (by simpa using hm) gS (by rwa [show i+(m+1)=i+1+m by omega] at hf)
   .have:=ag7 hy;simp only[mh];omega
  .rename_i hx;cases nm:kl ft (rowOf ft.rowT ((zs.drop off).take inf.size))<;>simp only[nm,zyy,zyx] at h
   .cases h
   simp only[aD] at h;obtain⟨z,hz,rfl⟩:=h;have dj:=(AB (cap:=C.cap) (V:=⟨λ_ _=>none,λ_=>none⟩) hz nm).2.1;refine⟨_,rfl,e1,λm x' g ig hm gS hf=>?_,?_⟩
   .cases m with
    |zero=>simp only[jA] at hf;rw[hx] at hf;cases hf
    |succ m=>exact k2 m x' g ig (by simpa using hm) gS (by rwa [show i+(m+1)=i+1+m by omega] at hf)
   .have:=(Ty.sub_one _ _ dj).2;simp only[mh,fw,Re];omega
def amK (h:Inv C S O V own hv w0 σ0 A a w)(hC:CtxOK C σ0)(hg:holds gs O=true){zs:List Value}{parts:List (Nat×Operand)}(cells:Array Value):
 ∀(fs:List Field) (i off:Nat) (r:List AgC×List PE),lI C S gs zs parts fs i off=some r->
  (∀(m:Nat) (f:Field) (inf:TypeInfo),fs[m]?=some f->C.P.info? f.type=some inf->
        (∀x,parts.find? (λp=>Nat.beq p.1 (i+m))=some x->∀q,q<inf.size->cells[f.offset+q]?=(a.eval x.2).cells[q]?)/\
        (parts.find? (λp=>Nat.beq p.1 (i+m))=none->∀q,q<inf.size->cells[f.offset+q]?=zs[f.offset+q]?))->
  (PE.evc O r.2).length=r.1.length/\∀(m:Nat) (c:AgC),r.1[m]?=some c->nM C S V hv c (cells.getD (off+m) undef) ((PE.evc O r.2).getD m .none):=by
 intro fs
 induction fs with
 |nil=>intro i off r hr _;simp only[lI] at hr;cases hb:Nat.beq off zs.length<;>simp[hb] at hr;subst hr;simp[PE.evc]
 |cons f fs ih=>
  intro i off r hr aS;simp only[lI] at hr;split at hr
  case h_2=>cases hr
  rename_i inf ft hi ht;cases hc:(Nat.beq f.offset off&&Nat.beq inf.size ft.size)<;>simp only[hc,zyy,zyx] at hr
  .cases hr
  simp only[au] at hc;have j3:=aC hc.1;have aF:=aC hc.2;simp only[ay] at hr;obtain⟨q,hq,hr⟩:=hr
  obtain⟨l1,wJ⟩:=ih (i+1) (off+inf.size) q hq (λm g aty hm gS=>by
   have:=aS (m+1) g aty (by simpa using hm) gS
   rwa [show i+(m+1)=i+1+m by omega] at this)
  obtain⟨hp,hn⟩:=aS 0 f inf rfl hi;have join:∀(l:List AgC) (v:Value) (d:D) (pe:PE),pe.ev O=d->l.length=inf.size->d.cells.length=inf.size->(∀m c,l[m]?=some c->nM C S V hv c (v.cells.getD m undef) (d.cells.getD m .none))->(∀m,m<inf.size->cells[f.offset+m]?=v.cells[m]?)->
        (PE.evc O (pe::q.2)).length=(l++q.1).length/\∀(m:Nat) (c:AgC),(l++q.1)[m]?=some c->nM C S V hv c (cells.getD (off+m) undef) ((PE.evc O (pe::q.2)).getD m .none):=by
   intro l v d pe wF f1 f2 f3 bh;simp only[PE.evc,wF];refine⟨by simp[f1,f2,l1],λm t' hm=>?_⟩;rw[mX] at hm;split at hm
   .rename_i ak;have g2:=f3 m t' hm;have e1:cells.getD (off+m) undef=v.cells.getD m undef:=by
     rw[eM,eM,<-j3,bh m (by omega)]
    have e2:(d.cells++PE.evc O q.2).getD m .none=d.cells.getD m .none:=by
     rw[aK,aK,kL (by omega)]
    rw[e1,e2];exact g2
   .rename_i eQ;have g2:=wJ _ t' hm;have e1:off+inf.size+(m-l.length)=off+m:=by omega
    have e2:(d.cells++PE.evc O q.2).getD m .none=(PE.evc O q.2).getD (m-l.length) .none:=by
     rw[aK,aK,mf (by omega)];rw[f1,<-f2]
    rw[e1] at g2;rw[e2];exact g2
  simp only[jA] at hp hn;split at hr
  .rename_i x hx;simp only[aD] at hr;obtain⟨y,hy,rfl⟩:=hr;obtain⟨g1,g2,g3⟩:=ag8 h hC hg hy;exact join y.1 (a.eval x.2) (y.2.ev O) y.2 rfl (by rw[ag7 hy,aF]) (by rw[g2,aF]) g3 (hp x hx)
  .rename_i hx;cases nm:kl ft (rowOf ft.rowT ((zs.drop off).take inf.size))<;>simp only[nm,zyy,zyx] at hr
   .cases hr
   simp only[aD] at hr;obtain⟨z,hz,rfl⟩:=hr;obtain⟨k1,k2,k3⟩:=AB (cap:=C.cap) (V:=V) hz nm;have L5:(rowOf ft.rowT ((zs.drop off).take inf.size)).cells.size=inf.size:=by rw[k1.size,(Ty.sub_one _ _ k2).2,aF]
   have jf:z.1.rowT=true\/z.1.one=true:=by
        cases ft<;>simp[qn,rT] at hz<;>first|(subst hz;simp[Ty.one])|(obtain⟨_,_,rfl⟩:=hz;simp[Ty.rowT])
   obtain⟨z1,z2,z3⟩:=k1.flat jf;have ez:z.1.size=inf.size:=by rw[(Ty.sub_one _ _ k2).2,aF]
   refine join (z.1.flat.map .dat) (rowOf ft.rowT ((zs.drop off).take inf.size)) z.2 (.con z.2) rfl (by rw[fw,z1,ez]) (by rw[z2,ez]) (λm c hm=>?_) (λm hm=>?_)
   .simp only[cL,aD] at hm;obtain⟨t,ht,rfl⟩:=hm;exact z3 m t ht
   .rw[hn hx m hm,j3];cases wK:ft.rowT with
    |true=>simp[rowOf,Value.cells,gx,gP,hm]
    |false=>
     rw[wK] at L5 k1;have h1:(z.1).rowT=false:=by
       have:=(Ty.sub_one _ _ k2)
       cases ft<;>simp[Ty.rowT] at wK<;>simp[qn,rT] at hz<;>subst hz<;>rfl
     rw[k1.cells1 h1] at L5 ⊢;simp at L5;have hm0:m=0:=by omega
     subst hm0;have:∃u,zs[off]?=some u:=⟨_,bI (show off<zs.length by have:=aaO _ _ _ _ hq;omega)⟩
     simp[rowOf,aK,gx,gP,<-L5];obtain⟨u,hu⟩:=this;simp[hu]
def aea {P:Program}:∀(fs:List Field) (off:Nat),Laid P fs off->
 ∃l:List (Nat×Nat),fs.mapM (λf=>(P.info? f.type).map λi=>(f.offset,i.size))=some l/\l.length=fs.length/\
  ∀(i:Nat) (f:Field) (inf:TypeInfo),fs[i]?=some f->P.info? f.type=some inf->l[i]?=some (f.offset,inf.size)
 |[],_,_=>⟨[],rfl,rfl,by simp⟩
 |f::fs,off,h=>by
  obtain⟨h1,inf,h2,h3⟩:=h;obtain⟨l,k1,k2,k3⟩:=aea fs _ h3;refine⟨(f.offset,inf.size)::l,?_,by simp[k2],λi g ig hi gS=>?_⟩
  .simp[aae,h2,k1]
  .cases i with
   |zero=>simp at hi;subst hi;rw[h2] at gS;cases gS;rfl
   |succ i=>simp at hi;simpa using k3 i g ig hi gS
def abF {parts:List (Nat×Operand)}(bC:(parts.map (·.1)).Nodup){i:Nat}{x:Operand}(h:(i,x)∈parts):parts.find? (λp=>Nat.beq p.1 i)=some (i,x):=by
 induction parts with
 |nil=>cases h
 |cons p ps ih=>
  simp only[fO,nO] at bC;rcases cU.1 h with e|hm
  .subst e;simp
  .have:¬p.1=i:=λe=>bC.1 (e▸List.mem_map_of_mem (f:=(·.1)) hm);rw[List.find?_cons_of_neg (by simpa using this)];exact ih bC.2 hm
def awg (h:Inv C S O V own hv w0 σ0 A a w)(hC:CtxOK C σ0)(hg:holds gs O=true){T:TypeId}{ps:Array (Nat×Operand)}{r:Sh×List PI}(hr:CX C S gs dst T ps.toList=some r){o:Oper}(ho:o.op=.build T ps):
 fe C S O V hv Z dst a w o r:=by
 unfold CX at hr;split at hr
 case h_3=>cases hr
 case h_2=>
  rename_i n e inf hT pA;split at hr
  case h_2=>cases hr
  rename_i zs ie hz hie;split at hr
  case h_2=>cases hr
  rename_i x y uy;simp only[ay] at hr;obtain⟨p,hp,q,hq,hr⟩:=hr;split at hr
  case h_2=>cases hr
  rename_i k k' hk br;cases hc:(Nat.beq n 2&&Nat.beq zs.size 2&&Nat.beq ie.size 1)<;>simp only[hc,zyy,zyx] at hr
  .cases hr
  cases hr;simp only[au] at hc;obtain⟨⟨c1,c2⟩,c3⟩:=hc;have c1:=aC c1;have c2:=aC c2;have c3:=aC c3;subst c1;have hx:=cK h hC hg hp;have hy:=cK h hC hg hq;rw[hk] at hx;rw[br] at hy;obtain⟨a1,QZ,ea2,_⟩:=hx.int_inv;obtain⟨b1,Q0,eb2,_⟩:=hy.int_inv;have asA:ps=#[(0,x),(1,y)]:=by rw[<-vz];exact uy
  obtain⟨z0,z1,rfl⟩:∃z0 z1,zs=#[z0,z1]:=by
   match zs,c2 with
   |⟨[z0,z1]⟩,_=>exact⟨z0,z1,rfl⟩
  have RD:C.P.built T [(0,a.eval x),(1,a.eval y)]=some #[a.eval x,a.eval y]:=by
   rw[QZ,Q0];simp only[Program.built,pA,hT,hz,hie,c3];simp[Instr.fill,Value.cells]
  have ar:(execOp a.eval o).run C.P w=.ok (.value (.agg #[a.eval x,a.eval y])) w:=by
   have:=run_build (P:=C.P) w T (ps.map λ(x:Nat×Operand)=>(x.1,a.eval x.2)) #[a.eval x,a.eval y] (by rw[asA];simpa using RD);simp[execOp,ho,this]
  refine .dat ar ?_;have e1:(PE.mk [p.2,q.2]).ev O=.agg [p.2.ev O,q.2.ev O]:=by simp[PE.ev,PE.evc,ea2,eb2,D.cells]
  rw[e1];refine .agg _ [a.eval x,a.eval y] _ rfl rfl (λi t hi=>?_) (λi t hi=>?_)
  .match i,hi with
   |0,hi=>simp at hi;subst hi;rw[hk];simpa using hx
   |1,hi=>simp at hi;subst hi;rw[br];simpa using hy
   |i+2,hi=>simp at hi
  .match i,hi with
   |0,hi=>simp at hi;subst hi;rw[hk];rfl
   |1,hi=>simp at hi;subst hi;rw[br];rfl
   |i+2,hi=>simp at hi
 rename_i fs inf hT pA;split at hr
 case h_2=>cases hr
 rename_i zs hz;cases hc:(ix (ps.toList.map (·.1))&&ps.toList.all (λp=>Nat.blt p.1 fs.size))<;>simp only[hc,zyy,zyx] at hr
 .cases hr
 simp only[au] at hc;obtain⟨bC,ak⟩:=hc;simp only[aD] at hr;obtain⟨q,hq,rfl⟩:=hr;have L3:=amJ _ _ _ _ hq;have kz:=mH bC;obtain⟨_,rfl,bG,ate,RP⟩:=amI _ _ _ _ hq;obtain⟨pl,dM,aHm,Gl⟩:=aea _ _ L3
 have kB:∀p,p∈(ps.toList.map λ(x:Nat×Operand)=>(x.1,a.eval x.2))->∃o,pl.toArray[p.1]?=some (o,p.2.cells.size)/\o+p.2.cells.size<=zs.size:=by
  intro p hp;obtain⟨x,hx,rfl⟩:=dW.1 hp;have zm:x.1<fs.toList.length:=by
   have:=bR.1 ak x hx;have h2:x.1<fs.size:=by simpa [jB] using this
   simpa using h2
  obtain⟨f,hf⟩:∃f,fs.toList[x.1]?=some f:=⟨_,bI zm⟩
  obtain⟨ig,gS,_,_⟩:=L3.get _ _ hf;have FZ:=abF kz (i:=x.1) (x:=x.2) hx;obtain⟨y,ft,hy,aF⟩:=ate x.1 (x.1,x.2) f ig hf gS (by simpa using FZ);have wN:=(ag8 h hC hg hy).1;rw[aF] at wN;simp only;refine⟨f.offset,?_,?_⟩
  .rw[wN];simpa using Gl x.1 f ig hf gS
  .rw[wN];simpa using bG x.1 f ig hf gS
 have Ck:∀(i j oi si oj sj:Nat),i≠j->pl.toArray[i]?=some (oi,si)->pl.toArray[j]?=some (oj,sj)->oi+si<=oj\/oj+sj<=oi:=by
  intro i j oi si oj sj aB hi hj;simp only[Je] at hi hj;obtain⟨f,hf⟩:∃f,fs.toList[i]?=some f:=⟨_,bI (by have:=(ga.1 hi).1;omega)⟩
  obtain⟨g,Cp⟩:∃g,fs.toList[j]?=some g:=⟨_,bI (by have:=(ga.1 hj).1;omega)⟩
  obtain⟨ig,gS,_,ar1⟩:=L3.get _ _ hf;obtain⟨jg,hjg,_,ar2⟩:=L3.get _ _ Cp;rw[Gl i f ig hf gS] at hi;rw[Gl j g jg Cp hjg] at hj;cases hi;cases hj;rcases Po i j with ak|eQ
  .exact .inl (ar1 j g ak Cp)
  .exact .inr (ar2 i f (by omega) hf)
 obtain⟨dI,f1,f2,f3,f4⟩:=Q9 (pl.toArray[·]?) (ps.toList.map λ(x:Nat×Operand)=>(x.1,a.eval x.2)) zs kB Ck (by simpa [I9] using kz)
 have RD:C.P.built T (ps.toList.map λ(x:Nat×Operand)=>(x.1,a.eval x.2))=some dI:=by
  simp only[Program.built,pA,hT,hz,dM];exact f1
 have ar:(execOp a.eval o).run C.P w=.ok (.value (.agg dI)) w:=by
  have:=run_build (P:=C.P) w T (ps.map λ(x:Nat×Operand)=>(x.1,a.eval x.2)) dI (by rw[xT];exact RD);simp[execOp,ho,this]
 have yO:∀(m:Nat) (f:Field) (ig:TypeInfo),fs.toList[m]?=some f->C.P.info? f.type=some ig->
  (∀x,ps.toList.find? (λp=>Nat.beq p.1 (0+m))=some x->∀q,q<ig.size->dI[f.offset+q]?=(a.eval x.2).cells[q]?)/\
  (ps.toList.find? (λp=>Nat.beq p.1 (0+m))=none->∀q,q<ig.size->dI[f.offset+q]?=zs.toList[f.offset+q]?):=by
  intro m f ig hm gS;refine⟨λx hx p hp=>?_,λhx p hp=>?_⟩
  .have ot:x.1=m:=by have:=Ph hx;simpa using this
   have CF:(x.1,a.eval x.2)∈(ps.toList.map λ(x:Nat×Operand)=>(x.1,a.eval x.2)):=dW.2 ⟨x,vI hx,rfl⟩;obtain⟨o',eW,hle⟩:=kB _ CF;simp only at eW hle;have adi:=Gl m f ig hm gS;simp only[Je,ot] at eW;rw[adi] at eW;simp only[aX,oV] at eW;obtain⟨e1,e2⟩:=eW;exact f3 x.1 (a.eval x.2) f.offset CF (by simp[ot,adi,<-e2]) p (by omega)
  .have oe:m∉(ps.toList.map λ(x:Nat×Operand)=>(x.1,a.eval x.2)).map (·.1):=by
        intro cR;simp only[Jf,dW,I9] at cR;obtain⟨x,CF,e⟩:=cR;have:=vE.1 hx x CF;simp[e] at this
   rw[f4 m f.offset ig.size oe (by simpa using Gl m f ig hm gS) p hp];simp
 obtain⟨l1,aS⟩:=amK h hC hg dI _ _ _ _ hq yO;have Cg:dI=dI.toList.toArray:=by simp
 have hlen:dI.toList.length=q.1.length:=by simp[f2] at RP ⊢;omega
 have jF:∀(i:Nat) (c:AgC),q.1[i]?=some c->nM C S V hv c (dI.toList.getD i undef) ((PE.evc O q.2).getD i .none):=λi c hi=>by
  have:=aS i c hi;simpa [eM,aK] using this
 cases RI:q.1.all adU
 .simp only[zyx];exact λO' pG=>⟨_,_,vh pG,ar,⟨dI.toList,PE.evc O q.2,by rw[<-Cg],by simp only[PE.ev],hlen,l1,jF⟩,λ_ _ e=>by cases e⟩
 .simp only[zyy];refine .dat ar ?_;simp only[PE.ev];rw[Cg]
  have q6:∀(i:Nat) (t:Ty),(q.1.map AgC.ty)[i]?=some t->t.one=true/\Rep C.cap V t (dI.toList.getD i undef) ((PE.evc O q.2).getD i .none):=λi t hi=>by
   simp only[cL,aD] at hi;obtain⟨c,hc,rfl⟩:=hi;have h1:=jF i c hc;have h2:=bR.1 RI c (ko hc);cases c with
   |dat t=>exact h1
   |obj j ver=>cases h2
  exact .agg _ _ _ (by rw[fw];exact hlen) (by rw[fw];exact l1) (λi t hi=>(q6 i t hi).2) (λi t hi=>(q6 i t hi).1)
end
end Cx
