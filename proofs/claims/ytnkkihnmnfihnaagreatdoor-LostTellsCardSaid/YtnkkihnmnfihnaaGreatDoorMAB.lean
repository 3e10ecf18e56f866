import Derived.Test.YtnkkihnmnfihnaaGreatDoorMAA
import Derived.ChangeKeysEq
import Derived.Laws.Tables
set_option linter.all false
namespace Cx
open Go Go.RowKit
def Rep.int_inv {cap:Nat->Option CSig}{V:Im}{k:IntKind}{v:Value}{d:D}(h:Rep cap V (.int k) v d):∃n,v=.int k n/\d=.v (.int k n)/\k.min<=n/\n<=k.max:=by
 cases h with
 |int k n h1 h2=>exact⟨n,rfl,rfl,h1,h2⟩
def Rep.bool_inv {cap:Nat->Option CSig}{V:Im}{v:Value}{d:D}(h:Rep cap V .bool v d):∃b,v=.bool b/\d=.v (.bool b):=by
 cases h with
 |bool b=>exact⟨b,rfl,rfl⟩
def Rep.str_inv {cap:Nat->Option CSig}{V:Im}{v:Value}{d:D}(h:Rep cap V .str v d):∃s,v=.string s/\d=.v (.string s)/\s.size<=maxLen:=by
 cases h with
 |str s h=>exact⟨s,rfl,rfl,h⟩
def Rep.slice_inv {cap:Nat->Option CSig}{V:Im}{e:Ty}{v:Value}{d:D}(h:Rep cap V (.slice e) v d):∃xs,d=.list xs/\
 (((∃p,v=.slice p 0 0)/\xs=[])\/∃k o c,v=.slice (some ⟨k,o,none⟩) xs.length c/\xs.length<=c/\c<=maxLen/\
   ∃vs:Nat->Value,(∀(i:Nat) (x:D),xs[i]?=some x->Rep cap V e.unf (vs i) x)/\∀(i j:Nat) (u:Value),i<xs.length->(vs i).cells[j]?=some u->V.c k (o+i*e.size+j)=some u):=by
 cases h with
 |nil e=>exact⟨[],rfl,.inl ⟨⟨_,rfl⟩,rfl⟩⟩
 |emp e a=>exact⟨[],rfl,.inl ⟨⟨_,rfl⟩,rfl⟩⟩
 |slice e k o n c xs vs hn hc hm h hv=>subst hn;exact⟨xs,rfl,.inr ⟨k,o,c,rfl,hc,hm,vs,h,hv⟩⟩
def Rep.ref_inv {cap:Nat->Option CSig}{V:Im}{t:Ty}{v:Value}{d:D}(h:Rep cap V (.ref t) v d):∃k o x y,v=.pointer (some ⟨k,o,none⟩)/\d=.ref y/\Rep cap V t x y/\∀(j:Nat) (u:Value),x.cells[j]?=some u->V.c k (o+j)=some u:=by
 cases h with
 |ref t k o x y h hv=>exact⟨k,o,x,y,rfl,rfl,h,hv⟩
def Rep.agg_inv {cap:Nat->Option CSig}{V:Im}{ts:List Ty}{v:Value}{d:D}(h:Rep cap V (.agg ts) v d):∃(vs:List Value) (ds:List D),v=.agg vs.toArray/\d=.agg ds/\vs.length=ts.length/\ds.length=ts.length/\
 (∀(i:Nat) (t:Ty),ts[i]?=some t->Rep cap V t (vs.getD i undef) (ds.getD i .none))/\∀(i:Nat) (t:Ty),ts[i]?=some t->t.one=true:=by
 cases h with
 |agg ts vs ds h1 h2 h ho=>exact⟨vs,ds,rfl,rfl,h1,h2,h,ho⟩
def Rep.tup_inv {cap:Nat->Option CSig}{V:Im}{ts:List Ty}{v:Value}{d:D}(h:Rep cap V (.tup ts) v d):∃(vs:List Value) (ds:List D),v=.tuple vs.toArray/\d=.tup ds/\vs.length=ts.length/\ds.length=ts.length/\
 (∀(i:Nat) (t:Ty),ts[i]?=some t->Rep cap V t (vs.getD i undef) (ds.getD i .none)):=by
 cases h with
 |tup ts vs ds h1 h2 h=>exact⟨vs,ds,rfl,rfl,h1,h2,h⟩
def tL (k:IntKind)(n:Int):k.min<=k.wrap n/\k.wrap n<=k.max:=by
 cases k<;>simp only[IntKind.min,IntKind.max,IntKind.wrap,IntKind.signed,IntKind.bits]<;>simp<;>(try split)<;>omega
def aiR (k:IntKind){a b:Int}(ha:k.min<=a/\a<=k.max):k.min<=a.tmod b/\a.tmod b<=k.max:=by
 have h1:k.min<=0:=by cases k<;>decide
 have h2:0<=k.max:=by cases k<;>decide
 have hn:(a.tmod b).natAbs<=a.natAbs:=by rw[Int.natAbs_tmod];exact Nat.mod_le _ _
 rcases Int.le_total 0 a with h|h
 .have:=Int.tmod_nonneg b h;omega
 .have:a.tmod b<=0:=by
   have:=Int.tmod_nonneg b (a:=-a) (by omega);rw[Int.neg_tmod] at this;omega
  omega
def aa0 (k:IntKind){a:Int}(n:Nat)(ha:k.min<=a/\a<=k.max):k.min<=a.fdiv (2^n)/\a.fdiv (2^n)<=k.max:=by
 have h1:k.min<=0:=by cases k<;>decide
 have h2:0<=k.max:=by cases k<;>decide
 have hp:(0:Int)<2^n:=Int.pow_pos (by decide);rw[ajT _ (by omega)];rcases Int.le_total 0 a with h|h
 .have h3:=Int.ediv_nonneg h (by omega:(0:Int)<=2^n);have h4:=Int.ediv_le_self (b:=2^n) h;omega
 .have h3:a/2^n<=0:=by
   have:=Int.ediv_le_ediv hp h;simpa using this
  have h4:a<=a/2^n:=by
   rw[Int.le_ediv_iff_mul_le hp];have:a*2^n<=a*1:=Int.mul_le_mul_of_nonpos_left h (by omega);omega
  omega
section
variable {C:Ctx} {S:St} {O:Env} {V:Im} {own:Nat->Option Nat} {hv:Nat->Value} {w0:World} {σ0:Base} {A:Nat->Prop} {a:Act} {w:World} {gs:List (Nat×Bool)} {Z:aW} {dst:Nat}
def vx {e:PE}{O':Env}(h:PI.runs Z [.setR dst e] O=some O'):O'=O.setR dst (e.ev O):=by
 simp[PI.runs,PI.run] at h;exact h.symm
def V5 (hg:holds gs O=true){c e:PE}{O':Env}(h:PI.runs Z [sF gs c,.setR dst e] O=some O'):(c.ev O).b=true/\O'=O.setR dst (e.ev O):=by
 simp only[PI.runs,PI.run,sF] at h;cases ei:gs with
 |nil=>
  subst ei;simp only at h;cases hb:(c.ev O).b<;>simp[hb] at h;exact⟨rfl,h.symm⟩
 |cons g r=>
  rw[ei] at h;simp only at h;rw[ei] at hg;cases hb:(c.ev O).b
  .simp[PE.ev,hg,hb,D.b_bool] at h
  .simp[PE.ev,hg,hb,D.b_bool] at h;exact⟨rfl,h.symm⟩
def eX (C:Ctx)(S:St)(O:Env)(V:Im)(hv:Nat->Value)(Z:aW)(dst:Nat)(a:Act)(w:World)(o:Oper)(r:Sh×List PI):Prop:=
 ∀O',PI.runs Z r.2 O=some O'->∃v d,O'=O.setR dst d/\(execOp a.eval o).run C.P w=.ok (.value v) w/\aI C S O V hv r.1 v d/\∀gs s,r.1≠.opt gs s
def eX.dat {o:Oper}{t:Ty}{e:PE}{v:Value}(hx:(execOp a.eval o).run C.P w=.ok (.value v) w)(hr:Rep C.cap V t v (e.ev O)):
 eX C S O V hv Z dst a w o (.dat t,[.setR dst e]):=by
 intro O' h;exact⟨v,e.ev O,vx h,hx,hr,λ_ _ e=>by cases e⟩
def eX.datc (hg:holds gs O=true){o:Oper}{t:Ty}{c e:PE}(hx:(c.ev O).b=true->∃v,(execOp a.eval o).run C.P w=.ok (.value v) w/\Rep C.cap V t v (e.ev O)):
 eX C S O V hv Z dst a w o (.dat t,[sF gs c,.setR dst e]):=by
 intro O' h;obtain⟨hb,he⟩:=V5 hg h;obtain⟨v,h1,h2⟩:=hx hb;exact⟨v,e.ev O,he,h1,h2,λ_ _ e=>by cases e⟩
def agk (h:Inv C S O V own hv w0 σ0 A a w)(hC:CtxOK C σ0)(hg:holds gs O=true){x:Operand}{r:Sh×List PI}(hr:rD C S gs dst x=some r){o:Oper}(ho:o.op=.move x\/o.op=.assign x):
 eX C S O V hv Z dst a w o r:=by
 have hx:(execOp a.eval o).run C.P w=.ok (.value (a.eval x)) w:=by rcases ho with ho|ho<;>simp[execOp,ho,Sem.run,pure]
 unfold rD at hr;split at hr
 .rename_i y hy;cases hr;exact .dat hx (cL h hC hg hy)
 .split at hr
  .rename_i t _;obtain⟨hs,hn⟩:=nV h hg t;split at hr
   .cases hr
   .cases hr
   .cases hr;intro O' h';exact⟨_,_,vx h',hx,hs,hn⟩
  .cases hr
def auV (h:Inv C S O V own hv w0 σ0 A a w)(hC:CtxOK C σ0)(hg:holds gs O=true){c x y:Operand}{r:Sh×List PI}(hr:CP C S gs dst c x y=some r){o:Oper}(ho:o.op=.pick c x y):
 eX C S O V hv Z dst a w o r:=by
 unfold CP at hr;split at hr
 .rename_i t;split at hr
  .rename_i es;obtain⟨hs,_⟩:=nV h hg t;rw[es] at hs;obtain⟨b,aY,bx⟩:=Rep.bool_inv hs;simp only[aA] at hr;obtain⟨q1,h1,q2,h2,hr⟩:=hr;cases hb:Ty.beq q1.1 q2.1<;>simp only[hb,zyy,zyx] at hr
   .cases hr
   .cases hr;have e2:=Ty.beq_eq _ _ hb;have ar:(execOp a.eval o).run C.P w=.ok (.value (if b then a.eval x else a.eval y)) w:=by
     have:a.eval (.tmp t)=.bool b:=aY;simp[execOp,ho,this,asBool,Sem.run,pure,bind,Sem.bind]
    refine .dat ar ?_;show Rep C.cap V q1.1 _ (bif (O.r t).b then q1.2.ev O else q2.2.ev O);have eR:(O.r t).b=b:=by rw[bx];rfl
    cases b with
    |true=>
     simp only[eR,zyy,if_true];exact cL h hC (by simp only[holds,sl,eR];exact hg) h1
    |false=>
     simp only[eR,zyx];rw[e2];exact cL h hC (by simp only[holds,sl,eR];exact hg) h2
  .cases hr
 .cases hr
def NN {op:BinOp}{T T':TypeId}{x y:Operand}{v v':Value}{o:Oper}(ho:o.op=.binOp op T x y T')(hv:a.eval x=v)(hv':a.eval y=v')(h1:∀u,v≠.agg u)(h2:v≠.nilIface):
 (execOp a.eval o).run C.P w=((binOp op T v v').bind λr=>.pure (.value r)).run C.P w:=by
 have he:eqGuard op T x y v v'=.pure ():=by
  cases v<;>first|(exact absurd rfl h2)|(exact absurd rfl (h1 _))|(cases op<;>simp[eqGuard]<;>rfl)
 simp only[execOp,ho,hv,hv',he];rfl
def aaW {P:Program}{cap:Nat->Option CSig}{V:Im}{O:Env}{x y:PE}(w:World)(d:Nat){t:Ty}{T:TypeId}{v u:Value}{e:PE}(hk:nJ P T t=true)(he:yo t x y=some e)(g1:Rep cap V t v (x.ev O))(g2:Rep cap V t u (y.ev O)):
 ∃b,e.ev O=.v (.bool b)/\(Op.equalIn (d+1) T v u).run P w=.ok b w:=by
 cases t with
 |int k=>
  obtain⟨n,v1,d1,_⟩:=g1.int_inv;obtain⟨m,v2,d2,_⟩:=g2.int_inv;simp only[yo,aZ] at he;subst he;have hu:∃k',P.underlying T=some (.int k'):=by
   simp only[nJ] at hk;split at hk
   .exact⟨_,by assumption⟩
   .cases hk
  obtain⟨k',hu⟩:=hu;exact⟨n==m,by simp only[PE.ev,d1,d2];rfl,by rw[v1,v2];exact run_equalIn_int w d T k k' n m hu⟩
 |bool=>
  obtain⟨n,v1,d1⟩:=g1.bool_inv;obtain⟨m,v2,d2⟩:=g2.bool_inv;simp only[yo,aZ] at he;subst he;have hu:P.underlying T=some .bool:=by
   simp only[nJ] at hk;split at hk
   .assumption
   .cases hk
  exact⟨n==m,by simp only[PE.ev,d1,d2];rfl,by rw[v1,v2];exact run_equalIn_bool' w d T n m hu⟩
 |str=>
  obtain⟨n,v1,d1,_⟩:=g1.str_inv;obtain⟨m,v2,d2,_⟩:=g2.str_inv;simp only[yo,aZ] at he;subst he;have hu:P.underlying T=some .string:=by
   simp only[nJ] at hk;split at hk
   .assumption
   .cases hk
  exact⟨n.toList==m.toList,by simp only[PE.ev,d1,d2];rfl,by rw[v1,v2];exact run_equalIn_string w d T n m hu⟩
 |_=>simp[yo] at he
def amD {P:Program}{cap:Nat->Option CSig}{V:Im}{O:Env}{x y:PE}{X Y:List D}(w:World)(hx:x.ev O=.agg X)(hy:y.ev O=.agg Y){vs us:List Value}(b d:Nat):
 ∀(fs:List Field) (i:Nat) (ts:List Ty) (e:PE),ym P x y b fs i ts=some e->(∀j t,ts[j]?=some t->Rep cap V t (vs.getD (i+j) undef) (X.getD (b+i+j) .none)/\Rep cap V t (us.getD (i+j) undef) (Y.getD (b+i+j) .none))->
  i+ts.length<=vs.length->i+ts.length<=us.length->
  ∃b,e.ev O=.v (.bool b)/\(Op.eqFields (d+1) vs.toArray us.toArray fs).run P w=.ok b w:=by
 intro fs
 induction fs with
 |nil=>
  intro i ts e h _ _ _;cases ts with
  |nil=>simp only[ym,aZ] at h;subst h;exact⟨true,rfl,rfl⟩
  |cons t ts=>simp[ym] at h
 |cons f fs ih=>
  intro i ts e h hr l1 l2;cases ts with
  |nil=>simp[ym] at h
  |cons t ts=>
   simp only[ym] at h;cases hc:((f.name != "_")&&Nat.beq f.offset i&&nJ P f.type t&&P.plainKey f.type)<;>simp only[hc,zyy,zyx] at h
   .cases h
   simp only[av,bne_iff_ne,ne_eq] at hc;obtain⟨⟨⟨hn,ho⟩,hk⟩,hp⟩:=hc;have ho:=aE ho;simp only[aA,aD] at h;obtain⟨e1,iT,r,nG,rfl⟩:=h
   obtain⟨b2,cW,FW⟩:=ih (i+1) ts r nG (λj t hj=>by
        have:=hr (j+1) t (by simpa using hj)
        rwa [show i+(j+1)=i+1+j by omega,show b+i+(j+1)=b+(i+1)+j by omega] at this) (by simp at l1;omega) (by simp at l2;omega)
   obtain⟨g1,g2⟩:=hr 0 t rfl;rw[jB,jB] at g1 g2;simp only[lQ] at l1 l2;have wK:vs.toArray[f.offset]?=some (vs.getD i undef):=by rw[ho];simp[aL,show i<vs.length by omega]
   have R7:us.toArray[f.offset]?=some (us.getD i undef):=by rw[ho];simp[aL,show i<us.length by omega]
   have p1:=run_part_plain (P:=P) (w:=w) hp wK;have p2:=run_part_plain (P:=P) (w:=w) hp R7;have ex:(PE.cell x (b+i)).ev O=X.getD (b+i) .none:=by simp only[PE.ev,hx];rfl
   have ey:(PE.cell y (b+i)).ev O=Y.getD (b+i) .none:=by simp only[PE.ev,hy];rfl
   obtain⟨b1,ij,p6⟩:=aaW (P:=P) w d (O:=O) hk iT (by rw[ex];exact g1) (by rw[ey];exact g2);refine⟨b1&&b2,by simp only[PE.ev,ij,cW];rfl,?_⟩;simp only[Op.eqFields,if_pos hn,Sem.run_bind,p1,p2,p6,Result.andThen_ok];cases b1
   .rfl
   .simpa using FW
def amC {P:Program}{cap:Nat->Option CSig}{V:Im}{O:Env}{x y:PE}{X Y:List D}(w:World)(hx:x.ev O=.agg X)(hy:y.ev O=.agg Y){vs us:List Value}(d:Nat):
 ∀(fs:List Field) (i:Nat) (ts:List Ty) (e:PE),yn P x y fs i ts=some e->(∀j t,ts[j]?=some t->Rep cap V t (vs.getD (i+j) undef) (X.getD (i+j) .none)/\Rep cap V t (us.getD (i+j) undef) (Y.getD (i+j) .none))->
  i+ts.length<=vs.length->i+ts.length<=us.length->
  ∃b,e.ev O=.v (.bool b)/\(Op.eqFields (d+2) vs.toArray us.toArray fs).run P w=.ok b w:=by
 intro fs
 induction fs with
 |nil=>
  intro i ts e h _ _ _;cases ts with
  |nil=>simp only[yn,aZ] at h;subst h;exact⟨true,rfl,rfl⟩
  |cons t ts=>simp[yn] at h
 |cons f fs ih=>
  intro i ts e h hr l1 l2;unfold yn at h;split at h
  .rename_i n bE;cases hb:Nat.ble n ts.length<;>simp only[hb,zyy,zyx] at h
   .cases h
   have hn:=kC hb;simp only[aA,aD] at h;obtain⟨e1,iT,r,nG,rfl⟩:=h
   obtain⟨b2,cW,FW⟩:=ih (i+n) (ts.drop n) r nG (λj t hj=>by
        have:=hr (n+j) t (by rw[gK] at hj;exact hj)
        rwa [show i+(n+j)=i+n+j by omega] at this) (by rw[OC];omega) (by rw[OC];omega)
   unfold ac1 at bE;split at bE
   case h_2=>cases bE
   rename_i fs' hu;cases hc:((f.name != "_")&&Nat.beq f.offset i&& !P.stoodInHeld f.type)<;>simp only[hc,zyy,zyx] at bE
   .cases bE
   cases bE;simp only[av,bne_iff_ne,ne_eq,jb] at hc;obtain⟨⟨aF,ho⟩,cA⟩:=hc;have ho:=aE ho;have jL:P.underlying f.type=some (.struct (P.fieldsOf f.type)):=by unfold Program.fieldsOf;rw[hu]
   obtain⟨inf,hi⟩:=info_of_underlying hu
   have pY:∀zs:List Value,(part f.type zs.toArray f.offset).run P w=.ok (.agg ((zs.drop i).take (P.cellsOf f.type)).toArray) w:=λzs=>by
        have:(zs.toArray.extract f.offset (f.offset+P.cellsOf f.type))=((zs.drop i).take (P.cellsOf f.type)).toArray:=by
         rw[ho];apply tN;rw[Array.toList_extract];simp[List.extract]
        rw[<-this];simp[part,isAgg,run_underlying hu,run_sizeOf w hi]
   obtain⟨b1,ij,p6⟩:=amD (P:=P) (cap:=cap) (V:=V) (O:=O) w hx hy (vs:=(vs.drop i).take (P.cellsOf f.type)) (us:=(us.drop i).take (P.cellsOf f.type)) i d _ 0 (ts.take (P.cellsOf f.type)) e1 iT (λj t hj=>by
        rw[gm] at hj;split at hj
        .rename_i ri;have:=hr j t hj;simpa [aL,gm,ri,gK] using this
        .cases hj) (by simp only[ed,OC];omega) (by simp only[ed,OC];omega)
   have aqN:(Op.equalIn (d+2) f.type (.agg ((vs.drop i).take (P.cellsOf f.type)).toArray) (.agg ((us.drop i).take (P.cellsOf f.type)).toArray)).run P w=.ok b1 w:=by
        rw[run_equalIn_struct w (d+1) f.type _ _ jL cA];exact p6
   refine⟨b1&&b2,by simp only[PE.ev,ij,cW];rfl,?_⟩;simp only[Op.eqFields,if_pos aF,Sem.run_bind,pY,aqN,Result.andThen_ok];cases b1
   .rfl
   .simpa using FW
  .split at h
   .rename_i t ts;cases hc:((f.name != "_")&&Nat.beq f.offset i&&nJ P f.type t&&P.plainKey f.type)<;>simp only[hc,zyy,zyx] at h
    .cases h
    simp only[av,bne_iff_ne,ne_eq] at hc;obtain⟨⟨⟨hn,ho⟩,hk⟩,hp⟩:=hc;have ho:=aE ho;simp only[aA,aD] at h;obtain⟨e1,iT,r,nG,rfl⟩:=h
    obtain⟨b2,cW,FW⟩:=ih (i+1) ts r nG (λj t hj=>by
     have:=hr (j+1) t (by simpa using hj)
     rwa [show i+(j+1)=i+1+j by omega] at this) (by simp at l1;omega) (by simp at l2;omega)
    obtain⟨g1,g2⟩:=hr 0 t rfl;rw[jB] at g1 g2;simp only[lQ] at l1 l2;have wK:vs.toArray[f.offset]?=some (vs.getD i undef):=by rw[ho];simp[aL,show i<vs.length by omega]
    have R7:us.toArray[f.offset]?=some (us.getD i undef):=by rw[ho];simp[aL,show i<us.length by omega]
    have p1:=run_part_plain (P:=P) (w:=w) hp wK;have p2:=run_part_plain (P:=P) (w:=w) hp R7;have ex:(PE.cell x i).ev O=X.getD i .none:=by simp only[PE.ev,hx];rfl
    have ey:(PE.cell y i).ev O=Y.getD i .none:=by simp only[PE.ev,hy];rfl
    obtain⟨b1,ij,p6⟩:=aaW (P:=P) w (d+1) (O:=O) hk iT (by rw[ex];exact g1) (by rw[ey];exact g2);refine⟨b1&&b2,by simp only[PE.ev,ij,cW];rfl,?_⟩;simp only[Op.eqFields,if_pos hn,Sem.run_bind,p1,p2,p6,Result.andThen_ok];cases b1
    .rfl
    .simpa using FW
   .cases h
def auv (h:Inv C S O V own hv w0 σ0 A a w)(hC:CtxOK C σ0)(hg:holds gs O=true){op:BinOp}{T T':TypeId}{x y:Operand}{r:Sh×List PI}(hr:CE C S gs dst op T x y=some r){o:Oper}(ho:o.op=.binOp op T x y T'):
 eX C S O V hv Z dst a w o r:=by
 simp only[CE,aA] at hr;obtain⟨p,hp,q,hq,hr⟩:=hr;have ba:=cL h hC hg hp;have dW:=cL h hC hg hq;split at hr
 .rename_i k k' e1 e2;rw[e1] at ba;rw[e2] at dW;obtain⟨n,aY,bx,b1,b2⟩:=ba.int_inv;obtain⟨m,jk,dM,b3,b4⟩:=dW.int_inv;have ar:=NN (C:=C) (w:=w) ho aY jk (by intro u e;cases e) (by intro e;cases e);cases gz:(op==.shl||op==.shr)<;>simp only[gz,zyy,zyx] at hr
  .cases kJ:(k==k')<;>simp only[kJ,zyy,zyx] at hr
   .cases hr
   .have Rl:k=k':=by simpa using kJ
    subst Rl;cases RR:(op==.quo||op==.rem)<;>simp only[RR,zyy,zyx] at hr
    .cases K5:Iy op<;>simp only[K5,zyy,zyx] at hr
     .cases pR:BE op<;>simp only[pR,zyy,zyx] at hr
      .cases hr
      .cases hr;refine .dat (v:=.bool (j7 op n m)) ?_ ?_
       .rw[ar];cases op<;>simp_all [BE]<;>simp[binOp,Op.intCmp,j7,Sem.run,pure,Sem.bind]
       .simp only[PE.ev,bx,dM,D.i_int];exact .bool _
     .cases hr;refine .dat (v:=.int k (cC op k n m)) ?_ ?_
      .rw[ar];cases op<;>simp_all [Iy]<;>simp[binOp,Op.intArith,Op.intBits,cC,Sem.run,pure,Sem.bind]
      .simp only[PE.ev,bx,dM,D.i_int];refine .int _ _ ?_ ?_<;>(cases op<;>simp_all [Iy]<;>first|exact(tL _ _).1|exact(tL _ _).2)
    .cases hr;refine .datc hg λhc=>⟨.int k (cC op k n m),?_,?_⟩
     .have aF:m≠0:=by simpa [PE.ev,dM,D.i_int,D.b_bool,j7,D.int] using hc
      rw[ar];rcases(by simpa using RR:op=.quo\/op=.rem) with rfl|rfl<;>simp[binOp,Op.intDiv,cC,Sem.run,pure,Sem.bind,aF]
     .simp only[PE.ev,bx,dM,D.i_int];cases op<;>simp_all
      .exact .int _ _ (tL _ _).1 (tL _ _).2
      .exact .int _ _ (aiR k ⟨b1,b2⟩).1 (aiR k ⟨b1,b2⟩).2
  .cases hr;refine .datc hg λhc=>⟨.int k (cC op k n m),?_,?_⟩
   .have aF:¬m<0:=by
     have:0<=m:=by simpa [PE.ev,dM,D.i_int,D.b_bool,j7,D.int] using hc
     omega
    rw[ar];rcases(by simpa using gz:op=.shl\/op=.shr) with rfl|rfl<;>simp[binOp,Op.shift,cC,Sem.run,pure,Sem.bind,aF]
   .simp only[PE.ev,bx,dM,D.i_int];cases op<;>simp_all
    .exact .int _ _ (tL _ _).1 (tL _ _).2
    .exact .int _ _ (aa0 k _ ⟨b1,b2⟩).1 (aa0 k _ ⟨b1,b2⟩).2
 .rename_i e1 e2;rw[e1] at ba;rw[e2] at dW;obtain⟨n,aY,bx⟩:=ba.bool_inv;obtain⟨m,jk,dM⟩:=dW.bool_inv;have ar:=NN (C:=C) (w:=w) ho aY jk (by intro u e;cases e) (by intro e;cases e);cases bV:((op==.eql||op==.neq)&&So C.P T)<;>simp only[bV,zyy,zyx] at hr
  .cases hr
  .cases hr;simp only[av] at bV;obtain⟨bV,hT⟩:=bV;have BZ:C.P.underlying T=some .bool:=by
        unfold So at hT;split at hT
        .assumption
        .cases hT
   have heq:(Op.equal T (.bool n) (.bool m)).run C.P w=.ok (n==m) w:=by
        have:∀d,(Op.equalIn (d+1) T (.bool n) (.bool m)).run C.P w=.ok (n==m) w:=λd=>by simp[Op.equalIn,run_underlying BZ]
        exact this 9999
   refine .dat (v:=.bool (BD op n m)) ?_ ?_
   .rw[ar];rcases(by simpa using bV:op=.eql\/op=.neq) with rfl|rfl<;>simp[binOp,BD,heq,Sem.run_bind']
   .simp only[PE.ev,bx,dM,D.b_bool];exact .bool _
 .rename_i e1 e2;rw[e1] at ba;rw[e2] at dW;obtain⟨n,aY,bx,_⟩:=ba.str_inv;obtain⟨m,jk,dM,_⟩:=dW.str_inv;have ar:=NN (C:=C) (w:=w) ho aY jk (by intro u e;cases e) (by intro e;cases e);cases bV:BE op<;>simp only[bV,zyy,zyx] at hr
  .cases hr
  .cases hr;refine .dat (v:=.bool (BF op n m)) ?_ ?_
   .rw[ar];cases op<;>simp_all [BE]<;>simp[binOp,Op.stringOp,BF,Sem.run,pure,Sem.bind]
   .simp only[PE.ev,bx,dM,D.s_str];exact .bool _
 .rename_i e e' e1 e2;rw[e1] at ba;rw[e2] at dW;split at hr
  case h_2=>cases hr
  rename_i E hT;cases bV:(op==.eql||op==.neq)<;>simp only[bV,zyy,zyx] at hr
  .cases hr
  cases hr;obtain⟨n,xs,aY,bx,aqg⟩:∃(n:Bool) (xs:List D),(n=true/\a.eval x=.slice none 0 0\/n=false/\∃k o m c,a.eval x=.slice (some ⟨k,o,none⟩) m c)/\p.2.ev O=.list xs/\n=decide (xs=[]):=by
   generalize a.eval x=vv at ba;generalize p.2.ev O=dd at ba;cases ba with
   |nsl0=>exact⟨true,[],.inl ⟨rfl,rfl⟩,rfl,rfl⟩
   |nsl _ k o m c xs h hx=>exact⟨false,xs,.inr ⟨rfl,k,o,m,c,rfl⟩,rfl,by simp[hx]⟩
  have jk:a.eval y=.slice none 0 0:=by
   generalize a.eval y=vv at dW;generalize q.2.ev O=dd at dW;cases dW;rfl
  have heq:(Op.equal T (a.eval x) (a.eval y)).run C.P w=.ok n w:=by
   have:∀d,(Op.equalIn (d+1) T (a.eval x) (a.eval y)).run C.P w=.ok n w:=λd=>by
        rw[jk];rcases aY with⟨rfl,h1⟩|⟨rfl,k,o,m,c,h1⟩<;>rw[h1]<;>simp[Op.equalIn,run_underlying hT]
   exact this 9999
  have ar:=NN (C:=C) (w:=w) ho rfl rfl (by
   intro u e;rcases aY with⟨_,h1⟩|⟨_,k,o,m,c,h1⟩<;>rw[h1] at e<;>cases e) (by
   intro e;rcases aY with⟨_,h1⟩|⟨_,k,o,m,c,h1⟩<;>rw[h1] at e<;>cases e)
  refine .dat (v:=.bool (j7 op xs.length 0)) ?_ ?_
  .have aF:∀(y:D) (ys:List D),¬((ys.length:Int)+1=0):=λy ys=>by omega
   rw[ar,jk];rw[jk] at heq;rcases aY with⟨_,h1⟩|⟨_,k,o,m,c,h1⟩<;>rw[h1] at heq ⊢<;>rcases(by simpa using bV:op=.eql\/op=.neq) with rfl|rfl<;>cases xs<;>simp[binOp,heq,Sem.run_bind',j7,aqg]<;>(try omega)
  .simp only[PE.ev,bx,D.l_list,D.int,D.i_int];exact .bool _
 .rename_i ts us e1 e2;rw[e1] at ba;rw[e2] at dW;cases bV:((op==.eql||op==.neq)&&Ty.beqs ts us&&Qw C.P T)<;>simp only[bV,zyy,zyx] at hr
  .cases hr
  simp only[av] at bV;obtain⟨⟨bV,R3⟩,cA⟩:=bV;have:=Ty.beqs_eq _ _ R3;subst this;simp only[Qw,av,jb] at cA;obtain⟨⟨acK,aqY⟩,aqZ⟩:=cA;have jL:C.P.underlying T=some (.struct (C.P.fieldsOf T)):=by
   unfold Program.fieldsOf;split at acK
   .rename_i fs hu;rw[hu]
   .cases acK
  simp only[aD] at hr;obtain⟨e,he,rfl⟩:=hr;obtain⟨vs,ds,aY,bx,l1,l2,aU,_⟩:=ba.agg_inv;obtain⟨DL,ds',jk,dM,l3,l4,jF,_⟩:=dW.agg_inv
  obtain⟨b,hb,ar⟩:=amC (P:=C.P) (cap:=C.cap) (V:=V) (O:=O) w bx dM (vs:=vs) (us:=DL) 9997 _ 0 ts e he (λj t hj=>by
   rw[iL];exact⟨aU j t hj,jF j t hj⟩) (by omega) (by omega)
  have heq:(Op.equalIn 10000 T (.agg vs.toArray) (.agg DL.toArray)).run C.P w=.ok b w:=by
   rw[run_equalIn_struct w 9999 T _ _ jL aqY];exact ar
  have lq:=run_eqGuard_agg (P:=C.P) (w:=w) op T x y vs.toArray DL.toArray aqZ
  have abR:(execOp a.eval o).run C.P w=((binOp op T (.agg vs.toArray) (.agg DL.toArray)).run C.P w).andThen λr w'=>.ok (.value r) w':=by
   simp only[execOp,ho,aY,jk,Sem.run_bind,lq,Result.andThen_ok];rfl
  rcases(by simpa using bV:op=.eql\/op=.neq) with rfl|rfl
  .refine .dat (v:=.bool b) ?_ ?_
   .rw[abR,run_eql_struct,heq];rfl
   .show Rep _ _ .bool _ (PE.ev O e);rw[hb];exact .bool _
  .refine .dat (v:=.bool (!b)) ?_ ?_
   .rw[abR,run_neq_struct,heq];rfl
   .show Rep _ _ .bool _ (PE.ev O (.nt e));simp only[PE.ev,hb];exact .bool _
 .cases hr
def au0 (h:Inv C S O V own hv w0 σ0 A a w)(hC:CtxOK C σ0)(hg:holds gs O=true){op:UnOp}{T:TypeId}{x:Operand}{r:Sh×List PI}(hr:CR C S gs dst op x=some r){o:Oper}(ho:o.op=.unOp op T x):
 eX C S O V hv Z dst a w o r:=by
 simp only[CR,aA] at hr;obtain⟨p,hp,hr⟩:=hr;have ba:=cL h hC hg hp;split at hr
 .rename_i k e1;rw[e1] at ba;obtain⟨n,aY,bx,b1,b2⟩:=ba.int_inv;cases hr;refine .dat (v:=.int k (cC .sub k 0 n)) ?_ ?_
  .simp[execOp,ho,aY,Op.unary,Op.intArith,cC,Sem.run,pure,bind,Sem.bind]
  .simp only[PE.ev,bx,D.i_int];exact .int _ _ (tL _ _).1 (tL _ _).2
 .rename_i e1;rw[e1] at ba;obtain⟨n,aY,bx⟩:=ba.bool_inv;cases hr;refine .dat (v:=.bool (!n)) ?_ ?_
  .simp[execOp,ho,aY,Op.unary,Sem.run,pure,bind,Sem.bind]
  .simp only[PE.ev,bx,D.b_bool];exact .bool _
 .cases hr
def auA (h:Inv C S O V own hv w0 σ0 A a w)(hC:CtxOK C σ0)(hg:holds gs O=true){s d:TypeId}{x:Operand}{r:Sh×List PI}(hr:CG C S gs dst s d x=some r){o:Oper}(ho:o.op=.convert s d x):
 eX C S O V hv Z dst a w o r:=by
 simp only[CG,aA] at hr;obtain⟨p,hp,hr⟩:=hr;have ba:=cL h hC hg hp;split at hr
 .rename_i k0 k k1 u1 u2 e1;rw[e1] at ba;obtain⟨n,aY,bx,b1,b2⟩:=ba.int_inv;cases hr;refine .dat (v:=.int k (k.wrap n)) ?_ ?_
  .simp[execOp,ho,aY,convert,run_underlying u1,run_underlying u2,Conv.intToInt]
  .simp only[PE.ev,bx,D.i_int];exact .int _ _ (tL _ _).1 (tL _ _).2
 .rename_i u1 u2 e1;rw[e1] at ba;obtain⟨n,aY,bx,b1⟩:=ba.str_inv;cases hr;refine .dat (v:=.string n) ?_ ?_
  .simp[execOp,ho,aY,convert,run_underlying u1,run_underlying u2]
  .rw[bx];exact .str _ b1
 .cases hr
end
def wR {n:Nat}(h:n<=maxLen):IntKind.i64.min<=(n:Int)/\(n:Int)<=IntKind.i64.max:=by
 simp only[maxLen] at h;simp only[IntKind.min,IntKind.max,IntKind.signed,IntKind.bits];simp;omega
section
variable {C:Ctx} {S:St} {O:Env} {V:Im} {own:Nat->Option Nat} {hv:Nat->Value} {w0:World} {σ0:Base} {A:Nat->Prop} {a:Act} {w:World} {gs:List (Nat×Bool)} {Z:aW} {dst:Nat}
def OR (C:Ctx)(V:Im)(w:World)(B:Nat)(t:Ty)(v:Value)(d:D):Prop:=
 Rep C.cap V t v d\/
 (∃T e cells xs,t=.slice e.rol/\d=.list xs/\w.ownsRow B T e.size v xs.length cells/\eW C.cap V e cells xs)\/
 (∃k arr clock es kt et,t=.map kt et/\v=.map (some k)/\w.heap[k]?=some (.map arr clock)/\d=.map es/\es.length=arr.size/\es.length<=maxLen/\
    ∀(i:Nat) (e:MapEntry) (p:D×D),arr[i]?=some e->es[i]?=some p->Rep C.cap V kt e.key p.1/\Rep C.cap V et e.val p.2)
def Zq (h:Inv C S O V own hv w0 σ0 A a w)(hC:CtxOK C σ0)(hg:holds gs O=true){x:Operand}{r:Ty×PE}(hu:view C S gs x=some r):OR C V w w0.heap.size r.1 (a.eval x) (r.2.ev O):=by
 unfold view at hu;split at hu
 .rename_i r' FT;cases hu;exact .inl (cL h hC hg FT)
 .split at hu
  .rename_i t _;obtain⟨hs,_⟩:=nV h hg t;split at hu
   .rename_i j ver e;rw[e] at hs;cases hb:Nat.beq ver (S.ver j)<;>simp only[hb,zyy,zyx] at hu
    .cases hu
    .have dO:=aE hb;have ho:=h.objs j;have cK:a.eval (.tmp t)=hv j:=hs.2 dO;split at hu
     .rename_i T e eo;rw[eo] at ho;cases hu;obtain⟨cells,xs,h1,h2,h3,h4⟩:=ho;rw[cK];exact .inr (.inl ⟨T,e,cells,xs,rfl,h1,h2,h3⟩)
     .rename_i kt et eo;rw[eo] at ho;cases hu;obtain⟨k,arr,clock,es,h1,h2,h3,h4,h5,⟨hx,_⟩,h6⟩:=ho;rw[cK];exact .inr (.inr ⟨k,arr,clock,es,kt,et,rfl,h1,h3,h4,h5,hx,h6⟩)
     .cases hu
   .cases hu
  .cases hu
def zA {w:World}{B e size n:Nat}{v:Value}{cells:List Value}(h:w.ownsRow B e size v n cells):∃b c,v=.slice b n c/\n<=maxLen/\n<=c:=by
 rcases h.2 with⟨rfl,rfl⟩|⟨g,cap,cur,rfl,h1,h2,h3,h4,h5⟩
 .exact⟨none,0,rfl,by decide,bB _⟩
 .exact⟨_,cap,rfl,my h3 h4,h3⟩
def V3 {b:Builtin}{args:Array Operand}{ts:Array TypeId}{o:Oper}(ho:o.op=.call {callee:=.builtin b,args:=args,argTypes:=ts}):
 ∃cs,(execOp a.eval o).run C.P w=(builtin b ts o.type cs (args.map a.eval)).run C.P w:=
 ⟨_,by simp only[execOp,ho,resolve,invoke];rfl⟩
def auN (h:Inv C S O V own hv w0 σ0 A a w)(hC:CtxOK C σ0)(hg:holds gs O=true){T:TypeId}{x:Operand}{r:Sh×List PI}(hr:CM C S gs dst T x=some r){o:Oper}
 (ho:o.op=.call {callee:=.builtin .len,args:=#[x],argTypes:=#[T]}):eX C S O V hv Z dst a w o r:=by
 simp only[CM,aA] at hr;obtain⟨p,hp,hr⟩:=hr;have ba:=Zq h hC hg hp;obtain⟨cs,ar⟩:=V3 (C:=C) (w:=w) (a:=a) ho;split at hr
 .rename_i e T' e1 e2;rw[e1] at ba;cases hr;have hx:∃b n c xs,a.eval x=.slice b n c/\p.2.ev O=.list xs/\xs.length=n/\n<=maxLen:=by
   rcases ba with ba|⟨T,e,cells,xs,ht,hd,cH,jK⟩|⟨k,arr,clock,es,kt,et,ht,_⟩
   .obtain⟨xs,hd,⟨⟨p0,aY⟩,rfl⟩|⟨k,o,c,aY,h1,h2,_⟩⟩:=ba.slice_inv
    .exact⟨p0,0,0,[],aY,hd,rfl,by decide⟩
    .exact⟨_,_,c,xs,aY,hd,rfl,by omega⟩
   .obtain⟨b,c,aY,h1,_⟩:=zA cH;exact⟨b,_,c,xs,aY,hd,rfl,h1⟩
   .cases ht
  obtain⟨b,n,c,xs,aY,hd,hl,hm⟩:=hx;refine .dat (v:=.int .i64 n) ?_ ?_
  .rw[ar];simp[builtin,Builtin.len_,aY,run_underlying e2,goInt]
  .simp only[PE.ev,hd,D.l_list,hl];exact .int _ _ (wR hm).1 (wR hm).2
 .rename_i e T' e1 e2;rw[e1] at ba;cases hr;rcases ba with ba|⟨T,e,cells,xs,ht,_⟩|⟨k,arr,clock,es,kt,et,ht,_⟩
  .generalize y8:a.eval x=v at ba;generalize Fm:p.2.ev O=d at ba;cases ba;refine .dat (v:=.int .i64 0) ?_ ?_
   .rw[ar];simp[builtin,Builtin.len_,y8,run_underlying e2,goInt]
   .simp only[PE.ev,Fm,D.l_list];exact .int _ _ (by decide) (by decide)
  .cases ht
  .cases ht
 .rename_i e1 e2;rw[e1] at ba;cases hr;rcases ba with ba|⟨T,e,cells,xs,ht,_⟩|⟨k,arr,clock,es,kt,et,ht,_⟩
  .obtain⟨n,aY,bx,hm⟩:=ba.str_inv;refine .dat (v:=.int .i64 n.size) ?_ ?_
   .rw[ar];simp[builtin,Builtin.len_,aY,run_underlying e2,goInt]
   .simp only[PE.ev,bx,D.s_str];exact .int _ _ (wR hm).1 (wR hm).2
  .cases ht
  .cases ht
 .rename_i k0 e0 a0 b0 e1 e2;rw[e1] at ba;cases hr;rcases ba with ba|⟨T,e,cells,xs,ht,_⟩|⟨k,arr,clock,es,kt,et,ht,aY,hb,bx,hl,hx,_⟩
  .generalize y8:a.eval x=v at ba;generalize Fm:p.2.ev O=d at ba;cases ba with
   |mapnil=>
    refine .dat (v:=.int .i64 0) ?_ ?_
    .rw[ar];simp[builtin,Builtin.len_,y8,run_underlying e2,goInt]
    .simp only[PE.ev,Fm,D.m];exact .int _ _ (by decide) (by decide)
   |map kt et r ky es hm hl hx hk _=>
    obtain⟨_,arr,clock,hb,kh⟩:=(h.ok.m _ _ hm).resolve_right (λe=>Gp hl hk e.1);have hn:arr.size=es.length:=by rw[hl,<-kh];simp[entriesOf]
    refine .dat (v:=.int .i64 arr.size) ?_ ?_
    .rw[ar];simp[builtin,Builtin.len_,y8,run_underlying e2,goInt,getObj,Sem.run,hb]
    .simp only[PE.ev,Fm,D.m,hn];exact .int _ _ (wR hx).1 (wR hx).2
  .cases ht
  .refine .dat (v:=.int .i64 arr.size) ?_ ?_
   .rw[ar];simp[builtin,Builtin.len_,aY,run_underlying e2,goInt,getObj,Sem.run,hb]
   .simp only[PE.ev,bx,D.m,hl];exact .int _ _ (wR (hl▸hx)).1 (wR (hl▸hx)).2
 .cases hr
def agi (h:Inv C S O V own hv w0 σ0 A a w)(hC:CtxOK C σ0)(hg:holds gs O=true){mx:Bool}{x y:Operand}{ts:Array TypeId}{r:Sh×List PI}(hr:zw C S gs dst mx x y=some r){o:Oper}
 (ho:o.op=.call {callee:=.builtin (bif mx then .max else .min),args:=#[x,y],argTypes:=ts}):eX C S O V hv Z dst a w o r:=by
 simp only[zw,aA] at hr;obtain⟨p,hp,q,hq,hr⟩:=hr;have ba:=cL h hC hg hp;have dW:=cL h hC hg hq;obtain⟨cs,ar⟩:=V3 (C:=C) (w:=w) (a:=a) ho;split at hr
 .rename_i k k' e1 e2;rw[e1] at ba;rw[e2] at dW;obtain⟨n,aY,bx,b1,b2⟩:=ba.int_inv;obtain⟨m,jk,dM,b3,b4⟩:=dW.int_inv;cases kJ:(k==k')<;>simp only[kJ,zyy,zyx] at hr
  .cases hr
  .have Rl:k=k':=by simpa using kJ
   subst Rl;cases hr;cases mx with
   |true=>
    refine .dat (v:=.int k (if m>n then m else n)) ?_ ?_
    .rw[ar];simp[builtin,Builtin.max_,Builtin.max2,aY,jk]
    .simp only[zyy,PE.ev,bx,dM,D.i_int];by_cases ao:m>n<;>simp[ao]<;>constructor<;>assumption
   |false=>
    refine .dat (v:=.int k (if m<n then m else n)) ?_ ?_
    .rw[ar];simp[builtin,Builtin.min_,Builtin.min2,aY,jk]
    .simp only[zyx,PE.ev,bx,dM,D.i_int];by_cases ao:m<n<;>simp[ao]<;>constructor<;>assumption
 .cases hr
def auC (h:Inv C S O V own hv w0 σ0 A a w)(hC:CtxOK C σ0)(hg:holds gs O=true){x:Operand}{i:Nat}{r:Sh×List PI}(hr:CH C S gs dst x i=some r){o:Oper}(ho:o.op=.extract x i):
 eX C S O V hv Z dst a w o r:=by
 simp only[CH,aA] at hr;obtain⟨p,hp,hr⟩:=hr;have ba:=cL h hC hg hp;split at hr
 .rename_i ts e1;rw[e1] at ba;simp only[aD] at hr;obtain⟨t,ht,rfl⟩:=hr;obtain⟨vs,ds,aY,bx,l1,l2,aU⟩:=ba.tup_inv;have hi:i<vs.length:=by rw[l1];exact(fo.1 ht).1
  refine .dat (v:=vs.getD i undef) ?_ ?_
  .obtain⟨u,hu⟩:∃u,vs[i]?=some u:=⟨_,bL hi⟩
   have lq:vs.getD i undef=u:=by rw[aL,hu];rfl
   rw[lq];simp[execOp,ho,aY,Instr.extract,hu]
  .simp only[PE.ev,bx];exact aU i t ht
 .cases hr
end
def wO {P:Program}{T:TypeId}{ag:Bool}(h:rq P T=some ag)(w:World):(isAgg T).run P w=.ok ag w:=by
 unfold rq at h;split at h
 .rename_i fs hu;cases h;simp[isAgg,run_underlying hu]
 .rename_i n e hu;cases h;simp[isAgg,run_underlying hu]
 .rename_i d h1 h2 hu;cases h;cases d<;>simp_all [isAgg,run_underlying hu]
 .cases h
def tS (k o n:Nat):(⟨k,o,none⟩:Addr).add n=⟨k,o+n,none⟩:=by
 unfold Addr.add;split<;>simp_all
def NO {P:Program}{T:TypeId}{inf:TypeInfo}{ag:Bool}{w:World}{k o:Nat}{cs:List Value}(hi:P.info? T=some inf)(ha:rq P T=some ag)(hl:cs.length=inf.size)
 (h1:ag=false->cs.length=1) (hc:∀j u,cs[j]?=some u->w.cell? ⟨k,o+j,none⟩=some u):(loadVar T ⟨k,o,none⟩).run P w=.ok (rowOf ag cs) w:=by
 cases ag with
 |true=>
  have:=run_loadCells_list (P:=P) w ⟨k,o,none⟩ cs (λj v hv=>by rw[tS];exact hc j v hv);rw[hl] at this;simp[loadVar,wO ha,Go.sizeOf,run_typeInfo w hi,this,rowOf]
 |false=>
  obtain⟨u,hu⟩:∃u,cs=[u]:=by
   have:=h1 rfl
   match cs,this with
   |[u],_=>exact⟨u,rfl⟩
  subst hu;have h0:=hc 0 u rfl;simp only[jB] at h0;simp[loadVar,wO ha,rowOf,run_load,h0]
section
variable {C:Ctx} {S:St} {O:Env} {V:Im} {own:Nat->Option Nat} {hv:Nat->Value} {w0:World} {σ0:Base} {A:Nat->Prop} {a:Act} {w:World} {gs:List (Nat×Bool)} {Z:aW} {dst:Nat}
def xr {o:Oper}{T:TypeId}{x:Operand}{v:Value}{k off:Nat}(ho:o.op=.load T x)(hx:a.eval x=.pointer (some ⟨k,off,none⟩))(hl:(loadVar T ⟨k,off,none⟩).run C.P w=.ok v w):
 (execOp a.eval o).run C.P w=.ok (.value v) w:=by
 simp[execOp,ho,Instr.loadAt,hx,Instr.sureAddr,hl]
def uu {α:Type}{l:List α}{i:Nat}{x d:α}(h:l[i]?=some x):l.getD i d=x:=by
 rw[aL,h];rfl
def MA {cap:Nat->Option CSig}{ts:List Ty}{vs:List Value}{ds:List D}{ag:Bool}{n off:Nat}{ty:Ty}(hp:w6 ag n ts off=some ty)
 (h1:vs.length=ts.length) (h2:ds.length=ts.length) (hr:∀(i:Nat) (t:Ty),ts[i]?=some t->Rep cap V t (vs.getD i undef) (ds.getD i .none)) (ho:∀(i:Nat) (t:Ty),ts[i]?=some t->t.one=true):
 Rep cap V ty (rowOf ag ((vs.drop off).take n)) (bif ag then .agg ((ds.drop off).take n) else ds.getD off .none)/\((vs.drop off).take n).length=n/\(ag=false->n=1):=by
 unfold w6 at hp;cases hle:Nat.ble (off+n) ts.length<;>simp only[hle,zyy,zyx] at hp
 .cases hp
 .have FB:=kC hle;have hlen:((vs.drop off).take n).length=n:=by simp;omega
  cases ag with
  |true=>
   simp only[zyy] at hp;cases hp;refine⟨?_,hlen,λe=>by cases e⟩;simp only[rowOf,if_true,zyy];refine .agg _ _ _ (by simp;omega) (by simp;omega) (λi t hi=>?_) (λi t hi=>?_)
   .simp only[gm,gK] at hi;split at hi
    .rename_i bE;have:=hr (off+i) t hi;simpa [aL,gm,gK,bE] using this
    .cases hi
   .simp only[gm,gK] at hi;split at hi
    .exact ho _ t hi
    .cases hi
  |false=>
   simp only[zyx] at hp;cases hn:Nat.beq n 1<;>simp only[hn,zyy,zyx] at hp
   .cases hp
   .have mK:=aE hn;subst mK;refine⟨?_,hlen,λ_=>rfl⟩;have:=hr off ty hp;have ao:off<vs.length:=by omega
    simpa [rowOf,aL,gm,gK] using this
def Mz {ag:Bool}{n:Nat}{e:PE}{off:Nat}{ds:List D}(h:e.ev O=.agg ds):(CU ag n e off).ev O=bif ag then .agg ((ds.drop off).take n) else ds.getD off .none:=by
 cases ag<;>simp[CU,PE.ev,h,D.cells,D.c]
def Inv.cell (h:Inv C S O V own hv w0 σ0 A a w){k o:Nat}{u:Value}(hc:V.c k o=some u):w.cell? ⟨k,o,none⟩=some u:=h.ok.c _ _ _ hc
def Rep.rowOf {cap:Nat->Option CSig}{t:Ty}{v:Value}{d:D}(h:Rep cap V t v d):v=Cx.rowOf t.rowT v.cells.toList:=by
 cases h<;>simp[Cx.rowOf,Ty.rowT,Value.cells]
def Rep.cells1 {cap:Nat->Option CSig}{t:Ty}{v:Value}{d:D}(h:Rep cap V t v d)(ht:t.rowT=false):v.cells=#[v]:=by
 cases h<;>simp_all [Ty.rowT,Value.cells]
def auP (h:Inv C S O V own hv w0 σ0 A a w){T:TypeId}{x:Operand}{inf:TypeInfo}{ag:Bool}(hi:C.P.info? T=some inf)(ha:rq C.P T=some ag){o:Oper}(ho:o.op=.load T x)
 {ty:Ty} {e:PE} (hr:Rep C.cap V (.ref ty) (a.eval x) (e.ev O)) (hs:Nat.beq inf.size ty.size=true) (K4:(ag==ty.rowT)=true):
 eX C S O V hv Z dst a w o (.dat ty,[.setR dst (.deref e)]):=by
 obtain⟨k,off,v,y,aY,bx,cw,jI⟩:=hr.ref_inv;have fD:=aE hs;have Ff:ag=ty.rowT:=by simpa using K4
 have hz:=cw.size;have y2:=cw.rowOf;refine .dat (v:=v) (xr ho aY ?_) ?_
 .rw[y2,<-Ff];refine NO hi ha (by simp[hz,fD]) (λe=>?_) (λj u hu=>?_)
  .subst e;simp[cw.cells1 Ff.symm]
  .exact h.cell (jI j u (by simpa using hu))
 .simp only[PE.ev,bx,D.deref];exact cw
def P3 {w:World}{k:Nat}{cs:Array Value}{T:TypeId}{fr:Nat×Nat}(hb:w.heap[k]?=some (.cells cs T fr)){i:Nat}(hi:i<cs.size):w.cell? ⟨k,i,none⟩=some (cs.getD i undef):=by
 simp[World.cell?,hb,eG,gl hi]
def BV (cs:Array Value)(i:Nat):cs.toList.getD i undef=cs.getD i undef:=by
 simp[aL,eG]
def Z4 {cs:Array Value}{ds:List D}:∀(shs:List Sh) (i:Nat) (l:List AgC),vR S shs=some l->(∀m s,shs[m]?=some s->aI C S O V hv s (cs.getD (i+m) undef) (ds.getD (i+m) .none))->
 l.length=shs.length/\∀(m:Nat) (c:AgC),l[m]?=some c->oe C S V hv c (cs.getD (i+m) undef) (ds.getD (i+m) .none)
 |[],i,l,hl,_=>by simp only[vR,aZ] at hl;subst hl;exact⟨rfl,λm c hm=>by simp at hm⟩
 |s::r,i,l,hl,aU=>by
  simp only[vR,aA] at hl;obtain⟨x,hx,hl⟩:=hl
  obtain⟨g1,g3⟩:=Z4 r (i+1) x hx λm s hm=>by
   have:=aU (m+1) s (by simpa using hm)
   rwa [show i+(m+1)=i+1+m by omega] at this
  have h0:=aU 0 s rfl;rw[jB] at h0;split at hl
  .rename_i t;cases du:t.one<;>simp only[du,zyy,zyx] at hl
   .cases hl
   cases hl;refine⟨by simp[g1],λm c hm=>?_⟩;cases m with
   |zero=>simp at hm;subst hm;exact⟨du,h0⟩
   |succ m=>simp at hm;have:=g3 m c hm;rwa [show i+1+m=i+(m+1) by omega] at this
  .rename_i j ver;cases hb:Nat.beq ver (S.ver j)<;>simp only[hb,zyy,zyx] at hl
   .cases hl
   cases hl;refine⟨by simp[g1],λm c hm=>?_⟩;cases m with
   |zero=>simp at hm;subst hm;exact h0
   |succ m=>simp at hm;have:=g3 m c hm;rwa [show i+1+m=i+(m+1) by omega] at this
  .cases hl
def ake {j off n len:Nat}{ds:List D}(h:O.o j=.agg ds)(hl:ds.length=len):(OW j off n len).ev O=.agg ((ds.drop off).take n):=by
 unfold OW;cases hb:(Nat.beq off 0&&Nat.beq n len)
 .simp only[zyx,PE.ev,h];rfl
 .simp only[av] at hb;obtain rfl:=aE hb.1;obtain rfl:=aE hb.2;simp only[zyy,PE.ev,h,List.drop_zero,<-hl,DY]
def Gu (h:Inv C S O V own hv w0 σ0 A a w)(hC:CtxOK C σ0)(hg:holds gs O=true){T:TypeId}{x:Operand}{r:Sh×List PI}(hr:uX C S gs dst T x=some r){o:Oper}(ho:o.op=.load T x):
 eX C S O V hv Z dst a w o r:=by
 unfold uX at hr;split at hr
 case h_2=>cases hr
 rename_i inf ag hi ha;have er:aI C S O V hv (fJ S gs x) (a.eval x) ((rT x).ev O):=by
  cases x with
  |tmp t=>exact(nV h hg t).1
  |_=>trivial
 split at hr
 ·
  rename_i j ver off es;rw[es] at er;cases hb:Nat.beq ver (S.ver j)<;>simp only[hb,zyy,zyx] at hr
  .cases hr
  have dO:=aE hb;obtain⟨k,fF,gu⟩:=er.2 dO;have bm:=h.objs j;split at hr
  .rename_i bag shs eo;rw[eo] at bm;obtain⟨k',cs,T',ds,h1,h2,h3,h4,h5,h6,h7⟩:=bm;rw[fF] at h1;cases h1;cases ag with
   |true=>
    simp only[zyy] at hr;cases hle:Nat.ble (off+inf.size) shs.length<;>simp only[hle,zyy,zyx] at hr
    .cases hr
    have FB:=kC hle;have hlen:((shs.drop off).take inf.size).length=inf.size:=by simp;omega
    have dL:∀m u,((cs.toList.drop off).take inf.size)[m]?=some u->w.cell? ⟨k,off+m,none⟩=some u:=λm u hu=>by
     simp only[gm,gK] at hu;split at hu
     .rename_i hm;have:=P3 h3 (i:=off+m) (by omega);rw[this,<-BV];exact congrArg some (uu hu)
     .cases hu
    have acG:=xr ho gu (NO hi ha (by simp;omega) (λe=>by cases e) dL);split at hr
    .rename_i l hl;cases hr
     revert hl
     cases OU C j
     .intro hl;cases hl
     intro hl
     obtain⟨ll,lo⟩:=Z4 (cs:=cs) (ds:=ds) _ off l hl (λm s hm=>by
      simp only[gm,gK] at hm;split at hm
      .exact(h7 (off+m) s hm).2
      .cases hm)
     rw[hlen] at ll;refine λO' ar=>⟨_,_,vx ar,acG,⟨(cs.toList.drop off).take inf.size,(ds.drop off).take inf.size,by simp[rowOf],ake h5 h6,by simp;omega,by simp;omega,λm c hm=>?_⟩,λ_ _ e=>by cases e⟩
     have oF:m<inf.size:=by have:=(fo.1 hm).1;omega
     have:=lo m c hm;simpa [aL,gm,gK,oF] using this
    simp only[aD] at hr;obtain⟨p,hp,rfl⟩:=hr
    obtain⟨l1,es,⟨he,_⟩,l2,cw⟩:=P9 (b:=.o j) h (cs:=cs.toList) h5 _ off p (λm s hm=>by
     simp only[gm,gK] at hm;split at hm
     .have:=(h7 (off+m) s hm).2;rw[BV];exact this
     .cases hm) hp
    refine .dat (v:=rowOf true ((cs.toList.drop off).take inf.size)) acG ?_
    .simp only[PE.ev,rowOf,if_true,he];refine .agg _ _ _ (by simp;omega) (by omega) (λm t hm=>?_) (λm t hm=>(cw m t hm).1);have oF:m<inf.size:=by have:=(fo.1 hm).1;omega
     have:=(cw m t hm).2;simpa [aL,gm,gK,oF] using this
   |false=>
    simp only[zyx] at hr;split at hr
    .rename_i ty hs;cases du:ty.one<;>simp only[du,zyy,zyx] at hr
     .cases hr
     cases hr;have re:=(h7 off _ hs).2;have ao:off<shs.length:=(fo.1 hs).1;have yS:(loadVar T ⟨k,off,none⟩).run C.P w=.ok (cs.getD off undef) w:=by
      simp[loadVar,wO ha,run_load,P3 h3 (i:=off) (by omega)]
     refine .dat (v:=cs.getD off undef) (xr ho gu yS) ?_;simp only[PE.ev,h5,D.c,D.cells];exact re
    .rename_i j' nZ hs;cases hr;have re:=(h7 off _ hs).2;have ao:off<shs.length:=(fo.1 hs).1;have yS:(loadVar T ⟨k,off,none⟩).run C.P w=.ok (cs.getD off undef) w:=by
      simp[loadVar,wO ha,run_load,P3 h3 (i:=off) (by omega)]
     intro O' ar;exact⟨_,_,vx ar,xr ho gu yS,re,λ_ _ e=>by cases e⟩
    .cases hr
  .rename_i ts eo;rw[eo] at bm;obtain⟨k',v,h1,h2,h3⟩:=bm;rw[fF] at h1;cases h1;simp only[aD] at hr;obtain⟨ty,br,rfl⟩:=hr;obtain⟨vs,ds,rfl,hd,l1,l2,aU,du⟩:=h2.agg_inv;obtain⟨cw,hlen,mK⟩:=MA br l1 l2 aU du;refine .dat (xr ho gu (NO hi ha hlen (λe=>by rw[hlen];exact mK e) (λm u hu=>h.cell ?_))) (by rw[Mz (e:=.o j) hd];exact cw);simp only[gm,gK] at hu;split at hu
   .exact h3 (off+m) u (by simpa [Value.cells] using hu)
   .cases hu
  .rename_i ty aF eo;rw[eo] at bm;obtain⟨k',v,h1,h2,h3⟩:=bm;rw[fF] at h1;cases h1;cases hc:(!ag&&ty.one&&Nat.beq off 0)<;>simp only[hc,zyy,zyx] at hr
   .cases hr
   cases hr;simp only[av,jb] at hc;have ki:=aE hc.2;subst ki;have yS:(loadVar T ⟨k,0,none⟩).run C.P w=.ok v w:=by
        have:=h.cell (h3 0 v (by simp[(h2.oneCell hc.1.2).1]));rw[hc.1.1] at ha;simp[loadVar,wO ha,run_load,this]
   exact .dat (xr ho gu yS) h2
  .cases hr
 ·
  rename_i j ver size off es;rw[es] at er;cases hb:Nat.beq ver (S.ver j)<;>simp only[hb,zyy,zyx] at hr
  .cases hr
  have dO:=aE hb;obtain⟨k,n,c,ik,i,fF,wk,bE,gu⟩:=er.2 dO;have bm:=h.objs j;split at hr
  .rename_i T' ts eo;rw[eo] at bm;obtain⟨cells,xs,h1,h2,⟨vs,h3,h4⟩,h5⟩:=bm;cases aJ:Nat.beq size ts.length<;>simp only[aJ,zyy,zyx] at hr
   .cases hr
   have sV:=aE aJ;simp only[aD] at hr;obtain⟨ty,br,rfl⟩:=hr;rw[fF] at h2;have bo:=h2.cells (g:=k) rfl;obtain⟨b,c',e1,yV,yW⟩:=zA h2;cases e1;obtain⟨y,hy⟩:∃y,xs[i]?=some y:=⟨_,bL bE⟩
   have LO:=h3 i y hy;obtain⟨us,ds,wK,hd,l1,l2,aU,du⟩:=LO.agg_inv;obtain⟨cw,hlen,mK⟩:=MA br l1 l2 aU du;have aqk:(PE.nth (.o j) (rT x)).ev O=.agg ds:=by
        simp only[PE.ev,h1,D.l_list,wk,D.i_int,xO];rw[uu hy,hd]
   refine .dat (xr ho gu (NO hi ha hlen (λe=>by rw[hlen];exact mK e) (λm u hu=>?_))) (by rw[Mz aqk];exact cw);simp only[gm,gK] at hu;split at hu
   .have:=h4 i (off+m) u (by omega) (by rw[wK];simpa [Value.cells] using hu);have:=bo _ _ this;rw[tS] at this;simpa [Ty.size,sV,xS] using this
   .cases hu
  .rename_i T' e aF eo;rw[eo] at bm;obtain⟨cells,xs,h1,h2,⟨vs,h3,h4⟩,h5⟩:=bm;cases hc:(!ag&&e.one&&Nat.beq off 0&&Nat.beq size 1)<;>simp only[hc,zyy,zyx] at hr
   .cases hr
   cases hr;simp only[av,jb] at hc;have ki:=aE hc.1.2;have aJ:=aE hc.2;subst ki;subst aJ;rw[fF] at h2;have bo:=h2.cells (g:=k) rfl;obtain⟨b,c',e1,yV,yW⟩:=zA h2;cases e1;obtain⟨y,hy⟩:∃y,xs[i]?=some y:=⟨_,bL bE⟩
   have LO:=h3 i y hy;have yS:(loadVar T ⟨k,i*1+0,none⟩).run C.P w=.ok (vs i) w:=by
        have h6:=h4 i 0 (vs i) bE (by simp[(LO.oneCell hc.1.1.2).1]);have:=bo _ _ h6;rw[tS] at this;have Fq:e.size=1:=by cases e<;>simp_all [Ty.size,Ty.one]
        rw[hc.1.1.1] at ha;rw[Fq] at this;simp only[iL,jB,Nat.mul_one] at this;simp[loadVar,wO ha,run_load,this]
   refine .dat (xr ho gu yS) ?_;simp only[PE.ev,h1,D.l_list,wk,D.i_int,xO];rw[uu hy];exact LO
  .cases hr
 .simp only[aA] at hr;obtain⟨p,hp,hr⟩:=hr;have ba:=cL h hC hg hp;split at hr
  .rename_i ty e1;rw[e1] at ba;cases hc:(Nat.beq inf.size ty.size&&(ag==ty.rowT))<;>simp only[hc,zyy,zyx] at hr
   .cases hr
   cases hr;simp only[av] at hc;exact auP h hi ha ho ba hc.1 hc.2
  .cases hr
def tG (h:Inv C S O V own hv w0 σ0 A a w)(hg:holds gs O=true)(x:Operand):aI C S O V hv (fJ S gs x) (a.eval x) ((rT x).ev O)/\∀bZ s,fJ S gs x≠.opt bZ s:=by
 cases x with
 |tmp t=>exact nV h hg t
 |_=>exact⟨trivial,λ_ _ e=>by cases e⟩
def aa1 {P:Program}{T:TypeId}{i:Nat}{f:Field}(h:EU P T i=some f):∃fs,P.underlying T=some (.struct fs)/\fs[i]?=some f:=by
 unfold EU at h;split at h
 .rename_i fs hu;exact⟨fs,hu,h⟩
 .cases h
def V4 {o:Oper}{T:TypeId}{x:Operand}{i:Nat}{f:Field}{inf:TypeInfo}{k off:Nat}(ho:o.op=.fieldAddr T x i)(hf:EU C.P T i=some f)(hi:C.P.info? f.type=some inf)(hn:Nat.beq inf.size 0=false)
 (hx:a.eval x=.pointer (some ⟨k,off,none⟩)):(execOp a.eval o).run C.P w=.ok (.value (.pointer (some ⟨k,off+f.offset,none⟩))) w:=by
 obtain⟨fs,hu,yL⟩:=aa1 hf;have iV:inf.size≠0:=by intro e;simp[e] at hn
 simp[execOp,ho,Instr.fieldAt,run_underlying hu,yL,hx,Instr.sureAddr,fieldPlace,Go.sizeOf,run_typeInfo w hi,iV,tS]
def auE (h:Inv C S O V own hv w0 σ0 A a w)(hC:CtxOK C σ0)(hg:holds gs O=true){T:TypeId}{x:Operand}{i:Nat}{r:Sh×List PI}(hr:CJ C S gs dst T x i=some r){o:Oper}(ho:o.op=.fieldAddr T x i):
 eX C S O V hv Z dst a w o r:=by
 simp only[CJ,aA] at hr;obtain⟨f,hf,hr⟩:=hr;obtain⟨er,eK⟩:=tG h hg x;split at hr
 case h_2=>cases hr
 rename_i inf ag hi ha;cases hn:Nat.beq inf.size 0<;>simp only[hn,zyy,zyx] at hr
 case true=>cases hr
 split at hr
 .rename_i j ver size off es;cases hb:Nat.beq ver (S.ver j)<;>simp only[hb,zyy,zyx] at hr
  .cases hr
  cases hr;rw[es] at er;intro O' ar;obtain⟨k,n,c,ik,idx,fF,wk,bE,gu⟩:=er.2 (aE hb);exact⟨_,_,vx ar,V4 ho hf hi hn gu,⟨er.1,λ_=>⟨k,n,c,ik,idx,fF,wk,bE,by rw[xS]⟩⟩,λ_ _ e=>by cases e⟩
 .split at hr
  .rename_i ts e hu;have ba:=cL h hC hg hu;simp only[aD] at hr;obtain⟨ty,br,rfl⟩:=hr;obtain⟨k,off,v,y,aY,bx,cw,jI⟩:=Rep.ref_inv ba;obtain⟨vs,ds,rfl,rfl,l1,l2,aU,du⟩:=cw.agg_inv;obtain⟨pY,hlen,mK⟩:=MA br l1 l2 aU du;refine .dat (V4 ho hf hi hn aY) ?_;have hde:(PE.deref e).ev O=.agg ds:=by simp only[PE.ev,bx,D.deref]
   simp only[PE.ev];rw[Mz hde];refine .ref ty k (off+f.offset) _ _ pY (λj u hu=>?_);have l6:((vs.drop f.offset).take inf.size)[j]?=some u:=by
        cases ag with
        |true=>simpa [rowOf,Value.cells] using hu
        |false=>
         have:=mK rfl;rw[this] at hlen ⊢;obtain⟨q,hq⟩:∃q,(vs.drop f.offset).take 1=[q]:=by
          match(vs.drop f.offset).take 1,hlen with
          |[q],_=>exact⟨q,rfl⟩
         rw[this] at pY hu;rw[hq] at pY hu ⊢;simp only[rowOf,vJ] at pY hu;have wG:ty.rowT=false:=by
          unfold w6 at br;cases hle:Nat.ble (f.offset+inf.size) ts.length<;>simp only[hle,zyy,zyx] at br
          .cases br
          .cases hb:Nat.beq inf.size 1<;>simp only[hb,zyy,zyx] at br
           .cases br
           .have:=du _ _ br;cases ty<;>simp_all [Ty.one,Ty.rowT]
         rw[pY.cells1 wG] at hu;simpa using hu
   simp only[gm,gK] at l6;split at l6
   .have:=jI (f.offset+j) u (by simpa [Value.cells] using l6)
    rwa [<-xS] at this
   .cases l6
  .split at hr
   .rename_i j ver off es;cases hb:Nat.beq ver (S.ver j)<;>simp only[hb,zyy,zyx] at hr
    .cases hr
    cases hr;rw[es] at er;intro O' ar;obtain⟨k,fF,gu⟩:=er.2 (aE hb);exact⟨_,_,vx ar,V4 ho hf hi hn gu,⟨er.1,λ_=>⟨k,fF,rfl⟩⟩,λ_ _ e=>by cases e⟩
   .cases hr
def auG (h:Inv C S O V own hv w0 σ0 A a w)(hC:CtxOK C σ0)(hg:holds gs O=true){T:TypeId}{x:Operand}{i:Nat}{r:Sh×List PI}(hr:CI C S gs dst T x i=some r){o:Oper}(ho:o.op=.field T x i):
 eX C S O V hv Z dst a w o r:=by
 simp only[CI,aA] at hr;obtain⟨f,hf,hr⟩:=hr;split at hr
 case h_2=>cases hr
 rename_i inf ag hi ha;split at hr
 case h_2=>cases hr
 rename_i ts e hu;have ba:=cL h hC hg hu;simp only[aD] at hr;obtain⟨ty,br,rfl⟩:=hr;obtain⟨vs,ds,aY,bx,l1,l2,aU,du⟩:=Rep.agg_inv ba;obtain⟨pY,hlen,mK⟩:=MA br l1 l2 aU du;obtain⟨fs,l6,yL⟩:=aa1 hf;have hle:f.offset+inf.size<=ts.length:=by
  unfold w6 at br;cases hle:Nat.ble (f.offset+inf.size) ts.length<;>simp only[hle,zyy,zyx] at br
  .cases br
  .exact kC hle
 refine .dat (v:=rowOf ag ((vs.drop f.offset).take inf.size)) ?_ (by rw[Mz bx];exact pY);cases ag with
 |true=>
  simp only[execOp,ho,Instr.field,aY,asAgg,part];simp[run_underlying l6,yL,wO ha,Go.sizeOf,run_typeInfo w hi,rowOf]
 |false=>
  have hn:=mK rfl;have ao:f.offset<vs.length:=by omega
  simp only[execOp,ho,Instr.field,aY,asAgg,part];simp[run_underlying l6,yL,wO ha,rowOf,hn,bL ao,aL,gm,gK]
def ain {o:Oper}{T e:TypeId}{x i:Operand}{inf:TypeInfo}{k off n c idx:Nat}{ik:IntKind}(ho:o.op=.indexAddr T x i)(hT:C.P.underlying T=some (.slice e))(hi:C.P.info? e=some inf)
 (hx:a.eval x=.slice (some ⟨k,off,none⟩) n c) (apJ:a.eval i=.int ik idx) (ao:idx<n):(execOp a.eval o).run C.P w=.ok (.value (.pointer (some ⟨k,off+idx*inf.size,none⟩))) w:=by
 simp[execOp,ho,Instr.indexAt,run_underlying hT,hx,apJ,asIntOf,ao,Go.sizeOf,run_typeInfo w hi,tS]
def NU {P:Program}{T:TypeId}{t:Ty}(h:tH P T t=true):∃inf,P.info? T=some inf/\inf.size=t.size:=by
 unfold tH at h;split at h
 .rename_i i hi;exact⟨i,hi,aE h⟩
 .cases h
def auJ (h:Inv C S O V own hv w0 σ0 A a w)(hC:CtxOK C σ0)(hg:holds gs O=true){T:TypeId}{x i:Operand}{r:Sh×List PI}(hr:CL C S gs dst T x i=some r){o:Oper}(ho:o.op=.indexAddr T x i):
 eX C S O V hv Z dst a w o r:=by
 unfold CL at hr;split at hr
 case h_2=>cases hr
 rename_i e hT;simp only[aA] at hr;obtain⟨p,hp,hr⟩:=hr;have ba:=cL h hC hg hp;split at hr
 case h_2=>cases hr
 rename_i ik e1;rw[e1] at ba;obtain⟨idx,aY,bx,b1,b2⟩:=ba.int_inv;split at hr
 .rename_i t pe hu;have dC:=cL h hC hg hu;cases aJ:tH C.P e t<;>simp only[aJ,zyy,zyx] at hr
  .cases hr
  cases hr;obtain⟨inf,hi,hs⟩:=NU aJ;obtain⟨xs,hd,B2⟩:=Rep.slice_inv dC;refine .datc hg λhc=>?_;simp only[PE.ev,hd,bx,D.l_list,D.i_int,D.b_bool,decide_eq_true_eq] at hc;rcases B2 with⟨_,rfl⟩|⟨k,off,c,wL,h1,h2,vs,h3,h4⟩
  .simp at hc;omega
  .obtain⟨m,rfl⟩:=vI hc.1;have ao:m<xs.length:=by omega
   refine⟨_,ain ho hT hi wL aY ao,?_⟩;obtain⟨y,hy⟩:∃y,xs[m]?=some y:=⟨_,bL ao⟩
   simp only[PE.ev,hd,bx,D.l_list,D.i_int,xO,uu hy];exact .ref t.unf k _ (vs m) y (h3 m y hy) (λj u hu=>by rw[hs];exact h4 m j u ao hu)
 .cases hr
 .obtain⟨er,eK⟩:=tG h hg x;split at hr
  .rename_i j ver es;rw[es] at er;cases hb:Nat.beq ver (S.ver j)<;>simp only[hb,zyy,zyx] at hr
   .cases hr
   have dO:=aE hb;have bm:=h.objs j;have cK:=er.2 dO;split at hr
   .rename_i T' t eo;rw[eo] at bm;cases aJ:tH C.P e t<;>simp only[aJ,zyy,zyx] at hr
    .cases hr
    cases hr;obtain⟨inf,hi,hs⟩:=NU aJ;obtain⟨cells,xs,h1,h2,⟨vs,h3,h4⟩,h5⟩:=bm;intro O' ar;obtain⟨hc,hρ⟩:=V5 hg ar;simp only[PE.ev,h1,bx,D.l_list,D.i_int,D.b_bool,decide_eq_true_eq] at hc;obtain⟨m,rfl⟩:=vI hc.1;have ao:m<xs.length:=by omega
    rcases h2.2 with⟨_,e0⟩|⟨g,cap,cur,fF,_⟩
    .omega
    .refine⟨_,_,hρ,ain ho hT hi (cK.trans fF) aY ao,⟨by omega,λ_=>⟨g,xs.length,cap,ik,m,fF,bx,ao,?_⟩⟩,λ_ _ e=>by cases e⟩;rw[hs];simp
   .cases hr
  .cases hr
def auL (h:Inv C S O V own hv w0 σ0 A a w)(hC:CtxOK C σ0)(hg:holds gs O=true){T:TypeId}{x i:Operand}{r:Sh×List PI}(hr:CK C S gs dst T x i=some r){o:Oper}(ho:o.op=.index T x i):
 eX C S O V hv Z dst a w o r:=by
 unfold CK at hr;split at hr
 case h_2=>cases hr
 rename_i hT;simp only[aA] at hr;obtain⟨p,hp,q,hq,hr⟩:=hr;have ba:=cL h hC hg hp;have dW:=cL h hC hg hq;split at hr
 case h_2=>cases hr
 rename_i ik e1 e2;rw[e1] at ba;rw[e2] at dW;obtain⟨idx,aY,bx,b1,b2⟩:=ba.int_inv;obtain⟨s,jk,dM,_⟩:=dW.str_inv;cases hr;refine .datc hg λhc=>?_;simp only[PE.ev,dM,bx,D.s_str,D.i_int,D.b_bool,decide_eq_true_eq] at hc;obtain⟨m,rfl⟩:=vI hc.1;have ao:m<s.size:=by omega
 refine⟨.int .u8 (s.data.getD m 0).toNat,?_,?_⟩
 .have:s[m]?=some (s.data.getD m 0):=by
   rw[getElem?_pos s m ao];simp[ByteArray.getElem_eq_getElem_data,eG,gl (show m<s.data.size from ao)]
  simp[execOp,ho,Instr.index,run_underlying hT,aY,jk,asIntOf,this]
 .simp only[PE.ev,dM,bx,D.s_str,D.i_int,xO];refine .int _ _ ?_ ?_
  .simp only[IntKind.min,IntKind.signed];simp
  .simp only[IntKind.max,IntKind.signed,IntKind.bits];have:=UInt8.toNat_lt (s.data.getD m 0);simp at this ⊢;omega
def aBd (h:Inv C S O V own hv w0 σ0 A a w)(hC:CtxOK C σ0)(hg:holds gs O=true){lo:Option Operand}{l:Ty×PE}{k:IntKind}(hl:Ic C S gs lo=some l)(hk:l.1=.int k):
 ∃n,l.2.ev O=.v (.int k n)/\((lo=none/\n=0)\/∃x,lo=some x/\a.eval x=.int k n):=by
 cases lo with
 |none=>simp[Ic] at hl;subst hl;simp at hk;subst hk;exact⟨0,rfl,.inl ⟨rfl,rfl⟩⟩
 |some x=>
  have:=cL h hC hg hl;rw[hk] at this;obtain⟨n,h1,h2,_⟩:=this.int_inv;exact⟨n,h2,.inr ⟨x,rfl,h1⟩⟩
def aBb (h:Inv C S O V own hv w0 σ0 A a w)(hC:CtxOK C σ0)(hg:holds gs O=true){e:PE}{hi:Option Operand}{l:Ty×PE}{k:IntKind}(hl:Ib C S gs e hi=some l)(hk:l.1=.int k):
 ∃n,l.2.ev O=.v (.int k n)/\((hi=none/\n=(e.ev O).l.length)\/∃x,hi=some x/\a.eval x=.int k n):=by
 cases hi with
 |none=>simp[Ib] at hl;subst hl;simp at hk;subst hk;exact⟨_,rfl,.inl ⟨rfl,rfl⟩⟩
 |some x=>
  have:=cL h hC hg hl;rw[hk] at this;obtain⟨n,h1,h2,_⟩:=this.int_inv;exact⟨n,h2,.inr ⟨x,rfl,h1⟩⟩
def run_sliceBound {P:Program}{x:Value}{y i:Nat}{k:IntKind}{code:BoundsCode}{w:World}(hx:x=.int k i)(h:i<=y):(Instr.sliceBound x y code).run P w=.ok i w:=by
 subst hx;simp[Instr.sliceBound,asIntOf,h]
def auY (h:Inv C S O V own hv w0 σ0 A a w)(hC:CtxOK C σ0)(hg:holds gs O=true){T:TypeId}{x:Operand}{lo hi mx:Option Operand}{r:Sh×List PI}(hr:CQ C S gs dst T x lo hi mx=some r){o:Oper}(ho:o.op=.slice T x lo hi mx):
 eX C S O V hv Z dst a w o r:=by
 unfold CQ at hr;split at hr
 case h_3=>cases hr
 case h_2=>
  rename_i n e hT;split at hr
  case h_2=>cases hr
  simp only[aA] at hr;obtain⟨p,hp,hr⟩:=hr;have ba:=cL h hC hg hp;split at hr
  case h_2=>cases hr
  rename_i t ts e1;cases hc:(Nat.beq n (ts.length+1)&&ts.all (Ty.beq t)&&t.one&&tH C.P e t&&Nat.ble n maxLen)<;>simp only[hc,zyy,zyx] at hr
  .cases hr
  cases hr;simp only[av] at hc;obtain⟨⟨⟨⟨c1,c2⟩,c3⟩,c4⟩,c5⟩:=hc;have hn:=aE c1;have hm:=kC c5;obtain⟨inf,pU,hs⟩:=NU c4;rw[e1] at ba;obtain⟨k,off,x0,y,wL,hd,hr0,jI⟩:=ba.ref_inv;obtain⟨vs,ds,rfl,rfl,l1,l2,jK,_⟩:=hr0.agg_inv
  have aU:∀(i:Nat),i<n->(t::ts)[i]?=some t:=λi hi=>by
   cases i with
   |zero=>rfl
   |succ i=>
    have ao:i<ts.length:=by omega
    rw[Ir,bL ao];rw[Ty.beq_eq _ _ (bT.1 c2 _ (cG ao))]
  have Ro:vs.length=n:=by rw[l1,hn];rfl
  have hld:ds.length=n:=by rw[l2,hn];rfl
  have du:t.size=1:=by cases t<;>simp_all [Ty.one,Ty.size]
  refine eX.dat (v:=.slice (some ⟨k,off,none⟩) n n) ?_ ?_
  .have:Addr.add ⟨k,off,none⟩ 0=⟨k,off,none⟩:=by simp[Addr.add]
   simp[execOp,ho,Instr.sliceAt,run_underlying hT,wL,Instr.sureAddr,Instr.sliceBounds,Go.sizeOf,run_typeInfo w pU,this]
  .have ap4:(PE.lst ((List.range n).map λi=>.cell (.deref p.2) i)).ev O=.list ds:=by
        simp only[PE.ev]
        congr 1
        have bY:∀l:List PE,PE.evs O l=l.map λe=>e.ev O:=λl=>by induction l with|nil=>rfl|cons e l ih=>simp[PE.evs,ih]
        rw[bY,OD];apply ZM;intro i;rw[cM];by_cases hi:i<n
        .rw[sn hi,bL (by omega)];simp only[ld,Function.comp,PE.ev,hd,D.deref,D.c,D.cells];rw[aL,bL (by omega)];rfl
        .rw[tP (by simp;omega),tP (by omega)];rfl
   rw[ap4];refine .slice t k off n n ds (λi=>vs.getD i undef) hld (bB _) hm (λi x hx=>?_) (λi j u hi hu=>?_)
   .have ao:i<n:=by rw[<-hld];exact(fo.1 hx).1
    have:=jK i t (aU i ao);rw[uu hx] at this;exact this.unf
   .have h1:=(jK i t (aU i hi)).oneCell c3;rw[h1.1] at hu;cases j with
    |zero=>
     simp at hu;have:=jI i (vs.getD i undef) (by
      simp only[Value.cells];rw[Is,bL (by omega),aL,bL (by omega)];rfl)
     rw[du,<-hu];simpa using this
    |succ j=>simp at hu
 rename_i e hT;simp only[aA] at hr;obtain⟨p,hp,hr⟩:=hr;have ba:=cL h hC hg hp;split at hr
 case h_2=>cases hr
 rename_i t e1;rw[e1] at ba;simp only[aA] at hr;obtain⟨l,hl,u,hu,hr⟩:=hr;split at hr
 case h_2=>cases hr
 rename_i k1 k2 e2 e3;cases aJ:tH C.P e t<;>simp only[aJ,zyy,zyx] at hr
 .cases hr
 cases hr;obtain⟨inf,pU,hs⟩:=NU aJ;obtain⟨n1,bx,yR⟩:=aBd h hC hg hl e2;obtain⟨n2,dM,Rj⟩:=aBb h hC hg hu e3;obtain⟨xs,hd,B2⟩:=Rep.slice_inv ba;refine .datc hg λhc=>?_;simp only[PE.ev,hd,bx,dM,D.l_list,D.i_int,D.b_bool,decide_eq_true_eq] at hc;obtain⟨m1,rfl⟩:=vI hc.1;obtain⟨m2,rfl⟩:=vI (show 0<=n2 by omega);have BX:m1<=m2:=by omega
 have h2l:m2<=xs.length:=by omega
 have abK:∀c,xs.length<=c->(Instr.sliceBounds true xs.length c (lo.map a.eval) (hi.map a.eval) none).run C.P w=.ok (m1,m2,c) w:=by
  intro c jH
  have hh:∀code,(match hi.map a.eval with|some v=>Instr.sliceBound v c code|none=>(pure xs.length:Sem Nat)).run C.P w=.ok m2 w:=by
   intro code;rcases Rj with⟨rfl,e⟩|⟨y,rfl,e⟩
   .rw[hd,D.l_list] at e;simp;omega
   .simp only[ld];exact run_sliceBound e (by omega)
  have Rn:∀code,(match lo.map a.eval with|some v=>Instr.sliceBound v m2 code|none=>(pure 0:Sem Nat)).run C.P w=.ok m1 w:=by
   intro code;rcases yR with⟨rfl,e⟩|⟨y,rfl,e⟩
   .simp;omega
   .simp only[ld];exact run_sliceBound e BX
  have hh':=hh .sliceAcap;have acb:=Rn .sliceB;unfold Instr.sliceBounds;cases hi<;>cases lo<;>simp at hh' acb ⊢<;>simp[hh',acb]
 rcases B2 with⟨⟨p0,wL⟩,rfl⟩|⟨k,off,c,wL,h1,h2,vs,h3,h4⟩
 .have:m2=0:=by simpa using h2l
  have:m1=0:=by omega
  subst_vars
  refine⟨.slice p0 0 0,?_,?_⟩
  .have hb:=abK 0 (bB _);simp only[sq] at hb;cases p0 with
   |none=>simp[execOp,ho,Instr.sliceAt,Instr.slice,run_underlying hT,wL,hb,Go.sizeOf,run_typeInfo w pU]
   |some a0=>simp[execOp,ho,Instr.sliceAt,Instr.slice,run_underlying hT,wL,hb,Go.sizeOf,run_typeInfo w pU]
  .simp only[PE.ev,hd,bx,dM,D.l_list,D.i_int];cases p0 with
   |none=>exact .nil t
   |some a0=>exact .emp t a0
 .refine⟨.slice (some (if c=m1 then⟨k,off,none⟩ else⟨k,off+m1*inf.size,none⟩)) (m2-m1) (c-m1),?_,?_⟩
  .have hb:=abK c h1;simp only[execOp,ho,Option.map_none,Instr.sliceAt,run_underlying hT,wL];simp[run_underlying hT,Instr.slice,hb,Go.sizeOf,run_typeInfo w pU,tS];split<;>simp
  .simp only[PE.ev,hd,bx,dM,D.l_list,D.i_int,xO];have hlen:((xs.take m2).drop m1).length=m2-m1:=by simp;omega
   have jK:∀(i:Nat) (y:D),((xs.take m2).drop m1)[i]?=some y->xs[m1+i]?=some y:=by
        intro i y hy;simp only[gK,gm] at hy;split at hy
        .exact hy
        .cases hy
   have jI:∀(i j:Nat) (v:Value),i<m2-m1->(vs (m1+i)).cells[j]?=some v->V.c k (off+m1*inf.size+i*t.size+j)=some v:=by
        intro i j v hi hj;have:=h4 (m1+i) j v (by omega) hj;rw[qG] at this;rw[hs]
        rwa [<-xS] at this
   split
   .rename_i pR;refine .slice t k off (m2-m1) (c-m1) _ (λi=>vs (m1+i)) hlen (by omega) (by omega) (λi y hy=>h3 _ _ (jK i y hy)) (λi j v hi hj=>by omega)
   .exact .slice t k (off+m1*inf.size) (m2-m1) (c-m1) _ (λi=>vs (m1+i)) hlen (by omega) (by omega) (λi y hy=>h3 _ _ (jK i y hy)) jI
def ajz (h:Inv C S O V own hv w0 σ0 A a w)(hC:CtxOK C σ0)(hg:holds gs O=true):∀(xs:List Operand) (r:List Ty×List PE),lL C S gs xs=some r->
 r.1.length=xs.length/\r.2.length=xs.length/\∀(i:Nat) (t:Ty),r.1[i]?=some t->Rep C.cap V t ((xs.map a.eval).getD i undef) ((PE.evs O r.2).getD i .none):=by
 intro xs
 induction xs with
 |nil=>intro r hr;simp[lL] at hr;subst hr;exact⟨rfl,rfl,by simp⟩
 |cons x xs ih=>
  intro r hr;simp only[lL,aA,aD] at hr;obtain⟨p,hp,q,hq,rfl⟩:=hr;obtain⟨l1,l2,aU⟩:=ih q hq;refine⟨by simp[l1],by simp[l2],λi t hi=>?_⟩;cases i with
  |zero=>simp at hi;subst hi;simpa [PE.evs] using cL h hC hg hp
  |succ i=>simp at hi;simpa [PE.evs] using aU i t hi
def auH (h:Inv C S O V own hv w0 σ0 A a w)(hC:CtxOK C σ0)(hg:holds gs O=true){fn:Fn}{first caps:Array Operand}{r:Sh×List PI}(hr:TY C S gs dst fn first caps=some r){o:Oper}(ho:o.op=.makeFunc fn first caps):
 eX C S O V hv Z dst a w o r:=by
 unfold TY at hr;split at hr
 case h_2=>cases hr
 rename_i f yJ;have uB:first=#[]:=by simpa using yJ
 subst uB;simp only[aA] at hr;obtain⟨cs,dL,p,hp,hr⟩:=hr;cases hb:Ty.subs p.1 cs.caps<;>simp only[hb,zyy,zyx] at hr
 .cases hr
 cases hr;obtain⟨l1,l2,aU⟩:=ajz h hC hg _ _ hp;have hl:=Ty.subs_len _ _ hb;refine .dat (v:=.func (.func f) #[] (caps.map a.eval)) ?_ ?_
 .simp[execOp,ho,Instr.makeFunc]
 .simp only[PE.ev];have:caps.map a.eval=(caps.toList.map a.eval).toArray:=by apply tN;rw[xJ]
  rw[this];have e1:(caps.toList.map a.eval).length=cs.caps.length:=by rw[fp];omega
  have e2:(PE.evs O p.2).length=cs.caps.length:=by rw[PE.evs_eq,fp];omega
  refine .fn f cs _ _ dL e1 e2 (λi t hi=>?_);obtain⟨s,hs,cA⟩:=Ty.subs_get _ _ hb i t hi;exact(aU i s hs).sub cA
def auT (h:Inv C S O V own hv w0 σ0 A a w)(hC:CtxOK C σ0)(hg:holds gs O=true){x:Operand}{r:Sh×List PI}(hr:CO C S gs dst x=some r){o:Oper}(ho:o.op=.nilCheck x):
 eX C S O V hv Z dst a w o r:=by
 have ar:∀k off,a.eval x=.pointer (some ⟨k,off,none⟩)->(execOp a.eval o).run C.P w=.ok (.value (a.eval x)) w:=by
  intro k off e;simp[execOp,ho,e]
 unfold CO at hr;split at hr
 .rename_i t e hu;cases hr;have ba:=cL h hC hg hu;obtain⟨k,off,v,y,aY,bx,cw,jI⟩:=Rep.ref_inv ba;exact .dat (ar k off aY) ba
 .split at hr
  .rename_i t _;obtain⟨hs,eK⟩:=nV h hg t;split at hr
   .rename_i j ver off es;rw[es] at hs;cases hb:Nat.beq ver (S.ver j)<;>simp only[hb,zyy,zyx] at hr
    .cases hr
    cases hr;obtain⟨k,fF,gu⟩:=hs.2 (aE hb);intro O' FT;exact⟨_,_,vx FT,ar k off gu,hs,λ_ _ e=>by cases e⟩
   .rename_i j ver sz off es;rw[es] at hs;cases hb:Nat.beq ver (S.ver j)<;>simp only[hb,zyy,zyx] at hr
    .cases hr
    cases hr;have fW:=hs;obtain⟨k,n,c,ik,i,fF,wk,bE,gu⟩:=hs.2 (aE hb);intro O' FT;exact⟨_,_,vx FT,ar _ _ gu,fW,λ_ _ e=>by cases e⟩
   .cases hr
  .cases hr
def ajG {cap:Nat->Option CSig}{t:Ty}{z:Ty×D}{v:Value}(h:rZ t=some z)(hz:Ah t v=true):Rep cap V z.1 v z.2/\z.1.one=true/\Ty.sub z.1 t=true:=by
 unfold Ah at hz;split at hz
 .simp at hz;obtain⟨rfl,rfl⟩:=hz;simp[rZ] at h;subst h;exact⟨.int _ 0 (by rename_i k;cases k<;>decide) (by rename_i k;cases k<;>decide),rfl,by simp[Ty.sub,Ty.beq]⟩
 .simp at hz;subst hz;simp[rZ] at h;subst h;exact⟨.bool false,rfl,rfl⟩
 .rename_i s;have:s=ByteArray.empty:=by
   have:s.size=0:=by simpa using hz
   cases s with|mk d=>simp[ByteArray.size] at this;subst this;rfl
  subst this;simp[rZ] at h;subst h;exact⟨.str _ (by decide),rfl,rfl⟩
 .simp[rZ] at h;subst h;exact⟨.nils _,rfl,rfl⟩
 .simp[rZ] at h;subst h;refine⟨.mapnil _ _,rfl,?_⟩;simp only[Ty.sub];exact Ty.beq_refl _
 .simp[rZ] at h;subst h;exact⟨.fnnil _ _,rfl,by simp only[Ty.sub];exact Ty.beq_refl _⟩
 .cases hz
end
def mapM_some {α β:Type}(f:α->Option β):∀(l:List α) (r:List β),l.mapM f=some r->r.length=l.length/\∀(i:Nat) (x:α),l[i]?=some x->∃y,r[i]?=some y/\f x=some y
 |[],r,h=>by simp at h;subst h;exact⟨rfl,by simp⟩
 |x::l,r,h=>by
  simp only[ZS,Option.bind_eq_bind,aA] at h;obtain⟨y,hy,ys,zf,h⟩:=h;cases h;obtain⟨h1,h2⟩:=mapM_some f l ys zf;refine⟨by simp[h1],λi z hi=>?_⟩;cases i with
  |zero=>simp at hi;subst hi;exact⟨y,rfl,hy⟩
  |succ i=>simp at hi;simpa using h2 i z hi
def Zw:∀(ts:List Ty) (vs:List Value),DN ts vs=true->vs.length=ts.length/\∀(i:Nat) (t:Ty),ts[i]?=some t->∃v,vs[i]?=some v/\Ah t v=true
 |[],vs,h=>by cases vs<;>simp_all [DN]
 |t::ts,vs,h=>by
  cases vs with
  |nil=>simp[DN] at h
  |cons v vs=>
   simp only[DN,av] at h;obtain⟨h1,h2⟩:=Zw ts vs h.2;refine⟨by simp[h1],λi u hi=>?_⟩;cases i with
   |zero=>simp at hi;subst hi;exact⟨v,rfl,h.1⟩
   |succ i=>simp at hi;simpa using h2 i u hi
def Ai {cap:Nat->Option CSig}{V:Im}{t:Ty}{z:Ty×D}{v:Value}(h:qB t=some z)(hz:kA t v=true):Rep cap V z.1 v z.2/\Ty.sub z.1 t=true/\z.1.one=t.one:=by
 cases t with
 |agg ts=>
  simp only[qB,aD] at h;obtain⟨zs,uS,rfl⟩:=h;cases v with
  |agg vs=>
   simp only[kA] at hz;obtain⟨l1,h1⟩:=Zw ts vs.toList hz;obtain⟨l2,h2⟩:=mapM_some _ _ _ uS;have key:∀(i:Nat) (t:Ty),ts[i]?=some t->∃y v,zs[i]?=some y/\vs.toList[i]?=some v/\Rep cap V y.1 v y.2/\y.1.one=true/\Ty.sub y.1 t=true:=by
      intro i t hi;obtain⟨y,hy,uR⟩:=h2 i t hi;obtain⟨v,hv,jk⟩:=h1 i t hi;obtain⟨g1,g2,g3⟩:=ajG (cap:=cap) (V:=V) uR jk;exact⟨y,v,hy,hv,g1,g2,g3⟩
   have cq:∀(ts:List Ty) (zs:List (Ty×D)),zs.length=ts.length->(∀(i:Nat) (t:Ty),ts[i]?=some t->∃y,zs[i]?=some y/\Ty.sub y.1 t=true)->Ty.subs (zs.map (·.1)) ts=true:=by
      intro ts
      induction ts with
      |nil=>intro zs hl _;cases zs<;>simp_all [Ty.subs]
      |cons t ts ih=>
       intro zs hl hh;cases zs with
       |nil=>simp at hl
       |cons z zs=>
        simp only[gn,Ty.subs,av];refine⟨?_,ih zs (by simpa using hl) λi u hu=>by simpa using hh (i+1) u (by simpa using hu)⟩;obtain⟨y,hy,uR⟩:=hh 0 t rfl;simp at hy;subst hy;exact uR
   refine⟨?_,?_,rfl⟩
   .have:vs=vs.toList.toArray:=by simp
    rw[this];refine .agg _ _ _ (by rw[fp];omega) (by simp) (λi t hi=>?_) (λi t hi=>?_)
    .simp only[cM,aD] at hi;obtain⟨q,hq,rfl⟩:=hi;obtain⟨t',R1⟩:∃t',ts[i]?=some t':=⟨_,bL (by have:=(fo.1 hq).1;omega)⟩
     obtain⟨y,v,hy,hv,g1,g2,g3⟩:=key i t' R1;rw[hq] at hy;cases hy;rw[uu hv,uu (show(zs.map (·.2))[i]?=some q.2 by simp[hq])];exact g1
    .simp only[cM,aD] at hi;obtain⟨q,hq,rfl⟩:=hi;obtain⟨t',R1⟩:∃t',ts[i]?=some t':=⟨_,bL (by have:=(fo.1 hq).1;omega)⟩
     obtain⟨y,v,hy,hv,g1,g2,g3⟩:=key i t' R1;rw[hq] at hy;cases hy;exact g2
   .simp only[Ty.sub];exact cq ts zs l2 λi t hi=>by obtain⟨y,v,hy,hv,g1,g2,g3⟩:=key i t hi;exact⟨y,hy,g3⟩
  |_=>simp[kA] at hz
 |_=>
  obtain⟨g1,g2,g3⟩:=ajG (cap:=cap) (V:=V) (by simpa [qB] using h) (by simpa [kA] using hz);exact⟨g1,g3,(Ty.sub_one _ _ g3).1⟩
def akH {a b:ByteArray}(h:(a==b)=true):a=b:=by
 cases a with|mk x=>cases b with|mk y=>
 have:(x==y)=true:=h;rw[eq_of_beq this]
def akI (a:ByteArray):(a==a)=true:=by
 cases a with|mk x=>
 show(x==x)=true;simp
def Sv {P:Program}{K:TypeId}{kt:Ty}(hk:nJ P K kt=true):
 (∃k k',kt=.int k/\P.underlying K=some (.int k'))\/(kt=.str/\P.underlying K=some .string)\/(kt=.bool/\P.underlying K=some .bool):=by
 unfold nJ at hk;split at hk
 .split at hk
  .exact .inl ⟨_,_,rfl,by assumption⟩
  .cases hk
 .split at hk
  .exact .inr (.inl ⟨rfl,by assumption⟩)
  .cases hk
 .split at hk
  .exact .inr (.inr ⟨rfl,by assumption⟩)
  .cases hk
 .cases hk
def amM {cap:Nat->Option CSig}{V:Im}{P:Program}{K:TypeId}{kt:Ty}{desc:TypeDesc}(hk:nJ P K kt=true)(hu:P.underlying K=some desc){v:Value}{d:D}(hv:Rep cap V kt v d):
 ∀(es:List MapEntry) (ds:List (D×D)) (i:Nat),ds.length=es.length->(∀(j:Nat) (e:MapEntry) (p:D×D),es[j]?=some e->ds[j]?=some p->Rep cap V kt e.key p.1)->
  (Instr.findNow desc v es i=some none/\∀(j:Nat) (p:D×D),ds[j]?=some p->ff d p.1=false)\/
  ∃j e p,es[j]?=some e/\ds[j]?=some p/\Instr.findNow desc v es i=some (some (i+j,e.val))/\ff d p.1=true/\Instr.sameBits 10000 e.key v=true/\∀m q,m<j->ds[m]?=some q->ff d q.1=false:=by
 have du:∀(v':Value) (d':D),Rep cap V kt v' d'->Instr.sameNow desc v v'=some (ff d d')/\(ff d d'=true->Instr.sameBits 10000 v' v=true):=by
  intro v' d' h';rcases Sv hk with⟨k,k',rfl,l6⟩|⟨rfl,l6⟩|⟨rfl,l6⟩
  .rw[hu] at l6;cases l6;obtain⟨n,rfl,rfl,_⟩:=hv.int_inv;obtain⟨m,rfl,rfl,_⟩:=h'.int_inv;refine⟨by simp[Instr.sameNow,ff,D.cells,sY,uV],λe=>?_⟩;have:n=m:=by simpa [ff,D.cells,sY,uV] using e
   subst this;simp[Instr.sameBits]
  .rw[hu] at l6;cases l6;obtain⟨n,rfl,rfl,_⟩:=hv.str_inv;obtain⟨m,rfl,rfl,_⟩:=h'.str_inv;refine⟨by simp[Instr.sameNow,ff,D.cells,sY,uV],λe=>?_⟩;have:n=m:=akH (by simpa [ff,D.cells,sY,uV] using e);subst this;simpa [Instr.sameBits] using akI n
  .rw[hu] at l6;cases l6;obtain⟨n,rfl,rfl⟩:=hv.bool_inv;obtain⟨m,rfl,rfl⟩:=h'.bool_inv;refine⟨by simp[Instr.sameNow,ff,D.cells,sY,uV],λe=>?_⟩;have:n=m:=by simpa [ff,D.cells,sY,uV] using e
   subst this;simp[Instr.sameBits]
 intro es
 induction es with
 |nil=>intro ds i hl _;left;exact⟨rfl,by cases ds<;>simp_all⟩
 |cons e es ih=>
  intro ds i hl aU;cases ds with
  |nil=>simp at hl
  |cons p ds=>
   obtain⟨hs,hb⟩:=du e.key p.1 (aU 0 e p rfl rfl);cases oD:ff d p.1 with
   |true=>
    right;rw[oD] at hs;exact⟨0,e,p,rfl,rfl,by simp[Instr.findNow,hs],oD,hb oD,λm q hm=>by omega⟩
   |false=>
    rw[oD] at hs;rcases ih ds (i+1) (by simpa using hl) (λj e' p' he hp=>aU (j+1) e' p' (by simpa using he) (by simpa using hp)) with⟨h1,h2⟩|⟨j,e',p',h1,h2,h3,h4,h5,h6⟩
    .left;refine⟨by simp[Instr.findNow,hs,h1],λj q hq=>?_⟩;cases j with
     |zero=>simp at hq;subst hq;exact oD
     |succ j=>exact h2 j q (by simpa using hq)
    .right;refine⟨j+1,e',p',by simpa using h1,by simpa using h2,?_,h4,h5,λm q hm hq=>?_⟩
     .simp[Instr.findNow,hs,h3];omega
     .cases m with
      |zero=>simp at hq;subst hq;exact oD
      |succ m=>exact h6 m q (by omega) (by simpa using hq)
def SF {d:D}:∀{ds:List (D×D)},(∀(j:Nat) (p:D×D),ds[j]?=some p->ff d p.1=false)->eu d ds=none
 |[],_=>rfl
 |p::ds,h=>by simp only[eu,h 0 p rfl];exact SF λj q hq=>h (j+1) q (by simpa using hq)
def SG {d:D}:∀{ds:List (D×D)} {j:Nat} {p:D×D},ds[j]?=some p->ff d p.1=true->(∀(m:Nat) (q:D×D),m<j->ds[m]?=some q->ff d q.1=false)->eu d ds=some p.2
 |[],j,p,hp,_,_=>by simp at hp
 |x::ds,0,p,hp,hk,_=>by simp at hp;subst hp;simp[eu,hk]
 |x::ds,j+1,p,hp,hk,hm=>by
  simp only[eu,hm 0 x (by omega) rfl];exact SG (j:=j) (by simpa using hp) hk λm q ao hq=>hm (m+1) q (by omega) (by simpa using hq)
def Ud {d v:D}:∀{ds:List (D×D)},(∀(j:Nat) (p:D×D),ds[j]?=some p->ff d p.1=false)->dj d v ds=ds++[(d,v)]
 |[],_=>rfl
 |p::ds,h=>by simp only[dj,h 0 p rfl,xL,if_false,Io];rw[Ud λj q hq=>h (j+1) q (by simpa using hq)]
def Ue {d v:D}:∀{ds:List (D×D)} {j:Nat} {p:D×D},ds[j]?=some p->ff d p.1=true->(∀(m:Nat) (q:D×D),m<j->ds[m]?=some q->ff d q.1=false)->dj d v ds=ds.set j (d,v)
 |[],j,p,hp,_,_=>by simp at hp
 |x::ds,0,p,hp,hk,_=>by simp at hp;subst hp;simp[dj,hk]
 |x::ds,j+1,p,hp,hk,hm=>by
  simp only[dj,hm 0 x (by omega) rfl,xL,if_false,List.set_cons_succ];rw[Ue (j:=j) (by simpa using hp) hk λm q ao hq=>hm (m+1) q (by omega) (by simpa using hq)]
def adi {P:Program}{K:TypeId}{kt:Ty}(hk:Cq P K kt=true):
 ∃k k' e q i,kt=.agg [.int k,.int k']/\P.underlying K=some (.array 2 e)/\P.underlying e=some (.int q)/\P.plainKey e=true/\P.info? e=some i/\P.cellsOf e=1:=by
 unfold Cq at hk;split at hk
 case h_2=>cases hk
 rename_i k k';split at hk
 case h_2=>cases hk
 rename_i n e hu;simp only[av] at hk;obtain⟨⟨⟨h1,h2⟩,h3⟩,h4⟩:=hk;have hn:=aE h1;subst hn;split at h2
 case h_2=>cases h2
 rename_i q hq;split at h4
 case h_2=>cases h4
 rename_i i hi;exact⟨k,k',e,q,i,rfl,hu,hq,h3,hi,aE h4⟩
def Rep.pair_inv {cap:Nat->Option CSig}{V:Im}{k k':IntKind}{v:Value}{d:D}(h:Rep cap V (.agg [.int k,.int k']) v d):∃a b,v=.agg #[.int k a,.int k' b]/\d=.agg [.v (.int k a),.v (.int k' b)]:=by
 generalize ht:Ty.agg [.int k,.int k']=t at h;cases h with
 |agg ts vs ds h1 h2 h ho=>
  cases ht;obtain⟨x,y,rfl⟩:∃x y,vs=[x,y]:=by
   match vs,h1 with
   |[x,y],_=>exact⟨x,y,rfl⟩
  obtain⟨p,q,rfl⟩:∃x y,ds=[x,y]:=by
   match ds,h2 with
   |[x,y],_=>exact⟨x,y,rfl⟩
  obtain⟨a,e1,e2,_⟩:=(h 0 _ rfl).int_inv;obtain⟨b,e3,e4,_⟩:=(h 1 _ rfl).int_inv;simp at e1 e2 e3 e4;subst e1 e2 e3 e4;exact⟨a,b,rfl,rfl⟩
 |_=>cases ht
def axi {P:Program}{K e:TypeId}{q:IntKind}{i:TypeInfo}(hu:P.underlying K=some (.array 2 e))(hq:P.underlying e=some (.int q))(hp:P.plainKey e=true)(hi:P.info? e=some i)(hc:P.cellsOf e=1)(k k':IntKind)(a b c d:Int)(w:World):
 (Op.equal K (.agg #[.int k a,.int k' b]) (.agg #[.int k c,.int k' d])).run P w=.ok (a==c&&b==d) w:=by
 unfold Op.equal;show(Op.equalIn (9999+1) K _ _).run P w=_;rw[run_equalIn_array w 9999 _ _ hu hi,hc];have e0:List.range 2=[0,1]:=rfl;have p0:∀(x y:Value) (w:World),(part e #[x,y] 0).run P w=.ok x w:=λx y w=>run_part_plain w hp rfl;have p1:∀(x y:Value) (w:World),(part e #[x,y] 1).run P w=.ok y w:=λx y w=>run_part_plain w hp rfl;have q0:∀(k:IntKind) (a b:Int) (w:World),(Op.equalIn 9999 e (.int k a) (.int k b)).run P w=.ok (a==b) w:=λk a b w=>run_equalIn_int w 9998 e k q a b hq;rw[e0];simp only[Op.eqItems,Sem.run_bind,Nat.zero_mul,Nat.one_mul,p0,p1,Result.andThen_ok,q0];cases a==c
 .simp
 .simp only[tO,xL,if_false,Sem.run_bind,p1,Result.andThen_ok,q0];cases b==d<;>simp
def adh {P:Program}{K:TypeId}{kt:Ty}(hk:wP P K kt=true):nJ P K kt=true\/Cq P K kt=true:=by
 unfold wP at hk;simpa using hk
def ak7 {cap:Nat->Option CSig}{V:Im}{P:Program}{K:TypeId}{kt:Ty}(hk:Cq P K kt=true){v:Value}{d:D}(hv:Rep cap V kt v d){w:World}{b:Bool}:(Instr.checkKey b 10000 K v).run P w=.ok () w:=by
 obtain⟨k,k',e,q,i,rfl,hu,hq,hp,hi,hc⟩:=adi hk;obtain⟨x,y,rfl,_⟩:=hv.pair_inv;have p0:∀(x y:Value) (w:World),(part e #[x,y] 0).run P w=.ok x w:=λx y w=>run_part_plain w hp rfl;have p1:∀(x y:Value) (w:World),(part e #[x,y] 1).run P w=.ok y w:=λx y w=>run_part_plain w hp rfl
 have c0:∀(m:Nat) (k:IntKind) (n:Int) (w:World),(Instr.checkKey b (m+1) e (.int k n)).run P w=.ok () w:=λm k n w=>by
  simp[Instr.checkKey,run_underlying hq]
 have s0:∀w:World,(Go.sizeOf e).run P w=Result.ok 1 w:=λw=>by rw[run_sizeOf w hi,hc]
 have main:∀m,(Instr.checkKey b (m+1+1) K (.agg #[.int k x,.int k' y])).run P w=.ok () w:=by
  intro m;rw[Instr.checkKey];simp only[Sem.run_bind,run_underlying hu,Result.andThen_ok,Std.Legacy.Range.forIn_eq_forIn_range',Std.Legacy.Range.size,Nat.sub_zero,Nat.add_one_sub_one,Nat.div_one];simp[List.range',s0,p0,p1,c0,Sem.run_bind,Result.andThen_ok]
 exact main 9998
def aay {cap:Nat->Option CSig}{V:Im}{P:Program}{K:TypeId}{kt:Ty}(hk:wP P K kt=true){v:Value}{d:D}(hv:Rep cap V kt v d){w:World}{b:Bool}:(Instr.checkKey b 10000 K v).run P w=.ok () w:=by
 rcases adh hk with hk|hk
 case inr=>exact ak7 hk hv
 have:∀n,(Instr.checkKey b (n+1) K v).run P w=.ok () w:=by
  intro n;rcases Sv hk with⟨k,k',rfl,hu⟩|⟨rfl,hu⟩|⟨rfl,hu⟩<;>cases v<;>simp[Instr.checkKey,run_underlying hu]
 exact this 9999
section
variable {C:Ctx} {S:St} {O:Env} {V:Im} {own:Nat->Option Nat} {hv:Nat->Value} {w0:World} {σ0:Base} {A:Nat->Prop} {a:Act} {w:World} {gs:List (Nat×Bool)} {Z:aW} {dst:Nat}
def arH {P:Program}{K:TypeId}{kt:Ty}(hk:nJ P K kt=true):∃desc,P.underlying K=some desc:=by
 rcases Sv hk with⟨k,k',rfl,hu⟩|⟨rfl,hu⟩|⟨rfl,hu⟩<;>exact⟨_,hu⟩
def axj {cap:Nat->Option CSig}{P:Program}{K:TypeId}{kt et:Ty}(hk:Cq P K kt=true){v:Value}{d:D}(hv:Rep cap V kt v d)(arr:Array MapEntry)(ds:List (D×D))(hl:ds.length=arr.size)
 (aU:∀(j:Nat) (e:MapEntry) (p:D×D),arr[j]?=some e->ds[j]?=some p->Rep cap V kt e.key p.1/\Rep cap V et e.val p.2) (w:World):
 ((Instr.findKey K v arr.toList).run P w=.ok none w/\eu d ds=none/\∀u,dj d u ds=ds++[(d,u)])\/
 ∃j e p,arr[j]?=some e/\ds[j]?=some p/\(Instr.findKey K v arr.toList).run P w=.ok (some (j,e.val)) w/\eu d ds=some p.2/\(∀u,dj d u ds=ds.set j (d,u))/\Instr.sameBits 10000 e.key v=true:=by
 obtain⟨k,k',e,q,i,rfl,hu,hq,hp,hi,hc⟩:=adi hk;have du:∀(v':Value) (d':D),Rep cap V (.agg [.int k,.int k']) v' d'->(Op.equal K v v').run P w=.ok (ff d d') w/\(ff d d'=true->Instr.sameBits 10000 v' v=true)/\Instr.sameNow (.array 2 e) v v'=none:=by
  intro v' d' h';obtain⟨a,b,rfl,rfl⟩:=hv.pair_inv;obtain⟨a',b',rfl,rfl⟩:=h'.pair_inv;refine⟨?_,λhe=>?_,rfl⟩
  .rw[axi hu hq hp hi hc];simp[ff,D.cells,sY,uV]
  .have:a=a'/\b=b':=by simpa [ff,D.cells,sY,uV] using he
   obtain⟨rfl,rfl⟩:=this;simp[Instr.sameBits]
 have ask:∀(es:List MapEntry) (ds:List (D×D)) (i:Nat),ds.length=es.length->(∀(j:Nat) (e:MapEntry) (p:D×D),es[j]?=some e->ds[j]?=some p->Rep cap V (.agg [.int k,.int k']) e.key p.1)->
  ((Instr.findAsking K v es i).run P w=.ok none w/\∀(j:Nat) (p:D×D),ds[j]?=some p->ff d p.1=false)\/
  ∃j e p,es[j]?=some e/\ds[j]?=some p/\(Instr.findAsking K v es i).run P w=.ok (some (i+j,e.val)) w/\ff d p.1=true/\Instr.sameBits 10000 e.key v=true/\∀m q,m<j->ds[m]?=some q->ff d q.1=false:=by
  intro es
  induction es with
  |nil=>intro ds i hl _;left;exact⟨by simp[Instr.findAsking],by cases ds<;>simp_all⟩
  |cons en es ih=>
   intro ds i hl aU;cases ds with
   |nil=>simp at hl
   |cons p ds=>
    obtain⟨hs,hb,_⟩:=du en.key p.1 (aU 0 en p rfl rfl);cases oD:ff d p.1 with
    |true=>
     right;rw[oD] at hs;exact⟨0,en,p,rfl,rfl,by simp[Instr.findAsking,hs],oD,hb oD,λm q hm=>by omega⟩
    |false=>
     rw[oD] at hs;rcases ih ds (i+1) (by simpa using hl) (λj e' p' he hp=>aU (j+1) e' p' (by simpa using he) (by simpa using hp)) with⟨h1,h2⟩|⟨j,e',p',h1,h2,h3,h4,h5,h6⟩
     .left;refine⟨by simp[Instr.findAsking,hs,h1],λj q hq=>?_⟩;cases j with
      |zero=>simp at hq;subst hq;exact oD
      |succ j=>exact h2 j q (by simpa using hq)
     .right;refine⟨j+1,e',p',by simpa using h1,by simpa using h2,?_,h4,h5,λm q hm hq=>?_⟩
      .simp[Instr.findAsking,hs,h3];omega
      .cases m with
       |zero=>simp at hq;subst hq;exact oD
       |succ m=>exact h6 m q (by omega) (by simpa using hq)
 have lZ:(Instr.findKey K v arr.toList).run P w=(Instr.findAsking K v arr.toList 0).run P w:=by
  cases kh:arr.toList with
  |nil=>simp[Instr.findKey,run_underlying hu,Instr.findNow,Instr.findAsking]
  |cons en es=>
   obtain⟨p,wA⟩:∃p,ds[0]?=some p:=by
        have:0<ds.length:=by rw[hl];have:=congrArg List.length kh;simp at this;omega
        exact⟨_,bL this⟩
   have Rb:arr[0]?=some en:=by rw[<-DO,kh];rfl
   have:=(du en.key p.1 (aU 0 en p Rb wA).1).2.2;simp[Instr.findKey,run_underlying hu,Instr.findNow,this]
 rw[lZ];rcases ask arr.toList ds 0 (by simpa using hl) (λj e p he hp=>(aU j e p (by simpa using he) hp).1) with⟨h1,h2⟩|⟨j,e,p,h1,h2,h3,h4,h5,h6⟩
 .left;exact⟨h1,SF h2,λu=>Ud h2⟩
 .right;simp only[iL] at h3;exact⟨j,e,p,by simpa using h1,h2,h3,SG h2 h4 h6,λu=>Ue h2 h4 h6,h5⟩
def run_findKey {cap:Nat->Option CSig}{P:Program}{K:TypeId}{kt et:Ty}(gP:wP P K kt=true){v:Value}{d:D}(hv:Rep cap V kt v d)(arr:Array MapEntry)(ds:List (D×D))(hl:ds.length=arr.size)
 (aU:∀(j:Nat) (e:MapEntry) (p:D×D),arr[j]?=some e->ds[j]?=some p->Rep cap V kt e.key p.1/\Rep cap V et e.val p.2) (w:World):
 ((Instr.findKey K v arr.toList).run P w=.ok none w/\eu d ds=none/\∀u,dj d u ds=ds++[(d,u)])\/
 ∃j e p,arr[j]?=some e/\ds[j]?=some p/\(Instr.findKey K v arr.toList).run P w=.ok (some (j,e.val)) w/\eu d ds=some p.2/\(∀u,dj d u ds=ds.set j (d,u))/\Instr.sameBits 10000 e.key v=true:=by
 rcases adh gP with hk|hk
 case inr=>exact axj hk hv arr ds hl aU w
 obtain⟨desc,hu⟩:=arH hk;rcases amM hk hu hv arr.toList ds 0 (by simpa using hl) (λj e p he hp=>(aU j e p (by simpa using he) hp).1) with⟨h1,h2⟩|⟨j,e,p,h1,h2,h3,h4,h5,h6⟩
 .left;exact⟨by simp[Instr.findKey,run_underlying hu,h1],SF h2,λu=>Ud h2⟩
 .right;refine⟨j,e,p,by simpa using h1,h2,?_,SG h2 h4 h6,λu=>Ue h2 h4 h6,h5⟩;simp only[iL] at h3;simp[Instr.findKey,run_underlying hu,h3]
def auR (h:Inv C S O V own hv w0 σ0 A a w)(hC:CtxOK C σ0)(hg:holds gs O=true){T:TypeId}{m k:Operand}{ok:Bool}{r:Sh×List PI}(hr:CN C S gs dst T m k ok=some r){o:Oper}(ho:o.op=.lookup T m k ok):
 eX C S O V hv Z dst a w o r:=by
 unfold CN at hr;split at hr
 case h_2=>cases hr
 rename_i K E hT;simp only[aA] at hr;obtain⟨p,hp,q,hq,hr⟩:=hr;have ba:=Zq h hC hg hp;have dW:=cL h hC hg hq;split at hr
 case h_2=>cases hr
 rename_i kt et e1;rw[e1] at ba;split at hr
 case h_2=>cases hr
 rename_i z inf hz pU;cases hc:(Ty.beq q.1 kt&&wP C.P K kt&&Ty.sub z.1 et&&vF inf et)<;>simp only[hc,zyy,zyx] at hr
 .cases hr
 simp only[av] at hc;obtain⟨⟨⟨Lt,Fz⟩,cq⟩,hzero⟩:=hc;rw[Ty.beq_eq _ _ Lt] at dW;obtain⟨v0,uN,F7⟩:∃v0,inf.zero=some v0/\Rep C.cap V et v0 z.2:=by
  unfold vF at hzero;split at hzero
  .rename_i v0 e0;exact⟨v0,e0,(Ai hz hzero).1.sub cq⟩
  .cases hzero
 have apw:∃(arr:Array MapEntry) (ds:List (D×D)),(p.2.ev O).m=ds/\ds.length=arr.size/\
  (∀(j:Nat) (e:MapEntry) (p:D×D),arr[j]?=some e->ds[j]?=some p->Rep C.cap V kt e.key p.1/\Rep C.cap V et e.val p.2)/\
  ((a.eval m=.map none/\arr=#[])\/∃g clock,a.eval m=.map (some g)/\w.heap[g]?=some (.map arr clock)):=by
  rcases ba with ba|⟨T',e,cells,xs,ht,_⟩|⟨g,arr,clock,es,kt',et',ht,hvm,hb,hd,hl,hx,aU⟩
  .generalize y8:a.eval m=v at ba;generalize Fm:p.2.ev O=d at ba;cases ba with
   |mapnil=>exact⟨#[],[],by simp[D.m],rfl,by simp,.inl ⟨rfl,rfl⟩⟩
   |map kt et r ky es hm hl hx hk he=>
    obtain⟨_,arr,clock,hb,kh⟩:=(h.ok.m _ _ hm).resolve_right (λe=>Gp hl hk e.1);have hn:es.length=arr.size:=by rw[hl,<-kh];simp[entriesOf]
    refine⟨arr,es,by simp[D.m],hn,λj e p hj hp=>?_,.inr ⟨r,clock,rfl,hb⟩⟩;have:ky[j]?=some (e.key,e.val):=by rw[<-kh];simp[entriesOf,hj]
    exact⟨hk j _ p this hp,he j _ p this hp⟩
  .cases ht
  .cases ht;exact⟨arr,es,by rw[hd];rfl,hl,aU,.inr ⟨g,clock,hvm,hb⟩⟩
 obtain⟨arr,ds,hd,hl,aU,cK⟩:=apw;have uA:∀b,(Instr.checkKey b 10000 K (a.eval k)).run C.P w=.ok () w:=λb=>aay (cap:=C.cap) (V:=V) Fz dW;have Rq:∃u b x,(Instr.lookup T (a.eval m) (a.eval k) ok).run C.P w=.ok (if ok then .tuple #[u,.bool b] else u) w/\(eu (q.2.ev O) (p.2.ev O).m).getD z.2=x/\(eu (q.2.ev O) (p.2.ev O).m).isSome=b/\Rep C.cap V et u x:=by
  rw[hd];rcases run_findKey Fz dW arr ds hl aU w with⟨h1,h2,_⟩|⟨j,e,x,h1,h2,h3,h4,_,_⟩
  .refine⟨v0,false,z.2,?_,by rw[h2];rfl,by rw[h2];rfl,F7⟩;rcases cK with⟨em,rfl⟩|⟨g,clock,em,hb⟩
   .simp only[List.toList_toArray] at h1;cases ok<;>simp[Instr.lookup,run_underlying hT,em,uA,h1,zeroValue,run_typeInfo w pU,uN]
   .cases ok<;>simp[Instr.lookup,run_underlying hT,em,getObj,Sem.run,hb,uA,h1,zeroValue,run_typeInfo w pU,uN]
  .refine⟨e.val,true,x.2,?_,by rw[h4];rfl,by rw[h4];rfl,(aU j e x h1 h2).2⟩;rcases cK with⟨em,rfl⟩|⟨g,clock,em,hb⟩
   .simp at h1
   .cases ok<;>simp[Instr.lookup,run_underlying hT,em,getObj,Sem.run,hb,uA,h3]
 obtain⟨u,b,x,ar,oM,Sj,cw⟩:=Rq;cases ok with
 |true=>
  simp only[zyy] at hr;cases hr;refine .dat (v:=.tuple #[u,.bool b]) (by simp[execOp,ho,ar]) ?_;simp only[PE.ev,PE.evs,oM,Sj];refine .tup [et,.bool] [u,.bool b] [x,.v (.bool b)] rfl rfl (λi t hi=>?_)
  match i,hi with
  |0,hi=>simp at hi;subst hi;exact cw
  |1,hi=>simp at hi;subst hi;exact .bool b
  |i+2,hi=>simp at hi
 |false=>
  simp only[zyx] at hr;cases hr;refine .dat (v:=u) (by simp[execOp,ho,ar]) ?_;simp only[PE.ev,oM];exact cw
end
def abd (off:Nat):∀(l:List Value) (s:Nat) (cells:Array Value),off+s+l.length<=cells.size->
 ((l.zipIdx s).foldl (λcs (x:Value×Nat)=>cs.setIfInBounds (off+x.2) x.1) cells).size=cells.size/\
 ∀p,((l.zipIdx s).foldl (λcs (x:Value×Nat)=>cs.setIfInBounds (off+x.2) x.1) cells)[p]?=if off+s<=p/\p<off+s+l.length then l[p-(off+s)]? else cells[p]?
 |[],s,cells,_=>by
  refine⟨rfl,λp=>?_⟩;have:¬(off+s<=p/\p<off+s+0):=by omega
  simp only[List.zipIdx_nil,ZQ,sq];rw[if_neg this]
 |v::l,s,cells,h=>by
  simp only[lQ] at h;obtain⟨h1,h2⟩:=abd off l (s+1) (cells.setIfInBounds (off+s) v) (by simp;omega);simp only[List.zipIdx_cons,Ak];refine⟨by rw[h1];simp,λp=>?_⟩;rw[h2 p];by_cases hp:p=off+s
  .subst hp;have c1:¬(off+(s+1)<=off+s/\off+s<off+(s+1)+l.length):=by omega
   have c2:off+s<=off+s/\off+s<off+s+(v::l).length:=by simp
   rw[if_neg c1,if_pos c2,xI,if_pos rfl,if_pos (by omega)];simp
  .by_cases hc:off+(s+1)<=p/\p<off+(s+1)+l.length
   .have c2:off+s<=p/\p<off+s+(v::l).length:=by simp only[lQ];omega
    rw[if_pos hc,if_pos c2];rw[show p-(off+s)=(p-(off+(s+1)))+1 by omega];simp
   .have c2:¬(off+s<=p/\p<off+s+(v::l).length):=by simp only[lQ];omega
    rw[if_neg hc,if_neg c2,xI];rw[if_neg (by omega)]
def Qz (place:Nat->Option (Nat×Nat)):∀(parts:List (Nat×Value)) (cells:Array Value),
 (∀p,p∈parts->∃o,place p.1=some (o,p.2.cells.size)/\o+p.2.cells.size<=cells.size)->
 (∀i j oi si oj sj,i≠j->place i=some (oi,si)->place j=some (oj,sj)->oi+si<=oj\/oj+sj<=oi)->(parts.map (·.1)).Nodup->
 ∃dy,Instr.fill place cells parts=some dy/\dy.size=cells.size/\
  (∀i v o,(i,v)∈parts->place i=some (o,v.cells.size)->∀m,m<v.cells.size->dy[o+m]?=v.cells[m]?)/\
  (∀i o s,i∉parts.map (·.1)->place i=some (o,s)->∀m,m<s->dy[o+m]?=cells[o+m]?)
 |[],cells,_,_,_=>⟨cells,rfl,rfl,by simp,λ_ _ _ _ _ _ _=>rfl⟩
 |(i,v)::parts,cells,h,B6,bz=>by
  obtain⟨o,hp,hle⟩:=h (i,v) (dS ..);simp only at hp hle;obtain⟨g1,g2⟩:=abd o v.cells.toList 0 cells (by simp;omega);simp only[gn,oh] at bz
  have hz:v.cells.zipIdx.foldl (λcs (x:Value×Nat)=>cs.setIfInBounds (o+x.2) x.1) cells=(v.cells.toList.zipIdx 0).foldl (λcs (x:Value×Nat)=>cs.setIfInBounds (o+x.2) x.1) cells:=by
    rw[<-Array.foldl_toList];simp
  generalize wj:(v.cells.toList.zipIdx 0).foldl (λcs (x:Value×Nat)=>cs.setIfInBounds (o+x.2) x.1) cells=c1 at g1 g2 hz
  obtain⟨dy,k1,k2,k3,k4⟩:=Qz place parts c1 (λp hm=>by
    obtain⟨o',h1,h2⟩:=h p (dK _ hm);exact⟨o',h1,by rw[g1];exact h2⟩) B6 bz.2
  refine⟨dy,?_,k2.trans g1,?_,?_⟩
  .simp only[Instr.fill,hp];have:¬((v.cells.size≠v.cells.size||decide (o+v.cells.size>cells.size))=true):=by simp;omega
   rw[if_neg this];rw[<-k1,<-hz]
  .intro j u o' hm Cf m ao;rcases cQ.1 hm with e|dz
   .cases e;rw[hp] at Cf;cases Cf;rw[k4 i o v.cells.size bz.1 hp m ao,g2];rw[if_pos (by simp;omega)];simp
   .exact k3 j u o' dz Cf m ao
  .intro j o' s' yX Cf m ao;simp only[gn,cQ,not_or] at yX;rw[k4 j o' s' yX.2 Cf m ao,g2];have:=B6 i j o v.cells.size o' s' (λe=>yX.1 e.symm) hp Cf;rw[if_neg (by simp;omega)]
section
variable {C:Ctx} {S:St} {O:Env} {V:Im} {own:Nat->Option Nat} {hv:Nat->Value} {w0:World} {σ0:Base} {A:Nat->Prop} {a:Act} {w:World} {gs:List (Nat×Bool)} {Z:aW} {dst:Nat}
def Rep.flat {cap:Nat->Option CSig}{t:Ty}{v:Value}{d:D}(h:Rep cap V t v d)(ht:t.rowT=true\/t.one=true):
 t.flat.length=t.size/\d.cells.length=t.size/\∀(m:Nat) (tm:Ty),t.flat[m]?=some tm->tm.one=true/\Rep cap V tm (v.cells.getD m undef) (d.cells.getD m .none):=by
 cases h with
 |agg ts vs ds h1 h2 h ho=>
  refine⟨rfl,by simp[D.cells,Ty.size,h2],λm tm hm=>⟨ho m tm hm,?_⟩⟩;have:=h m tm hm;simpa [Value.cells,D.cells,eG,aL] using this
 |tup ts vs ds h1 h2 h=>simp[Ty.rowT,Ty.one] at ht
 |_=>
  refine⟨rfl,rfl,λm tm hm=>?_⟩
  match m,hm with
  |0,hm=>
   simp only[Ty.flat,OB,aZ] at hm;subst hm;refine⟨rfl,?_⟩;simp only[Value.cells,D.cells,vJ];constructor<;>assumption
  |m+1,hm=>simp[Ty.flat] at hm
def nL:∀{l:List Nat},iu l=true->l.Nodup
 |[],_=>List.nodup_nil
 |a::r,h=>by
  simp only[iu,av,jb] at h;refine oh.2 ⟨λhm=>?_,nL h.2⟩;have:=Ov.1 h.1 a hm;simp at this
def Laid (P:Program):List Field->Nat->Prop
 |[],_=>True
 |f::fs,off=>f.offset=off/\∃inf,P.info? f.type=some inf/\Laid P fs (off+inf.size)
def Laid.get {P:Program}:∀{fs:List Field} {off:Nat},Laid P fs off->∀(i:Nat) (f:Field),fs[i]?=some f->∃inf,P.info? f.type=some inf/\off<=f.offset/\
 ∀(j:Nat) (g:Field),i<j->fs[j]?=some g->f.offset+inf.size<=g.offset
 |[],_,_,i,f,hi=>by simp at hi
 |f0::fs,off,h,i,f,hi=>by
  obtain⟨h1,inf,h2,h3⟩:=h;cases i with
  |zero=>
   simp at hi;subst hi;refine⟨inf,h2,by omega,λj g hj hg=>?_⟩;cases j with
   |zero=>omega
   |succ j=>obtain⟨_,_,h4,_⟩:=h3.get j g (by simpa using hg);omega
  |succ i=>
   simp at hi;obtain⟨arv,k1,k2,k3⟩:=h3.get i f hi;refine⟨arv,k1,by omega,λj g hj hg=>?_⟩;cases j with
   |zero=>omega
   |succ j=>exact k3 j g (by omega) (by simpa using hg)
def ags {ft:Ty}{x:Operand}{y:List AgC×PE}(h:uY C S gs ft x=some y):y.1.length=ft.size:=by
 have QD:∀t:Ty,t.flat.length=t.size:=λt=>by cases t<;>simp[Ty.flat,Ty.size]
 unfold uY at h;split at h
 .rename_i a _;cases hs:(Ty.sub a.1 ft&&(a.1.rowT||a.1.one))<;>simp only[hs,zyy,zyx] at h
  .cases h
  cases h;simp only[av] at hs;rw[fp,QD,(Ty.sub_one _ _ hs.1).2]
 .split at h
  .rename_i j ver _;cases hb:(Nat.beq ver (S.ver j)&&Sp (S.o j)&&Nat.beq ft.size 1)<;>simp only[hb,zyy,zyx] at h
   .cases h
   cases h;simp only[av] at hb;exact(aE hb.2).symm
  .cases h
def agt (h:Inv C S O V own hv w0 σ0 A a w)(hC:CtxOK C σ0)(hg:holds gs O=true){ft:Ty}{x:Operand}{y:List AgC×PE}(hy:uY C S gs ft x=some y):
 (a.eval x).cells.size=ft.size/\(y.2.ev O).cells.length=ft.size/\∀(m:Nat) (c:AgC),y.1[m]?=some c->oe C S V hv c ((a.eval x).cells.getD m undef) ((y.2.ev O).cells.getD m .none):=by
 unfold uY at hy;split at hy
 .rename_i q hq;cases hs:(Ty.sub q.1 ft&&(q.1.rowT||q.1.one))<;>simp only[hs,zyy,zyx] at hy
  .cases hy
  cases hy;simp only[av,gJ] at hs;have hr:=cL h hC hg hq;obtain⟨f1,f2,f3⟩:=hr.flat hs.2;have e:=(Ty.sub_one _ _ hs.1).2;refine⟨by rw[hr.size,e],by rw[f2,e],λm c hm=>?_⟩;simp only[cM,aD] at hm;obtain⟨t,ht,rfl⟩:=hm;exact f3 m t ht
 .split at hy
  .rename_i j ver gz;cases hb:(Nat.beq ver (S.ver j)&&Sp (S.o j)&&Nat.beq ft.size 1)<;>simp only[hb,zyy,zyx] at hy
   .cases hy
   cases hy;simp only[av] at hb;obtain⟨⟨ij,cW⟩,QW⟩:=hb;have dO:=aE ij;have aJ:=aE QW;have er:aI C S O V hv (fJ S gs x) (a.eval x) ((rT x).ev O):=by
        cases x with
        |tmp t=>exact(nV h hg t).1
        |_=>cases gz
   rw[gz] at er;have aY:=er.2 dO;have bm:=h.objs j;have hc:(a.eval x).cells=#[a.eval x]:=by
        rw[aY];cases ho:S.o j with
        |row T e=>
         rw[ho] at bm;obtain⟨cells,xs,_,h2,_⟩:=bm;rcases h2.2 with⟨e1,_⟩|⟨g,cap,cur,e1,_⟩<;>rw[e1]<;>rfl
        |_=>rw[ho] at cW;cases cW
   refine⟨by rw[hc,aJ];rfl,by rw[aJ];rfl,λm c hm=>?_⟩;cases m with
   |zero=>
    simp at hm;subst hm;rw[hc];exact er
   |succ m=>simp at hm
  .cases hy
def akN {zs:List Value}{parts:List (Nat×Operand)}:∀(fs:List Field) (i off:Nat) (r:List AgC×List PE),lU C S gs zs parts fs i off=some r->Laid C.P fs off:=by
 intro fs
 induction fs with
 |nil=>intro i off r _;trivial
 |cons f fs ih=>
  intro i off r h;simp only[lU] at h;split at h
  case h_2=>cases h
  rename_i inf ft hi ht;cases hc:(Nat.beq f.offset off&&Nat.beq inf.size ft.size)<;>simp only[hc,zyy,zyx] at h
  .cases h
  simp only[av] at hc;simp only[aA] at h;obtain⟨q,hq,_⟩:=h;exact⟨aE hc.1,inf,hi,ih _ _ _ hq⟩
def aal {zs:List Value}{parts:List (Nat×Operand)}:∀(fs:List Field) (i off:Nat) (r:List AgC×List PE),lU C S gs zs parts fs i off=some r->off<=zs.length:=by
 intro fs
 induction fs with
 |nil=>intro i off r h;simp only[lU] at h;cases hb:Nat.beq off zs.length<;>simp[hb] at h;exact Nat.le_of_eq (aE hb)
 |cons f fs ih=>
  intro i off r h;simp only[lU] at h;split at h
  case h_2=>cases h
  rename_i inf ft hi ht;cases hc:(Nat.beq f.offset off&&Nat.beq inf.size ft.size)<;>simp only[hc,zyy,zyx] at h
  .cases h
  simp only[aA] at h;obtain⟨q,hq,_⟩:=h;have:=ih _ _ _ hq;omega
def akM {zs:List Value}{parts:List (Nat×Operand)}:∀(fs:List Field) (i off:Nat) (r:List AgC×List PE),lU C S gs zs parts fs i off=some r->
 ∃ft:List AgC×List PE,r=ft/\(∀(m:Nat) (f:Field) (inf:TypeInfo),fs[m]?=some f->C.P.info? f.type=some inf->f.offset+inf.size<=zs.length)/\(∀(m:Nat) (x:Nat×Operand) (f:Field) (inf:TypeInfo),fs[m]?=some f->C.P.info? f.type=some inf->parts.find? (λp=>Nat.beq p.1 (i+m))=some x->∃y ft,uY C S gs ft x.2=some y/\ft.size=inf.size)/\off+r.1.length=zs.length:=by
 intro fs
 induction fs with
 |nil=>intro i off r h;simp only[lU] at h;cases hb:Nat.beq off zs.length<;>simp[hb] at h;subst h;exact⟨_,rfl,by simp,by simp,by simpa using aE hb⟩
 |cons f fs ih=>
  intro i off r h;simp only[lU] at h;split at h
  case h_2=>cases h
  rename_i inf ft hi ht;cases hc:(Nat.beq f.offset off&&Nat.beq inf.size ft.size)<;>simp only[hc,zyy,zyx] at h
  .cases h
  simp only[av] at hc;have ki:=aE hc.1;have aJ:=aE hc.2;simp only[aA] at h;obtain⟨q,hq,h⟩:=h;have hle:=aal _ _ _ _ hq;obtain⟨_,rfl,k1,k2,k3⟩:=ih _ _ _ hq;have e1:∀(m:Nat) (g:Field) (ig:TypeInfo),(f::fs)[m]?=some g->C.P.info? g.type=some ig->g.offset+ig.size<=zs.length:=by
   intro m g ig hm gN;cases m with
   |zero=>simp at hm;subst hm;rw[hi] at gN;cases gN;omega
   |succ m=>exact k1 m g ig (by simpa using hm) gN
  have QD:∀t:Ty,t.flat.length=t.size:=λt=>by cases t<;>simp[Ty.flat,Ty.size]
  split at h
  .rename_i x hx;simp only[aD] at h;obtain⟨y,hy,rfl⟩:=h;refine⟨_,rfl,e1,λm x' g ig hm gN hf=>?_,?_⟩
   .cases m with
    |zero=>
     simp at hm;subst hm;rw[hi] at gN;cases gN;simp only[jB] at hf;rw[hx] at hf;cases hf;exact⟨y,ft,hy,aJ.symm⟩
    |succ m=>exact k2 m x' g ig (by simpa using hm) gN (by rwa [show i+(m+1)=i+1+m by omega] at hf)
   .have:=ags hy;simp only[jW];omega
  .rename_i hx;cases nH:kA ft (rowOf ft.rowT ((zs.drop off).take inf.size))<;>simp only[nH,zyy,zyx] at h
   .cases h
   simp only[aD] at h;obtain⟨z,hz,rfl⟩:=h;have cn:=(Ai (cap:=C.cap) (V:=⟨λ_ _=>none,λ_=>none⟩) hz nH).2.1;refine⟨_,rfl,e1,λm x' g ig hm gN hf=>?_,?_⟩
   .cases m with
    |zero=>simp only[jB] at hf;rw[hx] at hf;cases hf
    |succ m=>exact k2 m x' g ig (by simpa using hm) gN (by rwa [show i+(m+1)=i+1+m by omega] at hf)
   .have:=(Ty.sub_one _ _ cn).2;simp only[jW,fp,QD];omega
def akO (h:Inv C S O V own hv w0 σ0 A a w)(hC:CtxOK C σ0)(hg:holds gs O=true){zs:List Value}{parts:List (Nat×Operand)}(cells:Array Value):
 ∀(fs:List Field) (i off:Nat) (r:List AgC×List PE),lU C S gs zs parts fs i off=some r->
  (∀(m:Nat) (f:Field) (inf:TypeInfo),fs[m]?=some f->C.P.info? f.type=some inf->
        (∀x,parts.find? (λp=>Nat.beq p.1 (i+m))=some x->∀q,q<inf.size->cells[f.offset+q]?=(a.eval x.2).cells[q]?)/\
        (parts.find? (λp=>Nat.beq p.1 (i+m))=none->∀q,q<inf.size->cells[f.offset+q]?=zs[f.offset+q]?))->
  (PE.evc O r.2).length=r.1.length/\∀(m:Nat) (c:AgC),r.1[m]?=some c->oe C S V hv c (cells.getD (off+m) undef) ((PE.evc O r.2).getD m .none):=by
 intro fs
 induction fs with
 |nil=>intro i off r hr _;simp only[lU] at hr;cases hb:Nat.beq off zs.length<;>simp[hb] at hr;subst hr;simp[PE.evc]
 |cons f fs ih=>
  intro i off r hr aU;simp only[lU] at hr;split at hr
  case h_2=>cases hr
  rename_i inf ft hi ht;cases hc:(Nat.beq f.offset off&&Nat.beq inf.size ft.size)<;>simp only[hc,zyy,zyx] at hr
  .cases hr
  simp only[av] at hc;have ki:=aE hc.1;have aJ:=aE hc.2;simp only[aA] at hr;obtain⟨q,hq,hr⟩:=hr
  obtain⟨l1,wF⟩:=ih (i+1) (off+inf.size) q hq (λm g arw hm gN=>by
   have:=aU (m+1) g arw (by simpa using hm) gN
   rwa [show i+(m+1)=i+1+m by omega] at this)
  obtain⟨hp,hn⟩:=aU 0 f inf rfl hi;have join:∀(l:List AgC) (v:Value) (d:D) (pe:PE),pe.ev O=d->l.length=inf.size->d.cells.length=inf.size->(∀m c,l[m]?=some c->oe C S V hv c (v.cells.getD m undef) (d.cells.getD m .none))->(∀m,m<inf.size->cells[f.offset+m]?=v.cells[m]?)->
        (PE.evc O (pe::q.2)).length=(l++q.1).length/\∀(m:Nat) (c:AgC),(l++q.1)[m]?=some c->oe C S V hv c (cells.getD (off+m) undef) ((PE.evc O (pe::q.2)).getD m .none):=by
   intro l v d pe wC f1 f2 f3 bo;simp only[PE.evc,wC];refine⟨by simp[f1,f2,l1],λm t' hm=>?_⟩;rw[np] at hm;split at hm
   .rename_i ao;have g2:=f3 m t' hm;have e1:cells.getD (off+m) undef=v.cells.getD m undef:=by
     rw[eG,eG,<-ki,bo m (by omega)]
    have e2:(d.cells++PE.evc O q.2).getD m .none=d.cells.getD m .none:=by
     rw[aL,aL,lP (by omega)]
    rw[e1,e2];exact g2
   .rename_i fV;have g2:=wF _ t' hm;have e1:off+inf.size+(m-l.length)=off+m:=by omega
    have e2:(d.cells++PE.evc O q.2).getD m .none=(PE.evc O q.2).getD (m-l.length) .none:=by
     rw[aL,aL,mu (by omega)];rw[f1,<-f2]
    rw[e1] at g2;rw[e2];exact g2
  simp only[jB] at hp hn;split at hr
  .rename_i x hx;simp only[aD] at hr;obtain⟨y,hy,rfl⟩:=hr;obtain⟨g1,g2,g3⟩:=agt h hC hg hy;exact join y.1 (a.eval x.2) (y.2.ev O) y.2 rfl (by rw[ags hy,aJ]) (by rw[g2,aJ]) g3 (hp x hx)
  .rename_i hx;cases nH:kA ft (rowOf ft.rowT ((zs.drop off).take inf.size))<;>simp only[nH,zyy,zyx] at hr
   .cases hr
   simp only[aD] at hr;obtain⟨z,hz,rfl⟩:=hr;obtain⟨k1,k2,k3⟩:=Ai (cap:=C.cap) (V:=V) hz nH;have Lw:(rowOf ft.rowT ((zs.drop off).take inf.size)).cells.size=inf.size:=by rw[k1.size,(Ty.sub_one _ _ k2).2,aJ]
   have ji:z.1.rowT=true\/z.1.one=true:=by
        cases ft<;>simp[qB,rZ] at hz<;>first|(subst hz;simp[Ty.one])|(obtain⟨_,_,rfl⟩:=hz;simp[Ty.rowT])
   obtain⟨z1,z2,z3⟩:=k1.flat ji;have ez:z.1.size=inf.size:=by rw[(Ty.sub_one _ _ k2).2,aJ]
   refine join (z.1.flat.map .dat) (rowOf ft.rowT ((zs.drop off).take inf.size)) z.2 (.con z.2) rfl (by rw[fp,z1,ez]) (by rw[z2,ez]) (λm c hm=>?_) (λm hm=>?_)
   .simp only[cM,aD] at hm;obtain⟨t,ht,rfl⟩:=hm;exact z3 m t ht
   .rw[hn hx m hm,ki];cases wG:ft.rowT with
    |true=>simp[rowOf,Value.cells,gm,gK,hm]
    |false=>
     rw[wG] at Lw k1;have h1:(z.1).rowT=false:=by
       have:=(Ty.sub_one _ _ k2)
       cases ft<;>simp[Ty.rowT] at wG<;>simp[qB,rZ] at hz<;>subst hz<;>rfl
     rw[k1.cells1 h1] at Lw ⊢;simp at Lw;have hm0:m=0:=by omega
     subst hm0;have:∃u,zs[off]?=some u:=⟨_,bL (show off<zs.length by have:=aal _ _ _ _ hq;omega)⟩
     simp[rowOf,aL,gm,gK,<-Lw];obtain⟨u,hu⟩:=this;simp[hu]
def adj {P:Program}:∀(fs:List Field) (off:Nat),Laid P fs off->
 ∃l:List (Nat×Nat),fs.mapM (λf=>(P.info? f.type).map λi=>(f.offset,i.size))=some l/\l.length=fs.length/\
  ∀(i:Nat) (f:Field) (inf:TypeInfo),fs[i]?=some f->P.info? f.type=some inf->l[i]?=some (f.offset,inf.size)
 |[],_,_=>⟨[],rfl,rfl,by simp⟩
 |f::fs,off,h=>by
  obtain⟨h1,inf,h2,h3⟩:=h;obtain⟨l,k1,k2,k3⟩:=adj fs _ h3;refine⟨(f.offset,inf.size)::l,?_,by simp[k2],λi g ig hi gN=>?_⟩
  .simp[ZS,h2,k1]
  .cases i with
   |zero=>simp at hi;subst hi;rw[h2] at gN;cases gN;rfl
   |succ i=>simp at hi;simpa using k3 i g ig hi gN
def aa4 {parts:List (Nat×Operand)}(bz:(parts.map (·.1)).Nodup){i:Nat}{x:Operand}(h:(i,x)∈parts):parts.find? (λp=>Nat.beq p.1 i)=some (i,x):=by
 induction parts with
 |nil=>cases h
 |cons p ps ih=>
  simp only[gn,oh] at bz;rcases cQ.1 h with e|hm
  .subst e;simp
  .have:¬p.1=i:=λe=>bz.1 (e▸List.mem_map_of_mem (f:=(·.1)) hm);rw[List.find?_cons_of_neg (by simpa using this)];exact ih bz.2 hm
def auy (h:Inv C S O V own hv w0 σ0 A a w)(hC:CtxOK C σ0)(hg:holds gs O=true){T:TypeId}{ps:Array (Nat×Operand)}{r:Sh×List PI}(hr:CF C S gs dst T ps.toList=some r){o:Oper}(ho:o.op=.build T ps):
 eX C S O V hv Z dst a w o r:=by
 unfold CF at hr;split at hr
 case h_3=>cases hr
 case h_2=>
  rename_i n e inf hT pU;split at hr
  case h_2=>cases hr
  rename_i zs ie hz hie;split at hr
  case h_2=>cases hr
  rename_i x y uK;simp only[aA] at hr;obtain⟨p,hp,q,hq,hr⟩:=hr;split at hr
  case h_2=>cases hr
  rename_i k k' hk bh;cases hc:(Nat.beq n 2&&Nat.beq zs.size 2&&Nat.beq ie.size 1)<;>simp only[hc,zyy,zyx] at hr
  .cases hr
  cases hr;simp only[av] at hc;obtain⟨⟨c1,c2⟩,c3⟩:=hc;have c1:=aE c1;have c2:=aE c2;have c3:=aE c3;subst c1;have hx:=cL h hC hg hp;have hy:=cL h hC hg hq;rw[hk] at hx;rw[bh] at hy;obtain⟨a1,Qn,ea2,_⟩:=hx.int_inv;obtain⟨b1,Qo,eb2,_⟩:=hy.int_inv;have aqB:ps=#[(0,x),(1,y)]:=by rw[<-vG];exact uK
  obtain⟨z0,z1,rfl⟩:∃z0 z1,zs=#[z0,z1]:=by
   match zs,c2 with
   |⟨[z0,z1]⟩,_=>exact⟨z0,z1,rfl⟩
  have QZ:C.P.built T [(0,a.eval x),(1,a.eval y)]=some #[a.eval x,a.eval y]:=by
   rw[Qn,Qo];simp only[Program.built,pU,hT,hz,hie,c3];simp[Instr.fill,Value.cells]
  have ar:(execOp a.eval o).run C.P w=.ok (.value (.agg #[a.eval x,a.eval y])) w:=by
   have:=run_build (P:=C.P) w T (ps.map λ(x:Nat×Operand)=>(x.1,a.eval x.2)) #[a.eval x,a.eval y] (by rw[aqB];simpa using QZ);simp[execOp,ho,this]
  refine .dat ar ?_;have e1:(PE.mk [p.2,q.2]).ev O=.agg [p.2.ev O,q.2.ev O]:=by simp[PE.ev,PE.evc,ea2,eb2,D.cells]
  rw[e1];refine .agg _ [a.eval x,a.eval y] _ rfl rfl (λi t hi=>?_) (λi t hi=>?_)
  .match i,hi with
   |0,hi=>simp at hi;subst hi;rw[hk];simpa using hx
   |1,hi=>simp at hi;subst hi;rw[bh];simpa using hy
   |i+2,hi=>simp at hi
  .match i,hi with
   |0,hi=>simp at hi;subst hi;rw[hk];rfl
   |1,hi=>simp at hi;subst hi;rw[bh];rfl
   |i+2,hi=>simp at hi
 rename_i fs inf hT pU;split at hr
 case h_2=>cases hr
 rename_i zs hz;cases hc:(iu (ps.toList.map (·.1))&&ps.toList.all (λp=>Nat.blt p.1 fs.size))<;>simp only[hc,zyy,zyx] at hr
 .cases hr
 simp only[av] at hc;obtain⟨bz,ao⟩:=hc;simp only[aD] at hr;obtain⟨q,hq,rfl⟩:=hr;have Lu:=akN _ _ _ _ hq;have kL:=nL bz;obtain⟨_,rfl,bE,arc,Rc⟩:=akM _ _ _ _ hq;obtain⟨pl,dB,aGk,FN⟩:=adj _ _ Lu
 have kO:∀p,p∈(ps.toList.map λ(x:Nat×Operand)=>(x.1,a.eval x.2))->∃o,pl.toArray[p.1]?=some (o,p.2.cells.size)/\o+p.2.cells.size<=zs.size:=by
  intro p hp;obtain⟨x,hx,rfl⟩:=fq.1 hp;have ze:x.1<fs.toList.length:=by
   have:=bT.1 ao x hx;have h2:x.1<fs.size:=by simpa [jC] using this
   simpa using h2
  obtain⟨f,hf⟩:∃f,fs.toList[x.1]?=some f:=⟨_,bL ze⟩
  obtain⟨ig,gN,_,_⟩:=Lu.get _ _ hf;have Ft:=aa4 kL (i:=x.1) (x:=x.2) hx;obtain⟨y,ft,hy,aJ⟩:=arc x.1 (x.1,x.2) f ig hf gN (by simpa using Ft);have wH:=(agt h hC hg hy).1;rw[aJ] at wH;simp only;refine⟨f.offset,?_,?_⟩
  .rw[wH];simpa using FN x.1 f ig hf gN
  .rw[wH];simpa using bE x.1 f ig hf gN
 have B6:∀(i j oi si oj sj:Nat),i≠j->pl.toArray[i]?=some (oi,si)->pl.toArray[j]?=some (oj,sj)->oi+si<=oj\/oj+sj<=oi:=by
  intro i j oi si oj sj aF hi hj;simp only[Is] at hi hj;obtain⟨f,hf⟩:∃f,fs.toList[i]?=some f:=⟨_,bL (by have:=(fo.1 hi).1;omega)⟩
  obtain⟨g,Ca⟩:∃g,fs.toList[j]?=some g:=⟨_,bL (by have:=(fo.1 hj).1;omega)⟩
  obtain⟨ig,gN,_,ap6⟩:=Lu.get _ _ hf;obtain⟨jg,hjg,_,ap7⟩:=Lu.get _ _ Ca;rw[FN i f ig hf gN] at hi;rw[FN j g jg Ca hjg] at hj;cases hi;cases hj;rcases OJ i j with ao|fV
  .exact .inl (ap6 j g ao Ca)
  .exact .inr (ap7 i f (by omega) hf)
 obtain⟨dy,f1,f2,f3,f4⟩:=Qz (pl.toArray[·]?) (ps.toList.map λ(x:Nat×Operand)=>(x.1,a.eval x.2)) zs kO B6 (by simpa [Il] using kL)
 have QZ:C.P.built T (ps.toList.map λ(x:Nat×Operand)=>(x.1,a.eval x.2))=some dy:=by
  simp only[Program.built,pU,hT,hz,dB];exact f1
 have ar:(execOp a.eval o).run C.P w=.ok (.value (.agg dy)) w:=by
  have:=run_build (P:=C.P) w T (ps.map λ(x:Nat×Operand)=>(x.1,a.eval x.2)) dy (by rw[xJ];exact QZ);simp[execOp,ho,this]
 have sO:∀(m:Nat) (f:Field) (ig:TypeInfo),fs.toList[m]?=some f->C.P.info? f.type=some ig->
  (∀x,ps.toList.find? (λp=>Nat.beq p.1 (0+m))=some x->∀q,q<ig.size->dy[f.offset+q]?=(a.eval x.2).cells[q]?)/\
  (ps.toList.find? (λp=>Nat.beq p.1 (0+m))=none->∀q,q<ig.size->dy[f.offset+q]?=zs.toList[f.offset+q]?):=by
  intro m f ig hm gN;refine⟨λx hx p hp=>?_,λhx p hp=>?_⟩
  .have oM:x.1=m:=by have:=OA hx;simpa using this
   have Cn:(x.1,a.eval x.2)∈(ps.toList.map λ(x:Nat×Operand)=>(x.1,a.eval x.2)):=fq.2 ⟨x,vN hx,rfl⟩;obtain⟨o',eT,hle⟩:=kO _ Cn;simp only at eT hle;have acy:=FN m f ig hm gN;simp only[Is,oM] at eT;rw[acy] at eT;simp only[aZ,py] at eT;obtain⟨e1,e2⟩:=eT;exact f3 x.1 (a.eval x.2) f.offset Cn (by simp[oM,acy,<-e2]) p (by omega)
  .have yX:m∉(ps.toList.map λ(x:Nat×Operand)=>(x.1,a.eval x.2)).map (·.1):=by
        intro cO;simp only[OD,fq,Il] at cO;obtain⟨x,Cn,e⟩:=cO;have:=xP.1 hx x Cn;simp[e] at this
   rw[f4 m f.offset ig.size yX (by simpa using FN m f ig hm gN) p hp];simp
 obtain⟨l1,aU⟩:=akO h hC hg dy _ _ _ _ hq sO;have B3:dy=dy.toList.toArray:=by simp
 have hlen:dy.toList.length=q.1.length:=by simp[f2] at Rc ⊢;omega
 have jF:∀(i:Nat) (c:AgC),q.1[i]?=some c->oe C S V hv c (dy.toList.getD i undef) ((PE.evc O q.2).getD i .none):=λi c hi=>by
  have:=aU i c hi;simpa [eG,aL] using this
 cases Q6:q.1.all ac4
 .simp only[zyx];exact λO' p5=>⟨_,_,vx p5,ar,⟨dy.toList,PE.evc O q.2,by rw[<-B3],by simp only[PE.ev],hlen,l1,jF⟩,λ_ _ e=>by cases e⟩
 .simp only[zyy];refine .dat ar ?_;simp only[PE.ev];rw[B3]
  have rh:∀(i:Nat) (t:Ty),(q.1.map AgC.ty)[i]?=some t->t.one=true/\Rep C.cap V t (dy.toList.getD i undef) ((PE.evc O q.2).getD i .none):=λi t hi=>by
   simp only[cM,aD] at hi;obtain⟨c,hc,rfl⟩:=hi;have h1:=jF i c hc;have h2:=bT.1 Q6 c (mw hc);cases c with
   |dat t=>exact h1
   |obj j ver=>cases h2
  exact .agg _ _ _ (by rw[fp];exact hlen) (by rw[fp];exact l1) (λi t hi=>(rh i t hi).2) (λi t hi=>(rh i t hi).1)
end
end Cx
