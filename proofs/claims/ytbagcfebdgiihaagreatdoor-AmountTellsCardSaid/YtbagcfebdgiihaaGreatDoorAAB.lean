import Derived.Test.YtbagcfebdgiihaaGreatDoorAAA
import Derived.ChangeKeysEq
import Derived.Laws.Tables
set_option linter.all false
namespace Cx
open Go Go.RowKit
def Rep.int_inv {cap:Nat->Option CSig}{H:Im}{k:IntKind}{v:Value}{d:D}(h:Rep cap H (.int k) v d):∃n,v=.int k n/\d=.v (.int k n)/\k.min<=n/\n<=k.max:=by
 cases h with
 |int k n h1 h2=>exact⟨n,rfl,rfl,h1,h2⟩
def Rep.bool_inv {cap:Nat->Option CSig}{H:Im}{v:Value}{d:D}(h:Rep cap H .bool v d):∃b,v=.bool b/\d=.v (.bool b):=by
 cases h with
 |bool b=>exact⟨b,rfl,rfl⟩
def Rep.str_inv {cap:Nat->Option CSig}{H:Im}{v:Value}{d:D}(h:Rep cap H .str v d):∃s,v=.string s/\d=.v (.string s)/\s.size<=maxLen:=by
 cases h with
 |str s h=>exact⟨s,rfl,rfl,h⟩
def Rep.slice_inv {cap:Nat->Option CSig}{H:Im}{e:Ty}{v:Value}{d:D}(h:Rep cap H (.slice e) v d):∃xs,d=.list xs/\
 (((∃p,v=.slice p 0 0)/\xs=[])\/∃k o c,v=.slice (some ⟨k,o,none⟩) xs.length c/\xs.length<=c/\c<=maxLen/\
   ∃vs:Nat->Value,(∀(i:Nat) (x:D),xs[i]?=some x->Rep cap H e.unf (vs i) x)/\∀(i j:Nat) (u:Value),i<xs.length->(vs i).cells[j]?=some u->H.c k (o+i*e.size+j)=some u):=by
 cases h with
 |nil e=>exact⟨[],rfl,.inl ⟨⟨_,rfl⟩,rfl⟩⟩
 |emp e a=>exact⟨[],rfl,.inl ⟨⟨_,rfl⟩,rfl⟩⟩
 |slice e k o n c xs vs hn hc hm h hv=>subst hn;exact⟨xs,rfl,.inr ⟨k,o,c,rfl,hc,hm,vs,h,hv⟩⟩
def Rep.ref_inv {cap:Nat->Option CSig}{H:Im}{t:Ty}{v:Value}{d:D}(h:Rep cap H (.ref t) v d):∃k o x y,v=.pointer (some ⟨k,o,none⟩)/\d=.ref y/\Rep cap H t x y/\∀(j:Nat) (u:Value),x.cells[j]?=some u->H.c k (o+j)=some u:=by
 cases h with
 |ref t k o x y h hv=>exact⟨k,o,x,y,rfl,rfl,h,hv⟩
def Rep.agg_inv {cap:Nat->Option CSig}{H:Im}{ts:List Ty}{v:Value}{d:D}(h:Rep cap H (.agg ts) v d):∃(vs:List Value) (ds:List D),v=.agg vs.toArray/\d=.agg ds/\vs.length=ts.length/\ds.length=ts.length/\
 (∀(i:Nat) (t:Ty),ts[i]?=some t->Rep cap H t (vs.getD i undef) (ds.getD i .none))/\∀(i:Nat) (t:Ty),ts[i]?=some t->t.one=true:=by
 cases h with
 |agg ts vs ds h1 h2 h ho=>exact⟨vs,ds,rfl,rfl,h1,h2,h,ho⟩
def Rep.tup_inv {cap:Nat->Option CSig}{H:Im}{ts:List Ty}{v:Value}{d:D}(h:Rep cap H (.tup ts) v d):∃(vs:List Value) (ds:List D),v=.tuple vs.toArray/\d=.tup ds/\vs.length=ts.length/\ds.length=ts.length/\
 (∀(i:Nat) (t:Ty),ts[i]?=some t->Rep cap H t (vs.getD i undef) (ds.getD i .none)):=by
 cases h with
 |tup ts vs ds h1 h2 h=>exact⟨vs,ds,rfl,rfl,h1,h2,h⟩
def tN (k:IntKind)(n:Int):k.min<=k.wrap n/\k.wrap n<=k.max:=by
 cases k<;>simp only[IntKind.min,IntKind.max,IntKind.wrap,IntKind.signed,IntKind.bits]<;>simp<;>(try split)<;>omega
def anM (k:IntKind){a b:Int}(ha:k.min<=a/\a<=k.max):k.min<=a.tmod b/\a.tmod b<=k.max:=by
 have h1:k.min<=0:=by cases k<;>decide
 have h2:0<=k.max:=by cases k<;>decide
 have hn:(a.tmod b).natAbs<=a.natAbs:=by rw[Int.natAbs_tmod];exact Nat.mod_le _ _
 rcases Int.le_total 0 a with h|h
 .have:=Int.tmod_nonneg b h;omega
 .have:a.tmod b<=0:=by
   have:=Int.tmod_nonneg b (a:=-a) (by omega);rw[Int.neg_tmod] at this;omega
  omega
def afK (k:IntKind){a:Int}(n:Nat)(ha:k.min<=a/\a<=k.max):k.min<=a.fdiv (2^n)/\a.fdiv (2^n)<=k.max:=by
 have h1:k.min<=0:=by cases k<;>decide
 have h2:0<=k.max:=by cases k<;>decide
 have hp:(0:Int)<2^n:=Int.pow_pos (by decide);rw[ad4 _ (by omega)];rcases Int.le_total 0 a with h|h
 .have h3:=Rq h (by omega:(0:Int)<=2^n);have h4:=Int.ediv_le_self (b:=2^n) h;omega
 .have h3:a/2^n<=0:=by
   have:=Int.ediv_le_ediv hp h;simpa using this
  have h4:a<=a/2^n:=by
   rw[Int.le_ediv_iff_mul_le hp];have:a*2^n<=a*1:=Int.mul_le_mul_of_nonpos_left h (by omega);omega
  omega
section
variable {C:Ctx} {S:St} {Z:Env} {H:Im} {own:Nat->Option Nat} {hv:Nat->Value} {w0:World} {σ0:Base} {A:Nat->Prop} {a:Act} {w:World} {gs:List (Nat×Bool)} {V:bf} {dst:Nat}
def AO {e:PE}{Z':Env}(h:PI.runs V [.setR dst e] Z=some Z'):Z'=Z.setR dst (e.ev Z):=by
 simp[PI.runs,PI.run] at h;exact h.symm
def ZR (hg:holds gs Z=true){c e:PE}{Z':Env}(h:PI.runs V [sl gs c,.setR dst e] Z=some Z'):(c.ev Z).b=true/\Z'=Z.setR dst (e.ev Z):=by
 simp only[PI.runs,PI.run,sl] at h;cases eT:gs with
 |nil=>
  subst eT;simp only at h;cases hb:(c.ev Z).b<;>simp[hb] at h;exact⟨rfl,h.symm⟩
 |cons g r=>
  rw[eT] at h;simp only at h;rw[eT] at hg;cases hb:(c.ev Z).b
  .simp[PE.ev,hg,hb,D.b_bool] at h
  .simp[PE.ev,hg,hb,D.b_bool] at h;exact⟨rfl,h.symm⟩
def ff (C:Ctx)(S:St)(Z:Env)(H:Im)(hv:Nat->Value)(V:bf)(dst:Nat)(a:Act)(w:World)(o:Oper)(r:Sh×List PI):Prop:=
 ∀Z',PI.runs V r.2 Z=some Z'->∃v d,Z'=Z.setR dst d/\(execOp a.eval o).run C.P w=.ok (.value v) w/\ba C S Z H hv r.1 v d/\∀gs s,r.1≠.opt gs s
def ff.dat {o:Oper}{t:Ty}{e:PE}{v:Value}(hx:(execOp a.eval o).run C.P w=.ok (.value v) w)(hr:Rep C.cap H t v (e.ev Z)):
 ff C S Z H hv V dst a w o (.dat t,[.setR dst e]):=by
 intro Z' h;exact⟨v,e.ev Z,AO h,hx,hr,λ_ _ e=>by cases e⟩
def ff.datc (hg:holds gs Z=true){o:Oper}{t:Ty}{c e:PE}(hx:(c.ev Z).b=true->∃v,(execOp a.eval o).run C.P w=.ok (.value v) w/\Rep C.cap H t v (e.ev Z)):
 ff C S Z H hv V dst a w o (.dat t,[sl gs c,.setR dst e]):=by
 intro Z' h;obtain⟨hb,he⟩:=ZR hg h;obtain⟨v,h1,h2⟩:=hx hb;exact⟨v,e.ev Z,he,h1,h2,λ_ _ e=>by cases e⟩
def alo (h:Inv C S Z H own hv w0 σ0 A a w)(hC:CtxOK C σ0)(hg:holds gs Z=true){x:Operand}{r:Sh×List PI}(hr:Au C S gs dst x=some r){o:Oper}(ho:o.op=.move x\/o.op=.assign x):
 ff C S Z H hv V dst a w o r:=by
 have hx:(execOp a.eval o).run C.P w=.ok (.value (a.eval x)) w:=by rcases ho with ho|ho<;>simp[execOp,ho,Sem.run,pure]
 unfold Au at hr;split at hr
 .rename_i y hy;cases hr;exact .dat hx (cM h hC hg hy)
 .split at hr
  .rename_i t _;obtain⟨hs,hn⟩:=vG h hg t;split at hr
   .cases hr
   .cases hr
   .cases hr;intro Z' h';exact⟨_,_,AO h',hx,hs,hn⟩
  .cases hr
def az7 (h:Inv C S Z H own hv w0 σ0 A a w)(hC:CtxOK C σ0)(hg:holds gs Z=true){c x y:Operand}{r:Sh×List PI}(hr:Xt C S gs dst c x y=some r){o:Oper}(ho:o.op=.pick c x y):
 ff C S Z H hv V dst a w o r:=by
 unfold Xt at hr;split at hr
 .rename_i t;split at hr
  .rename_i es;obtain⟨hs,_⟩:=vG h hg t;rw[es] at hs;obtain⟨b,bD,bB⟩:=Rep.bool_inv hs;simp only[aJ] at hr;obtain⟨q1,h1,q2,h2,hr⟩:=hr;cases hb:Ty.beq q1.1 q2.1<;>simp only[hb,zyv,zyu] at hr
   .cases hr
   .cases hr;have e2:=Ty.beq_eq _ _ hb;have az:(execOp a.eval o).run C.P w=.ok (.value (if b then a.eval x else a.eval y)) w:=by
     have:a.eval (.tmp t)=.bool b:=bD;simp[execOp,ho,this,asBool,Sem.run,pure,bind,Sem.bind]
    refine .dat az ?_;show Rep C.cap H q1.1 _ (bif (Z.r t).b then q1.2.ev Z else q2.2.ev Z);have eh:(Z.r t).b=b:=by rw[bB];rfl
    cases b with
    |true=>
     simp only[eh,zyv,if_true];exact cM h hC (by simp only[holds,vO,eh];exact hg) h1
    |false=>
     simp only[eh,zyu];rw[e2];exact cM h hC (by simp only[holds,vO,eh];exact hg) h2
  .cases hr
 .cases hr
def Qy {op:BinOp}{T T':TypeId}{x y:Operand}{v v':Value}{o:Oper}(ho:o.op=.binOp op T x y T')(hv:a.eval x=v)(hv':a.eval y=v')(h1:∀u,v≠.agg u)(h2:v≠.nilIface):
 (execOp a.eval o).run C.P w=((binOp op T v v').bind λr=>.pure (.value r)).run C.P w:=by
 have he:eqGuard op T x y v v'=.pure ():=by
  cases v<;>first|(exact absurd rfl h2)|(exact absurd rfl (h1 _))|(cases op<;>simp[eqGuard]<;>rfl)
 simp only[execOp,ho,hv,hv',he];rfl
def arO {P:Program}{cap:Nat->Option CSig}{H:Im}{Z:Env}{x y:PE}{X Y:List D}(w:World)(hx:x.ev Z=.agg X)(hy:y.ev Z=.agg Y){vs us:List Value}(d:Nat):
 ∀(fs:List Field) (i:Nat) (ts:List Ty) (e:PE),zh P x y fs i ts=some e->(∀j t,ts[j]?=some t->Rep cap H t (vs.getD (i+j) undef) (X.getD (i+j) .none)/\Rep cap H t (us.getD (i+j) undef) (Y.getD (i+j) .none))->
  i+ts.length<=vs.length->i+ts.length<=us.length->
  ∃b,e.ev Z=.v (.bool b)/\(Op.eqFields (d+1) vs.toArray us.toArray fs).run P w=.ok b w:=by
 intro fs
 induction fs with
 |nil=>
  intro i ts e h _ _ _;cases ts with
  |nil=>simp only[zh,bx] at h;subst h;exact⟨true,rfl,rfl⟩
  |cons t ts=>simp[zh] at h
 |cons f fs ih=>
  intro i ts e h hr l1 l2;cases ts with
  |nil=>simp[zh] at h
  |cons t ts=>
   simp only[zh] at h;cases hc:((f.name != "_")&&Nat.beq f.offset i&&rk P f.type t&&P.plainKey f.type)<;>simp only[hc,zyv,zyu] at h
   .cases h
   simp only[aA,bne_iff_ne,ne_eq] at hc;obtain⟨⟨⟨hn,ho⟩,hk⟩,hp⟩:=hc;have ho:=aK ho;simp only[aJ,aT] at h;obtain⟨e1,qX,r,xb,rfl⟩:=h
   obtain⟨b2,eI,av3⟩:=ih (i+1) ts r xb (λj t hj=>by
        have:=hr (j+1) t (by simpa using hj)
        rwa [show i+(j+1)=i+1+j by omega] at this) (by simp at l1;omega) (by simp at l2;omega)
   obtain⟨g1,g2⟩:=hr 0 t rfl;rw[qE] at g1 g2;simp only[nM] at l1 l2;have Dp:vs.toArray[f.offset]?=some (vs.getD i undef):=by rw[ho];simp[bn,show i<vs.length by omega]
   have hui:us.toArray[f.offset]?=some (us.getD i undef):=by rw[ho];simp[bn,show i<us.length by omega]
   have p1:=run_part_plain (P:=P) (w:=w) hp Dp;have p2:=run_part_plain (P:=P) (w:=w) hp hui;have ex:(PE.cell x i).ev Z=X.getD i .none:=by simp only[PE.ev,hx];rfl
   have ey:(PE.cell y i).ev Z=Y.getD i .none:=by simp only[PE.ev,hy];rfl
   have main:∃b1,e1.ev Z=.v (.bool b1)/\(Op.equalIn (d+1) f.type (vs.getD i undef) (us.getD i undef)).run P w=.ok b1 w:=by
        cases t with
        |int k=>
         obtain⟨n,v1,d1,_⟩:=g1.int_inv;obtain⟨m,v2,d2,_⟩:=g2.int_inv;simp only[F2,bx] at qX;subst qX;have hu:∃k',P.underlying f.type=some (.int k'):=by
          simp only[rk] at hk;split at hk
          .exact⟨_,by assumption⟩
          .cases hk
         obtain⟨k',hu⟩:=hu;exact⟨n==m,by simp only[PE.ev,hx,hy];show D.v (.bool (jm .eql (X.getD i .none).i (Y.getD i .none).i))=_;rw[d1,d2];rfl,by rw[v1,v2];exact run_equalIn_int w d f.type k k' n m hu⟩
        |bool=>
         obtain⟨n,v1,d1⟩:=g1.bool_inv;obtain⟨m,v2,d2⟩:=g2.bool_inv;simp only[F2,bx] at qX;subst qX;have hu:P.underlying f.type=some .bool:=by
          simp only[rk] at hk;split at hk
          .assumption
          .cases hk
         exact⟨n==m,by simp only[PE.ev,hx,hy];show D.v (.bool (zb .eql (X.getD i .none).b (Y.getD i .none).b))=_;rw[d1,d2];rfl,by rw[v1,v2];exact run_equalIn_bool' w d f.type n m hu⟩
        |str=>
         obtain⟨n,v1,d1,_⟩:=g1.str_inv;obtain⟨m,v2,d2,_⟩:=g2.str_inv;simp only[F2,bx] at qX;subst qX;have hu:P.underlying f.type=some .string:=by
          simp only[rk] at hk;split at hk
          .assumption
          .cases hk
         exact⟨n.toList==m.toList,by simp only[PE.ev,hx,hy];show D.v (.bool (zc .eql (X.getD i .none).s (Y.getD i .none).s))=_;rw[d1,d2];rfl,by rw[v1,v2];exact run_equalIn_string w d f.type n m hu⟩
        |_=>simp[F2] at qX
   obtain⟨b1,iQ,xd⟩:=main;refine⟨b1&&b2,by simp only[PE.ev,iQ,eI];rfl,?_⟩;simp only[Op.eqFields,if_pos hn,Sem.run_bind,p1,p2,xd,Result.andThen_ok];cases b1
   .rfl
   .simpa using av3
def azU (h:Inv C S Z H own hv w0 σ0 A a w)(hC:CtxOK C σ0)(hg:holds gs Z=true){op:BinOp}{T T':TypeId}{x y:Operand}{r:Sh×List PI}(hr:Xh C S gs dst op T x y=some r){o:Oper}(ho:o.op=.binOp op T x y T'):
 ff C S Z H hv V dst a w o r:=by
 simp only[Xh,aJ] at hr;obtain⟨p,hp,q,hq,hr⟩:=hr;have bm:=cM h hC hg hp;have dX:=cM h hC hg hq;split at hr
 .rename_i k k' e1 e2;rw[e1] at bm;rw[e2] at dX;obtain⟨n,bD,bB,b1,b2⟩:=bm.int_inv;obtain⟨m,iw,dD,b3,b4⟩:=dX.int_inv;have az:=Qy (C:=C) (w:=w) ho bD iw (by intro u e;cases e) (by intro e;cases e);cases Dm:(op==.shl||op==.shr)<;>simp only[Dm,zyv,zyu] at hr
  .cases wR:(k==k')<;>simp only[wR,zyv,zyu] at hr
   .cases hr
   .have US:k=k':=by simpa using wR
    subst US;cases zP:(op==.quo||op==.rem)<;>simp only[zP,zyv,zyu] at hr
    .cases wK:Ka op<;>simp only[wK,zyv,zyu] at hr
     .cases kJ:CD op<;>simp only[kJ,zyv,zyu] at hr
      .cases hr
      .cases hr;refine .dat (v:=.bool (jm op n m)) ?_ ?_
       .rw[az];cases op<;>simp_all [CD]<;>simp[binOp,Op.intCmp,jm,Sem.run,pure,Sem.bind]
       .simp only[PE.ev,bB,dD,D.i_int];exact .bool _
     .cases hr;refine .dat (v:=.int k (bO op k n m)) ?_ ?_
      .rw[az];cases op<;>simp_all [Ka]<;>simp[binOp,Op.intArith,Op.intBits,bO,Sem.run,pure,Sem.bind]
      .simp only[PE.ev,bB,dD,D.i_int];refine .int _ _ ?_ ?_<;>(cases op<;>simp_all [Ka]<;>first|exact(tN _ _).1|exact(tN _ _).2)
    .cases hr;refine .datc hg λhc=>⟨.int k (bO op k n m),?_,?_⟩
     .have aI:m≠0:=by simpa [PE.ev,dD,D.i_int,D.b_bool,jm,D.int] using hc
      rw[az];rcases(by simpa using zP:op=.quo\/op=.rem) with rfl|rfl<;>simp[binOp,Op.intDiv,bO,Sem.run,pure,Sem.bind,aI]
     .simp only[PE.ev,bB,dD,D.i_int];cases op<;>simp_all
      .exact .int _ _ (tN _ _).1 (tN _ _).2
      .exact .int _ _ (anM k ⟨b1,b2⟩).1 (anM k ⟨b1,b2⟩).2
  .cases hr;refine .datc hg λhc=>⟨.int k (bO op k n m),?_,?_⟩
   .have aI:¬m<0:=by
     have:0<=m:=by simpa [PE.ev,dD,D.i_int,D.b_bool,jm,D.int] using hc
     omega
    rw[az];rcases(by simpa using Dm:op=.shl\/op=.shr) with rfl|rfl<;>simp[binOp,Op.shift,bO,Sem.run,pure,Sem.bind,aI]
   .simp only[PE.ev,bB,dD,D.i_int];cases op<;>simp_all
    .exact .int _ _ (tN _ _).1 (tN _ _).2
    .exact .int _ _ (afK k _ ⟨b1,b2⟩).1 (afK k _ ⟨b1,b2⟩).2
 .rename_i e1 e2;rw[e1] at bm;rw[e2] at dX;obtain⟨n,bD,bB⟩:=bm.bool_inv;obtain⟨m,iw,dD⟩:=dX.bool_inv;have az:=Qy (C:=C) (w:=w) ho bD iw (by intro u e;cases e) (by intro e;cases e);cases dB:((op==.eql||op==.neq)&&VL C.P T)<;>simp only[dB,zyv,zyu] at hr
  .cases hr
  .cases hr;simp only[aA] at dB;obtain⟨dB,hT⟩:=dB;have CU:C.P.underlying T=some .bool:=by
        unfold VL at hT;split at hT
        .assumption
        .cases hT
   have heq:(Op.equal T (.bool n) (.bool m)).run C.P w=.ok (n==m) w:=by
        have:∀d,(Op.equalIn (d+1) T (.bool n) (.bool m)).run C.P w=.ok (n==m) w:=λd=>by simp[Op.equalIn,run_underlying CU]
        exact this 9999
   refine .dat (v:=.bool (zb op n m)) ?_ ?_
   .rw[az];rcases(by simpa using dB:op=.eql\/op=.neq) with rfl|rfl<;>simp[binOp,zb,heq,Sem.run_bind']
   .simp only[PE.ev,bB,dD,D.b_bool];exact .bool _
 .rename_i e1 e2;rw[e1] at bm;rw[e2] at dX;obtain⟨n,bD,bB,_⟩:=bm.str_inv;obtain⟨m,iw,dD,_⟩:=dX.str_inv;have az:=Qy (C:=C) (w:=w) ho bD iw (by intro u e;cases e) (by intro e;cases e);cases dB:CD op<;>simp only[dB,zyv,zyu] at hr
  .cases hr
  .cases hr;refine .dat (v:=.bool (zc op n m)) ?_ ?_
   .rw[az];cases op<;>simp_all [CD]<;>simp[binOp,Op.stringOp,zc,Sem.run,pure,Sem.bind]
   .simp only[PE.ev,bB,dD,D.s_str];exact .bool _
 .rename_i e e' e1 e2;rw[e1] at bm;rw[e2] at dX;split at hr
  case h_2=>cases hr
  rename_i E hT;cases dB:(op==.eql||op==.neq)<;>simp only[dB,zyv,zyu] at hr
  .cases hr
  cases hr;obtain⟨n,xs,bD,bB,avx⟩:∃(n:Bool) (xs:List D),(n=true/\a.eval x=.slice none 0 0\/n=false/\∃k o m c,a.eval x=.slice (some ⟨k,o,none⟩) m c)/\p.2.ev Z=.list xs/\n=decide (xs=[]):=by
   generalize a.eval x=vv at bm;generalize p.2.ev Z=dd at bm;cases bm with
   |nsl0=>exact⟨true,[],.inl ⟨rfl,rfl⟩,rfl,rfl⟩
   |nsl _ k o m c xs h hx=>exact⟨false,xs,.inr ⟨rfl,k,o,m,c,rfl⟩,rfl,by simp[hx]⟩
  have iw:a.eval y=.slice none 0 0:=by
   generalize a.eval y=vv at dX;generalize q.2.ev Z=dd at dX;cases dX;rfl
  have heq:(Op.equal T (a.eval x) (a.eval y)).run C.P w=.ok n w:=by
   have:∀d,(Op.equalIn (d+1) T (a.eval x) (a.eval y)).run C.P w=.ok n w:=λd=>by
        rw[iw];rcases bD with⟨rfl,h1⟩|⟨rfl,k,o,m,c,h1⟩<;>rw[h1]<;>simp[Op.equalIn,run_underlying hT]
   exact this 9999
  have az:=Qy (C:=C) (w:=w) ho rfl rfl (by
   intro u e;rcases bD with⟨_,h1⟩|⟨_,k,o,m,c,h1⟩<;>rw[h1] at e<;>cases e) (by
   intro e;rcases bD with⟨_,h1⟩|⟨_,k,o,m,c,h1⟩<;>rw[h1] at e<;>cases e)
  refine .dat (v:=.bool (jm op xs.length 0)) ?_ ?_
  .have aI:∀(y:D) (ys:List D),¬((ys.length:Int)+1=0):=λy ys=>by omega
   rw[az,iw];rw[iw] at heq;rcases bD with⟨_,h1⟩|⟨_,k,o,m,c,h1⟩<;>rw[h1] at heq ⊢<;>rcases(by simpa using dB:op=.eql\/op=.neq) with rfl|rfl<;>cases xs<;>simp[binOp,heq,Sem.run_bind',jm,avx]<;>(try omega)
  .simp only[PE.ev,bB,D.l_list,D.int,D.i_int];exact .bool _
 .rename_i ts us e1 e2;rw[e1] at bm;rw[e2] at dX;cases dB:((op==.eql||op==.neq)&&Ty.beqs ts us&&TN C.P T)<;>simp only[dB,zyv,zyu] at hr
  .cases hr
  simp only[aA] at dB;obtain⟨⟨dB,N1⟩,dw⟩:=dB;have:=Ty.beqs_eq _ _ N1;subst this;simp only[TN,aA,lY] at dw;obtain⟨⟨ahn,awk⟩,awl⟩:=dw;have C3:C.P.underlying T=some (.struct (C.P.fieldsOf T)):=by
   unfold Program.fieldsOf;split at ahn
   .rename_i fs hu;rw[hu]
   .cases ahn
  simp only[aT] at hr;obtain⟨e,he,rfl⟩:=hr;obtain⟨vs,ds,bD,bB,l1,l2,bj,_⟩:=bm.agg_inv;obtain⟨Re,cO,iw,dD,l3,l4,CV,_⟩:=dX.agg_inv
  obtain⟨b,hb,az⟩:=arO (P:=C.P) (cap:=C.cap) (H:=H) (Z:=Z) w bB dD (vs:=vs) (us:=Re) 9998 _ 0 ts e he (λj t hj=>by
   rw[jh];exact⟨bj j t hj,CV j t hj⟩) (by omega) (by omega)
  have heq:(Op.equalIn 10000 T (.agg vs.toArray) (.agg Re.toArray)).run C.P w=.ok b w:=by
   rw[run_equalIn_struct w 9999 T _ _ C3 awk];exact az
  have oF:=run_eqGuard_agg (P:=C.P) (w:=w) op T x y vs.toArray Re.toArray awl
  have agv:(execOp a.eval o).run C.P w=((binOp op T (.agg vs.toArray) (.agg Re.toArray)).run C.P w).andThen λr w'=>.ok (.value r) w':=by
   simp only[execOp,ho,bD,iw,Sem.run_bind,oF,Result.andThen_ok];rfl
  rcases(by simpa using dB:op=.eql\/op=.neq) with rfl|rfl
  .refine .dat (v:=.bool b) ?_ ?_
   .rw[agv,run_eql_struct,heq];rfl
   .show Rep _ _ .bool _ (PE.ev Z e);rw[hb];exact .bool _
  .refine .dat (v:=.bool (!b)) ?_ ?_
   .rw[agv,run_neq_struct,heq];rfl
   .show Rep _ _ .bool _ (PE.ev Z (.nt e));simp only[PE.ev,hb];exact .bool _
 .cases hr
def aAa (h:Inv C S Z H own hv w0 σ0 A a w)(hC:CtxOK C σ0)(hg:holds gs Z=true){op:UnOp}{T:TypeId}{x:Operand}{r:Sh×List PI}(hr:Xv C S gs dst op x=some r){o:Oper}(ho:o.op=.unOp op T x):
 ff C S Z H hv V dst a w o r:=by
 simp only[Xv,aJ] at hr;obtain⟨p,hp,hr⟩:=hr;have bm:=cM h hC hg hp;split at hr
 .rename_i k e1;rw[e1] at bm;obtain⟨n,bD,bB,b1,b2⟩:=bm.int_inv;cases hr;refine .dat (v:=.int k (bO .sub k 0 n)) ?_ ?_
  .simp[execOp,ho,bD,Op.unary,Op.intArith,bO,Sem.run,pure,bind,Sem.bind]
  .simp only[PE.ev,bB,D.i_int];exact .int _ _ (tN _ _).1 (tN _ _).2
 .rename_i e1;rw[e1] at bm;obtain⟨n,bD,bB⟩:=bm.bool_inv;cases hr;refine .dat (v:=.bool (!n)) ?_ ?_
  .simp[execOp,ho,bD,Op.unary,Sem.run,pure,bind,Sem.bind]
  .simp only[PE.ev,bB,D.b_bool];exact .bool _
 .cases hr
def azW (h:Inv C S Z H own hv w0 σ0 A a w)(hC:CtxOK C σ0)(hg:holds gs Z=true){s d:TypeId}{x:Operand}{r:Sh×List PI}(hr:Xj C S gs dst s d x=some r){o:Oper}(ho:o.op=.convert s d x):
 ff C S Z H hv V dst a w o r:=by
 simp only[Xj,aJ] at hr;obtain⟨p,hp,hr⟩:=hr;have bm:=cM h hC hg hp;split at hr
 .rename_i k0 k k1 u1 u2 e1;rw[e1] at bm;obtain⟨n,bD,bB,b1,b2⟩:=bm.int_inv;cases hr;refine .dat (v:=.int k (k.wrap n)) ?_ ?_
  .simp[execOp,ho,bD,convert,run_underlying u1,run_underlying u2,Conv.intToInt]
  .simp only[PE.ev,bB,D.i_int];exact .int _ _ (tN _ _).1 (tN _ _).2
 .rename_i u1 u2 e1;rw[e1] at bm;obtain⟨n,bD,bB,b1⟩:=bm.str_inv;cases hr;refine .dat (v:=.string n) ?_ ?_
  .simp[execOp,ho,bD,convert,run_underlying u1,run_underlying u2]
  .rw[bB];exact .str _ b1
 .cases hr
end
def xx {n:Nat}(h:n<=maxLen):IntKind.i64.min<=(n:Int)/\(n:Int)<=IntKind.i64.max:=by
 simp only[maxLen] at h;simp only[IntKind.min,IntKind.max,IntKind.signed,IntKind.bits];simp;omega
section
variable {C:Ctx} {S:St} {Z:Env} {H:Im} {own:Nat->Option Nat} {hv:Nat->Value} {w0:World} {σ0:Base} {A:Nat->Prop} {a:Act} {w:World} {gs:List (Nat×Bool)} {V:bf} {dst:Nat}
def RO (C:Ctx)(H:Im)(w:World)(B:Nat)(t:Ty)(v:Value)(d:D):Prop:=
 Rep C.cap H t v d\/
 (∃T e cells xs,t=.slice e.rol/\d=.list xs/\w.ownsRow B T e.size v xs.length cells/\j4 C.cap H e cells xs)\/
 (∃k arr clock es kt et,t=.map kt et/\v=.map (some k)/\w.heap[k]?=some (.map arr clock)/\d=.map es/\es.length=arr.size/\es.length<=maxLen/\
    ∀(i:Nat) (e:MapEntry) (p:D×D),arr[i]?=some e->es[i]?=some p->Rep C.cap H kt e.key p.1/\Rep C.cap H et e.val p.2)
def adR (h:Inv C S Z H own hv w0 σ0 A a w)(hC:CtxOK C σ0)(hg:holds gs Z=true){x:Operand}{r:Ty×PE}(hu:view C S gs x=some r):RO C H w w0.heap.size r.1 (a.eval x) (r.2.ev Z):=by
 unfold view at hu;split at hu
 .rename_i r' zQ;cases hu;exact .inl (cM h hC hg zQ)
 .split at hu
  .rename_i t _;obtain⟨hs,_⟩:=vG h hg t;split at hu
   .rename_i j ver e;rw[e] at hs;cases hb:Nat.beq ver (S.ver j)<;>simp only[hb,zyv,zyu] at hu
    .cases hu
    .have gm:=aK hb;have ho:=h.objs j;have cV:a.eval (.tmp t)=hv j:=hs.2 gm;split at hu
     .rename_i T e eo;rw[eo] at ho;cases hu;obtain⟨cells,xs,h1,h2,h3,h4⟩:=ho;rw[cV];exact .inr (.inl ⟨T,e,cells,xs,rfl,h1,h2,h3⟩)
     .rename_i kt et eo;rw[eo] at ho;cases hu;obtain⟨k,arr,clock,es,h1,h2,h3,h4,h5,⟨hx,_⟩,h6⟩:=ho;rw[cV];exact .inr (.inr ⟨k,arr,clock,es,kt,et,rfl,h1,h3,h4,h5,hx,h6⟩)
     .cases hu
   .cases hu
  .cases hu
def Ay {w:World}{B e size n:Nat}{v:Value}{cells:List Value}(h:w.ownsRow B e size v n cells):∃b c,v=.slice b n c/\n<=maxLen/\n<=c:=by
 rcases h.2 with⟨rfl,rfl⟩|⟨g,cap,cur,rfl,h1,h2,h3,h4,h5⟩
 .exact⟨none,0,rfl,by decide,bL _⟩
 .exact⟨_,cap,rfl,jf h3 h4,h3⟩
def ZP {b:Builtin}{args:Array Operand}{ts:Array TypeId}{o:Oper}(ho:o.op=.call {callee:=.builtin b,args:=args,argTypes:=ts}):
 ∃cs,(execOp a.eval o).run C.P w=(builtin b ts o.type cs (args.map a.eval)).run C.P w:=
 ⟨_,by simp only[execOp,ho,resolve,invoke];rfl⟩
def az3 (h:Inv C S Z H own hv w0 σ0 A a w)(hC:CtxOK C σ0)(hg:holds gs Z=true){T:TypeId}{x:Operand}{r:Sh×List PI}(hr:Xq C S gs dst T x=some r){o:Oper}
 (ho:o.op=.call {callee:=.builtin .len,args:=#[x],argTypes:=#[T]}):ff C S Z H hv V dst a w o r:=by
 simp only[Xq,aJ] at hr;obtain⟨p,hp,hr⟩:=hr;have bm:=adR h hC hg hp;obtain⟨cs,az⟩:=ZP (C:=C) (w:=w) (a:=a) ho;split at hr
 .rename_i e T' e1 e2;rw[e1] at bm;cases hr;have hx:∃b n c xs,a.eval x=.slice b n c/\p.2.ev Z=.list xs/\xs.length=n/\n<=maxLen:=by
   rcases bm with bm|⟨T,e,cells,xs,ht,hd,dv,jv⟩|⟨k,arr,clock,es,kt,et,ht,_⟩
   .obtain⟨xs,hd,⟨⟨p0,bD⟩,rfl⟩|⟨k,o,c,bD,h1,h2,_⟩⟩:=bm.slice_inv
    .exact⟨p0,0,0,[],bD,hd,rfl,by decide⟩
    .exact⟨_,_,c,xs,bD,hd,rfl,by omega⟩
   .obtain⟨b,c,bD,h1,_⟩:=Ay dv;exact⟨b,_,c,xs,bD,hd,rfl,h1⟩
   .cases ht
  obtain⟨b,n,c,xs,bD,hd,hl,hm⟩:=hx;refine .dat (v:=.int .i64 n) ?_ ?_
  .rw[az];simp[builtin,Builtin.len_,bD,run_underlying e2,goInt]
  .simp only[PE.ev,hd,D.l_list,hl];exact .int _ _ (xx hm).1 (xx hm).2
 .rename_i e T' e1 e2;rw[e1] at bm;cases hr;rcases bm with bm|⟨T,e,cells,xs,ht,_⟩|⟨k,arr,clock,es,kt,et,ht,_⟩
  .generalize zV:a.eval x=v at bm;generalize zB:p.2.ev Z=d at bm;cases bm;refine .dat (v:=.int .i64 0) ?_ ?_
   .rw[az];simp[builtin,Builtin.len_,zV,run_underlying e2,goInt]
   .simp only[PE.ev,zB,D.l_list];exact .int _ _ (by decide) (by decide)
  .cases ht
  .cases ht
 .rename_i e1 e2;rw[e1] at bm;cases hr;rcases bm with bm|⟨T,e,cells,xs,ht,_⟩|⟨k,arr,clock,es,kt,et,ht,_⟩
  .obtain⟨n,bD,bB,hm⟩:=bm.str_inv;refine .dat (v:=.int .i64 n.size) ?_ ?_
   .rw[az];simp[builtin,Builtin.len_,bD,run_underlying e2,goInt]
   .simp only[PE.ev,bB,D.s_str];exact .int _ _ (xx hm).1 (xx hm).2
  .cases ht
  .cases ht
 .rename_i k0 e0 a0 b0 e1 e2;rw[e1] at bm;cases hr;rcases bm with bm|⟨T,e,cells,xs,ht,_⟩|⟨k,arr,clock,es,kt,et,ht,bD,hb,bB,hl,hx,_⟩
  .generalize zV:a.eval x=v at bm;generalize zB:p.2.ev Z=d at bm;cases bm with
   |mapnil=>
    refine .dat (v:=.int .i64 0) ?_ ?_
    .rw[az];simp[builtin,Builtin.len_,zV,run_underlying e2,goInt]
    .simp only[PE.ev,zB,D.m];exact .int _ _ (by decide) (by decide)
   |map kt et r j0 es hm hl hx hk _=>
    obtain⟨_,arr,clock,hb,mh⟩:=(h.ok.m _ _ hm).resolve_right (λe=>Hz hl hk e.1);have hn:arr.size=es.length:=by rw[hl,<-mh];simp[entriesOf]
    refine .dat (v:=.int .i64 arr.size) ?_ ?_
    .rw[az];simp[builtin,Builtin.len_,zV,run_underlying e2,goInt,getObj,Sem.run,hb]
    .simp only[PE.ev,zB,D.m,hn];exact .int _ _ (xx hx).1 (xx hx).2
  .cases ht
  .refine .dat (v:=.int .i64 arr.size) ?_ ?_
   .rw[az];simp[builtin,Builtin.len_,bD,run_underlying e2,goInt,getObj,Sem.run,hb]
   .simp only[PE.ev,bB,D.m,hl];exact .int _ _ (xx (hl▸hx)).1 (xx (hl▸hx)).2
 .cases hr
def aln (h:Inv C S Z H own hv w0 σ0 A a w)(hC:CtxOK C σ0)(hg:holds gs Z=true){mx:Bool}{x y:Operand}{ts:Array TypeId}{r:Sh×List PI}(hr:OX C S gs dst mx x y=some r){o:Oper}
 (ho:o.op=.call {callee:=.builtin (bif mx then .max else .min),args:=#[x,y],argTypes:=ts}):ff C S Z H hv V dst a w o r:=by
 simp only[OX,aJ] at hr;obtain⟨p,hp,q,hq,hr⟩:=hr;have bm:=cM h hC hg hp;have dX:=cM h hC hg hq;obtain⟨cs,az⟩:=ZP (C:=C) (w:=w) (a:=a) ho;split at hr
 .rename_i k k' e1 e2;rw[e1] at bm;rw[e2] at dX;obtain⟨n,bD,bB,b1,b2⟩:=bm.int_inv;obtain⟨m,iw,dD,b3,b4⟩:=dX.int_inv;cases wR:(k==k')<;>simp only[wR,zyv,zyu] at hr
  .cases hr
  .have US:k=k':=by simpa using wR
   subst US;cases hr;cases mx with
   |true=>
    refine .dat (v:=.int k (if m>n then m else n)) ?_ ?_
    .rw[az];simp[builtin,Builtin.max_,Builtin.max2,bD,iw]
    .simp only[zyv,PE.ev,bB,dD,D.i_int];by_cases aq:m>n<;>simp[aq]<;>constructor<;>assumption
   |false=>
    refine .dat (v:=.int k (if m<n then m else n)) ?_ ?_
    .rw[az];simp[builtin,Builtin.min_,Builtin.min2,bD,iw]
    .simp only[zyu,PE.ev,bB,dD,D.i_int];by_cases aq:m<n<;>simp[aq]<;>constructor<;>assumption
 .cases hr
def azX (h:Inv C S Z H own hv w0 σ0 A a w)(hC:CtxOK C σ0)(hg:holds gs Z=true){x:Operand}{i:Nat}{r:Sh×List PI}(hr:Xk C S gs dst x i=some r){o:Oper}(ho:o.op=.extract x i):
 ff C S Z H hv V dst a w o r:=by
 simp only[Xk,aJ] at hr;obtain⟨p,hp,hr⟩:=hr;have bm:=cM h hC hg hp;split at hr
 .rename_i ts e1;rw[e1] at bm;simp only[aT] at hr;obtain⟨t,ht,rfl⟩:=hr;obtain⟨vs,ds,bD,bB,l1,l2,bj⟩:=bm.tup_inv;have hi:i<vs.length:=by rw[l1];exact(jF.1 ht).1
  refine .dat (v:=vs.getD i undef) ?_ ?_
  .obtain⟨u,hu⟩:∃u,vs[i]?=some u:=⟨_,cd hi⟩
   have oF:vs.getD i undef=u:=by rw[bn,hu];rfl
   rw[oF];simp[execOp,ho,bD,Instr.extract,hu]
  .simp only[PE.ev,bB];exact bj i t ht
 .cases hr
end
def xo {P:Program}{T:TypeId}{ag:Bool}(h:rj P T=some ag)(w:World):(isAgg T).run P w=.ok ag w:=by
 unfold rj at h;split at h
 .rename_i fs hu;cases h;simp[isAgg,run_underlying hu]
 .rename_i n e hu;cases h;simp[isAgg,run_underlying hu]
 .rename_i d h1 h2 hu;cases h;cases d<;>simp_all [isAgg,run_underlying hu]
 .cases h
def v5 (k o n:Nat):(⟨k,o,none⟩:Addr).add n=⟨k,o+n,none⟩:=by
 unfold Addr.add;split<;>simp_all
def Qz {P:Program}{T:TypeId}{inf:TypeInfo}{ag:Bool}{w:World}{k o:Nat}{cs:List Value}(hi:P.info? T=some inf)(ha:rj P T=some ag)(hl:cs.length=inf.size)
 (h1:ag=false->cs.length=1) (hc:∀j u,cs[j]?=some u->w.cell? ⟨k,o+j,none⟩=some u):(loadVar T ⟨k,o,none⟩).run P w=.ok (rowOf ag cs) w:=by
 cases ag with
 |true=>
  have:=run_loadCells_list (P:=P) w ⟨k,o,none⟩ cs (λj v hv=>by rw[v5];exact hc j v hv);rw[hl] at this;simp[loadVar,xo ha,Go.sizeOf,run_typeInfo w hi,this,rowOf]
 |false=>
  obtain⟨u,hu⟩:∃u,cs=[u]:=by
   have:=h1 rfl
   match cs,this with
   |[u],_=>exact⟨u,rfl⟩
  subst hu;have h0:=hc 0 u rfl;simp only[qE] at h0;simp[loadVar,xo ha,rowOf,run_load,h0]
section
variable {C:Ctx} {S:St} {Z:Env} {H:Im} {own:Nat->Option Nat} {hv:Nat->Value} {w0:World} {σ0:Base} {A:Nat->Prop} {a:Act} {w:World} {gs:List (Nat×Bool)} {V:bf} {dst:Nat}
def ye {o:Oper}{T:TypeId}{x:Operand}{v:Value}{k off:Nat}(ho:o.op=.load T x)(hx:a.eval x=.pointer (some ⟨k,off,none⟩))(hl:(loadVar T ⟨k,off,none⟩).run C.P w=.ok v w):
 (execOp a.eval o).run C.P w=.ok (.value v) w:=by
 simp[execOp,ho,Instr.loadAt,hx,Instr.sureAddr,hl]
def uB {α:Type}{l:List α}{i:Nat}{x d:α}(h:l[i]?=some x):l.getD i d=x:=by
 rw[bn,h];rfl
def O1 {cap:Nat->Option CSig}{ts:List Ty}{vs:List Value}{ds:List D}{ag:Bool}{n off:Nat}{ty:Ty}(hp:xH ag n ts off=some ty)
 (h1:vs.length=ts.length) (h2:ds.length=ts.length) (hr:∀(i:Nat) (t:Ty),ts[i]?=some t->Rep cap H t (vs.getD i undef) (ds.getD i .none)) (ho:∀(i:Nat) (t:Ty),ts[i]?=some t->t.one=true):
 Rep cap H ty (rowOf ag ((vs.drop off).take n)) (bif ag then .agg ((ds.drop off).take n) else ds.getD off .none)/\((vs.drop off).take n).length=n/\(ag=false->n=1):=by
 unfold xH at hp;cases hle:Nat.ble (off+n) ts.length<;>simp only[hle,zyv,zyu] at hp
 .cases hp
 .have NJ:=mO hle;have hlen:((vs.drop off).take n).length=n:=by simp;omega
  cases ag with
  |true=>
   simp only[zyv] at hp;cases hp;refine⟨?_,hlen,λe=>by cases e⟩;simp only[rowOf,if_true,zyv];refine .agg _ _ _ (by simp;omega) (by simp;omega) (λi t hi=>?_) (λi t hi=>?_)
   .simp only[iL,je] at hi;split at hi
    .rename_i cj;have:=hr (off+i) t hi;simpa [bn,iL,je,cj] using this
    .cases hi
   .simp only[iL,je] at hi;split at hi
    .exact ho _ t hi
    .cases hi
  |false=>
   simp only[zyu] at hp;cases hn:Nat.beq n 1<;>simp only[hn,zyv,zyu] at hp
   .cases hp
   .have oL:=aK hn;subst oL;refine⟨?_,hlen,λ_=>rfl⟩;have:=hr off ty hp;have aq:off<vs.length:=by omega
    simpa [rowOf,bn,iL,je] using this
def O0 {ag:Bool}{n:Nat}{e:PE}{off:Nat}{ds:List D}(h:e.ev Z=.agg ds):(DQ ag n e off).ev Z=bif ag then .agg ((ds.drop off).take n) else ds.getD off .none:=by
 cases ag<;>simp[DQ,PE.ev,h,D.cells,D.c]
def Inv.cell (h:Inv C S Z H own hv w0 σ0 A a w){k o:Nat}{u:Value}(hc:H.c k o=some u):w.cell? ⟨k,o,none⟩=some u:=h.ok.c _ _ _ hc
def Rep.rowOf {cap:Nat->Option CSig}{t:Ty}{v:Value}{d:D}(h:Rep cap H t v d):v=Cx.rowOf t.rowT v.cells.toList:=by
 cases h<;>simp[Cx.rowOf,Ty.rowT,Value.cells]
def Rep.cells1 {cap:Nat->Option CSig}{t:Ty}{v:Value}{d:D}(h:Rep cap H t v d)(ht:t.rowT=false):v.cells=#[v]:=by
 cases h<;>simp_all [Ty.rowT,Value.cells]
def az4 (h:Inv C S Z H own hv w0 σ0 A a w){T:TypeId}{x:Operand}{inf:TypeInfo}{ag:Bool}(hi:C.P.info? T=some inf)(ha:rj C.P T=some ag){o:Oper}(ho:o.op=.load T x)
 {ty:Ty} {e:PE} (hr:Rep C.cap H (.ref ty) (a.eval x) (e.ev Z)) (hs:Nat.beq inf.size ty.size=true) (hag:(ag==ty.rowT)=true):
 ff C S Z H hv V dst a w o (.dat ty,[.setR dst (.deref e)]):=by
 obtain⟨k,off,v,y,bD,bB,cG,lE⟩:=hr.ref_inv;have ei:=aK hs;have age:ag=ty.rowT:=by simpa using hag
 have hz:=cG.size;have GX:=cG.rowOf;refine .dat (v:=v) (ye ho bD ?_) ?_
 .rw[GX,<-age];refine Qz hi ha (by simp[hz,ei]) (λe=>?_) (λj u hu=>?_)
  .subst e;simp[cG.cells1 age.symm]
  .exact h.cell (lE j u (by simpa using hu))
 .simp only[PE.ev,bB,D.deref];exact cG
def Ti {w:World}{k:Nat}{cs:Array Value}{T:TypeId}{fr:Nat×Nat}(hb:w.heap[k]?=some (.cells cs T fr)){i:Nat}(hi:i<cs.size):w.cell? ⟨k,i,none⟩=some (cs.getD i undef):=by
 simp[World.cell?,hb,iK,kB hi]
def CP (cs:Array Value)(i:Nat):cs.toList.getD i undef=cs.getD i undef:=by
 simp[bn,iK]
def apn {b:PE}{cs:Array Value}{ds:List D}(hd:b.ev Z=.agg ds):∀(aP:List Sh) (i:Nat) (l:List AgC),J8 S aP=some l->(∀m s,aP[m]?=some s->ba C S Z H hv s (cs.getD (i+m) undef) (ds.getD (i+m) .none))->
 l.length=aP.length/\(PE.evc Z (ug b l i)).length=l.length/\∀(m:Nat) (c:AgC),l[m]?=some c->Ev C S H hv c (cs.getD (i+m) undef) ((PE.evc Z (ug b l i)).getD m .none)
 |[],i,l,hl,_=>by simp only[J8,bx] at hl;subst hl;exact⟨rfl,rfl,λm c hm=>by simp at hm⟩
 |s::r,i,l,hl,bj=>by
  simp only[J8,aJ] at hl;obtain⟨x,hx,hl⟩:=hl
  obtain⟨g1,g2,g3⟩:=apn hd r (i+1) x hx λm s hm=>by
   have:=bj (m+1) s (by simpa using hm)
   rwa [show i+(m+1)=i+1+m by omega] at this
  have h0:=bj 0 s rfl;rw[qE] at h0;split at hl
  .rename_i t;cases dA:t.one<;>simp only[dA,zyv,zyu] at hl
   .cases hl
   cases hl;have eH:Rep C.cap H t (cs.getD i undef) (ds.getD i .none):=h0;have e:PE.evc Z (ug b (.dat t::x) i)=ds.getD i .none::PE.evc Z (ug b x (i+1)):=by
        simp only[ug,PE.evc,PE.ev,hd,D.c];have:=eH.dcells dA;simp only[D.cells] at this ⊢;rw[this];rfl
   rw[e];refine⟨by simp[g1],by simp[g2],λm c hm=>?_⟩;cases m with
   |zero=>simp at hm;subst hm;exact⟨dA,eH⟩
   |succ m=>simp at hm;have:=g3 m c hm;rw[show i+1+m=i+(m+1) by omega] at this;simpa using this
  .rename_i j ver;cases hb:Nat.beq ver (S.ver j)<;>simp only[hb,zyv,zyu] at hl
   .cases hl
   cases hl;have e:PE.evc Z (ug b (.obj j ver::x) i)=.v (.bool false)::PE.evc Z (ug b x (i+1)):=rfl;rw[e];refine⟨by simp[g1],by simp[g2],λm c hm=>?_⟩;cases m with
   |zero=>simp at hm;subst hm;exact h0
   |succ m=>simp at hm;have:=g3 m c hm;rw[show i+1+m=i+(m+1) by omega] at this;simpa using this
  .cases hl
def OW (h:Inv C S Z H own hv w0 σ0 A a w)(hC:CtxOK C σ0)(hg:holds gs Z=true){T:TypeId}{x:Operand}{r:Sh×List PI}(hr:HE C S gs dst T x=some r){o:Oper}(ho:o.op=.load T x):
 ff C S Z H hv V dst a w o r:=by
 unfold HE at hr;split at hr
 case h_2=>cases hr
 rename_i inf ag hi ha;have fp:ba C S Z H hv (lb S gs x) (a.eval x) ((yb x).ev Z):=by
  cases x with
  |tmp t=>exact(vG h hg t).1
  |_=>trivial
 split at hr
 ·
  rename_i j ver off es;rw[es] at fp;cases hb:Nat.beq ver (S.ver j)<;>simp only[hb,zyv,zyu] at hr
  .cases hr
  have gm:=aK hb;obtain⟨k,fw,gD⟩:=fp.2 gm;have bI:=h.objs j;split at hr
  .rename_i bag aP eo;rw[eo] at bI;obtain⟨k',cs,T',ds,h1,h2,h3,h4,h5,h6,h7⟩:=bI;rw[fw] at h1;cases h1;cases ag with
   |true=>
    simp only[zyv] at hr;cases hle:Nat.ble (off+inf.size) aP.length<;>simp only[hle,zyv,zyu] at hr
    .cases hr
    have NJ:=mO hle;have hlen:((aP.drop off).take inf.size).length=inf.size:=by simp;omega
    have ju:∀m u,((cs.toList.drop off).take inf.size)[m]?=some u->w.cell? ⟨k,off+m,none⟩=some u:=λm u hu=>by
     simp only[iL,je] at hu;split at hu
     .rename_i hm;have:=Ti h3 (i:=off+m) (by omega);rw[this,<-CP];exact congrArg some (uB hu)
     .cases hu
    have av4:=ye ho gD (Qz hi ha (by simp;omega) (λe=>by cases e) ju);simp only[aT] at hr;obtain⟨p,hp,rfl⟩:=hr
    obtain⟨l1,es,⟨he,_⟩,l2,cG⟩:=Tq (b:=.o j) h (cs:=cs.toList) h5 _ off p (λm s hm=>by
     simp only[iL,je] at hm;split at hm
     .have:=(h7 (off+m) s hm).2;rw[CP];exact this
     .cases hm) hp
    refine .dat (v:=rowOf true ((cs.toList.drop off).take inf.size)) av4 ?_
    .simp only[PE.ev,rowOf,if_true,he];refine .agg _ _ _ (by simp;omega) (by omega) (λm t hm=>?_) (λm t hm=>(cG m t hm).1);have oJ:m<inf.size:=by have:=(jF.1 hm).1;omega
     have:=(cG m t hm).2;simpa [bn,iL,je,oJ] using this
   |false=>
    simp only[zyu] at hr;split at hr
    .rename_i ty hs;cases dA:ty.one<;>simp only[dA,zyv,zyu] at hr
     .cases hr
     cases hr;have qW:=(h7 off _ hs).2;have aq:off<aP.length:=(jF.1 hs).1;have zI:(loadVar T ⟨k,off,none⟩).run C.P w=.ok (cs.getD off undef) w:=by
      simp[loadVar,xo ha,run_load,Ti h3 (i:=off) (by omega)]
     refine .dat (v:=cs.getD off undef) (ye ho gD zI) ?_;simp only[PE.ev,h5,D.c,D.cells];exact qW
    .rename_i j' tL hs;cases hr;have qW:=(h7 off _ hs).2;have aq:off<aP.length:=(jF.1 hs).1;have zI:(loadVar T ⟨k,off,none⟩).run C.P w=.ok (cs.getD off undef) w:=by
      simp[loadVar,xo ha,run_load,Ti h3 (i:=off) (by omega)]
     intro Z' az;exact⟨_,_,AO az,ye ho gD zI,qW,λ_ _ e=>by cases e⟩
    .cases hr
  .rename_i ts eo;rw[eo] at bI;obtain⟨k',v,h1,h2,h3⟩:=bI;rw[fw] at h1;cases h1;simp only[aT] at hr;obtain⟨ty,bt,rfl⟩:=hr;obtain⟨vs,ds,rfl,hd,l1,l2,bj,dA⟩:=h2.agg_inv;obtain⟨cG,hlen,oL⟩:=O1 bt l1 l2 bj dA;refine .dat (ye ho gD (Qz hi ha hlen (λe=>by rw[hlen];exact oL e) (λm u hu=>h.cell ?_))) (by rw[O0 (e:=.o j) hd];exact cG);simp only[iL,je] at hu;split at hu
   .exact h3 (off+m) u (by simpa [Value.cells] using hu)
   .cases hu
  .rename_i ty aI eo;rw[eo] at bI;obtain⟨k',v,h1,h2,h3⟩:=bI;rw[fw] at h1;cases h1;cases hc:(!ag&&ty.one&&Nat.beq off 0)<;>simp only[hc,zyv,zyu] at hr
   .cases hr
   cases hr;simp only[aA,lY] at hc;have jP:=aK hc.2;subst jP;have zI:(loadVar T ⟨k,0,none⟩).run C.P w=.ok v w:=by
        have:=h.cell (h3 0 v (by simp[(h2.oneCell hc.1.2).1]));rw[hc.1.1] at ha;simp[loadVar,xo ha,run_load,this]
   exact .dat (ye ho gD zI) h2
  .cases hr
 ·
  rename_i j ver size off es;rw[es] at fp;cases hb:Nat.beq ver (S.ver j)<;>simp only[hb,zyv,zyu] at hr
  .cases hr
  have gm:=aK hb;obtain⟨k,n,c,ik,i,fw,wL,cj,gD⟩:=fp.2 gm;have bI:=h.objs j;split at hr
  .rename_i T' ts eo;rw[eo] at bI;obtain⟨cells,xs,h1,h2,⟨vs,h3,h4⟩,h5⟩:=bI;cases bp:Nat.beq size ts.length<;>simp only[bp,zyv,zyu] at hr
   .cases hr
   have xh:=aK bp;simp only[aT] at hr;obtain⟨ty,bt,rfl⟩:=hr;rw[fw] at h2;have bG:=h2.cells (g:=k) rfl;obtain⟨b,c',e1,zJ,uN⟩:=Ay h2;cases e1;obtain⟨y,hy⟩:∃y,xs[i]?=some y:=⟨_,cd cj⟩
   have NW:=h3 i y hy;obtain⟨us,ds,Dp,hd,l1,l2,bj,dA⟩:=NW.agg_inv;obtain⟨cG,hlen,oL⟩:=O1 bt l1 l2 bj dA;have avC:(PE.nth (.o j) (yb x)).ev Z=.agg ds:=by
        simp only[PE.ev,h1,D.l_list,wL,D.i_int,rW];rw[uB hy,hd]
   refine .dat (ye ho gD (Qz hi ha hlen (λe=>by rw[hlen];exact oL e) (λm u hu=>?_))) (by rw[O0 avC];exact cG);simp only[iL,je] at hu;split at hu
   .have:=h4 i (off+m) u (by omega) (by rw[Dp];simpa [Value.cells] using hu);have:=bG _ _ this;rw[v5] at this;simpa [Ty.size,xh,JW] using this
   .cases hu
  .rename_i T' e aI eo;rw[eo] at bI;obtain⟨cells,xs,h1,h2,⟨vs,h3,h4⟩,h5⟩:=bI;cases hc:(!ag&&e.one&&Nat.beq off 0&&Nat.beq size 1)<;>simp only[hc,zyv,zyu] at hr
   .cases hr
   cases hr;simp only[aA,lY] at hc;have jP:=aK hc.1.2;have bp:=aK hc.2;subst jP;subst bp;rw[fw] at h2;have bG:=h2.cells (g:=k) rfl;obtain⟨b,c',e1,zJ,uN⟩:=Ay h2;cases e1;obtain⟨y,hy⟩:∃y,xs[i]?=some y:=⟨_,cd cj⟩
   have NW:=h3 i y hy;have zI:(loadVar T ⟨k,i*1+0,none⟩).run C.P w=.ok (vs i) w:=by
        have h6:=h4 i 0 (vs i) cj (by simp[(NW.oneCell hc.1.1.2).1]);have:=bG _ _ h6;rw[v5] at this;have Gu:e.size=1:=by cases e<;>simp_all [Ty.size,Ty.one]
        rw[hc.1.1.1] at ha;rw[Gu] at this;simp only[jh,qE,Nat.mul_one] at this;simp[loadVar,xo ha,run_load,this]
   refine .dat (ye ho gD zI) ?_;simp only[PE.ev,h1,D.l_list,wL,D.i_int,rW];rw[uB hy];exact NW
  .cases hr
 .simp only[aJ] at hr;obtain⟨p,hp,hr⟩:=hr;have bm:=cM h hC hg hp;split at hr
  .rename_i ty e1;rw[e1] at bm;cases hc:(Nat.beq inf.size ty.size&&(ag==ty.rowT))<;>simp only[hc,zyv,zyu] at hr
   .cases hr
   cases hr;simp only[aA] at hc;exact az4 h hi ha ho bm hc.1 hc.2
  .cases hr
def AS (h:Inv C S Z H own hv w0 σ0 A a w)(hg:holds gs Z=true)(x:Operand):ba C S Z H hv (lb S gs x) (a.eval x) ((yb x).ev Z)/\∀bY s,lb S gs x≠.opt bY s:=by
 cases x with
 |tmp t=>exact vG h hg t
 |_=>exact⟨trivial,λ_ _ e=>by cases e⟩
def afL {P:Program}{T:TypeId}{i:Nat}{f:Field}(h:F6 P T i=some f):∃fs,P.underlying T=some (.struct fs)/\fs[i]?=some f:=by
 unfold F6 at h;split at h
 .rename_i fs hu;exact⟨fs,hu,h⟩
 .cases h
def ZQ {o:Oper}{T:TypeId}{x:Operand}{i:Nat}{f:Field}{inf:TypeInfo}{k off:Nat}(ho:o.op=.fieldAddr T x i)(hf:F6 C.P T i=some f)(hi:C.P.info? f.type=some inf)(hn:Nat.beq inf.size 0=false)
 (hx:a.eval x=.pointer (some ⟨k,off,none⟩)):(execOp a.eval o).run C.P w=.ok (.value (.pointer (some ⟨k,off+f.offset,none⟩))) w:=by
 obtain⟨fs,hu,zE⟩:=afL hf;have jw:inf.size≠0:=by intro e;simp[e] at hn
 simp[execOp,ho,Instr.fieldAt,run_underlying hu,zE,hx,Instr.sureAddr,fieldPlace,Go.sizeOf,run_typeInfo w hi,jw,v5]
def azY (h:Inv C S Z H own hv w0 σ0 A a w)(hC:CtxOK C σ0)(hg:holds gs Z=true){T:TypeId}{x:Operand}{i:Nat}{r:Sh×List PI}(hr:Xm C S gs dst T x i=some r){o:Oper}(ho:o.op=.fieldAddr T x i):
 ff C S Z H hv V dst a w o r:=by
 simp only[Xm,aJ] at hr;obtain⟨f,hf,hr⟩:=hr;obtain⟨fp,eU⟩:=AS h hg x;split at hr
 case h_2=>cases hr
 rename_i inf ag hi ha;cases hn:Nat.beq inf.size 0<;>simp only[hn,zyv,zyu] at hr
 case true=>cases hr
 split at hr
 .rename_i j ver size off es;cases hb:Nat.beq ver (S.ver j)<;>simp only[hb,zyv,zyu] at hr
  .cases hr
  cases hr;rw[es] at fp;intro Z' az;obtain⟨k,n,c,ik,idx,fw,wL,cj,gD⟩:=fp.2 (aK hb);exact⟨_,_,AO az,ZQ ho hf hi hn gD,⟨fp.1,λ_=>⟨k,n,c,ik,idx,fw,wL,cj,by rw[JW]⟩⟩,λ_ _ e=>by cases e⟩
 .split at hr
  .rename_i ts e hu;have bm:=cM h hC hg hu;simp only[aT] at hr;obtain⟨ty,bt,rfl⟩:=hr;obtain⟨k,off,v,y,bD,bB,cG,lE⟩:=Rep.ref_inv bm;obtain⟨vs,ds,rfl,rfl,l1,l2,bj,dA⟩:=cG.agg_inv;obtain⟨sG,hlen,oL⟩:=O1 bt l1 l2 bj dA;refine .dat (ZQ ho hf hi hn bD) ?_;have Nw:(PE.deref e).ev Z=.agg ds:=by simp only[PE.ev,bB,D.deref]
   simp only[PE.ev];rw[O0 Nw];refine .ref ty k (off+f.offset) _ _ sG (λj u hu=>?_);have lJ:((vs.drop f.offset).take inf.size)[j]?=some u:=by
        cases ag with
        |true=>simpa [rowOf,Value.cells] using hu
        |false=>
         have:=oL rfl;rw[this] at hlen ⊢;obtain⟨q,hq⟩:∃q,(vs.drop f.offset).take 1=[q]:=by
          match(vs.drop f.offset).take 1,hlen with
          |[q],_=>exact⟨q,rfl⟩
         rw[this] at sG hu;rw[hq] at sG hu ⊢;simp only[rowOf,yM] at sG hu;have uQ:ty.rowT=false:=by
          unfold xH at bt;cases hle:Nat.ble (f.offset+inf.size) ts.length<;>simp only[hle,zyv,zyu] at bt
          .cases bt
          .cases hb:Nat.beq inf.size 1<;>simp only[hb,zyv,zyu] at bt
           .cases bt
           .have:=dA _ _ bt;cases ty<;>simp_all [Ty.one,Ty.rowT]
         rw[sG.cells1 uQ] at hu;simpa using hu
   simp only[iL,je] at lJ;split at lJ
   .have:=lE (f.offset+j) u (by simpa [Value.cells] using lJ)
    rwa [<-JW] at this
   .cases lJ
  .split at hr
   .rename_i j ver off es;cases hb:Nat.beq ver (S.ver j)<;>simp only[hb,zyv,zyu] at hr
    .cases hr
    cases hr;rw[es] at fp;intro Z' az;obtain⟨k,fw,gD⟩:=fp.2 (aK hb);exact⟨_,_,AO az,ZQ ho hf hi hn gD,⟨fp.1,λ_=>⟨k,fw,rfl⟩⟩,λ_ _ e=>by cases e⟩
   .cases hr
def azZ (h:Inv C S Z H own hv w0 σ0 A a w)(hC:CtxOK C σ0)(hg:holds gs Z=true){T:TypeId}{x:Operand}{i:Nat}{r:Sh×List PI}(hr:Xl C S gs dst T x i=some r){o:Oper}(ho:o.op=.field T x i):
 ff C S Z H hv V dst a w o r:=by
 simp only[Xl,aJ] at hr;obtain⟨f,hf,hr⟩:=hr;split at hr
 case h_2=>cases hr
 rename_i inf ag hi ha;split at hr
 case h_2=>cases hr
 rename_i ts e hu;have bm:=cM h hC hg hu;simp only[aT] at hr;obtain⟨ty,bt,rfl⟩:=hr;obtain⟨vs,ds,bD,bB,l1,l2,bj,dA⟩:=Rep.agg_inv bm;obtain⟨sG,hlen,oL⟩:=O1 bt l1 l2 bj dA;obtain⟨fs,lJ,zE⟩:=afL hf;have hle:f.offset+inf.size<=ts.length:=by
  unfold xH at bt;cases hle:Nat.ble (f.offset+inf.size) ts.length<;>simp only[hle,zyv,zyu] at bt
  .cases bt
  .exact mO hle
 refine .dat (v:=rowOf ag ((vs.drop f.offset).take inf.size)) ?_ (by rw[O0 bB];exact sG);cases ag with
 |true=>
  simp only[execOp,ho,Instr.field,bD,asAgg,part];simp[run_underlying lJ,zE,xo ha,Go.sizeOf,run_typeInfo w hi,rowOf]
 |false=>
  have hn:=oL rfl;have aq:f.offset<vs.length:=by omega
  simp only[execOp,ho,Instr.field,bD,asAgg,part];simp[run_underlying lJ,zE,xo ha,rowOf,hn,cd aq,bn,iL,je]
def ano {o:Oper}{T e:TypeId}{x i:Operand}{inf:TypeInfo}{k off n c idx:Nat}{ik:IntKind}(ho:o.op=.indexAddr T x i)(hT:C.P.underlying T=some (.slice e))(hi:C.P.info? e=some inf)
 (hx:a.eval x=.slice (some ⟨k,off,none⟩) n c) (auW:a.eval i=.int ik idx) (aq:idx<n):(execOp a.eval o).run C.P w=.ok (.value (.pointer (some ⟨k,off+idx*inf.size,none⟩))) w:=by
 simp[execOp,ho,Instr.indexAt,run_underlying hT,hx,auW,asIntOf,aq,Go.sizeOf,run_typeInfo w hi,v5]
def QE {P:Program}{T:TypeId}{t:Ty}(h:tE P T t=true):∃inf,P.info? T=some inf/\inf.size=t.size:=by
 unfold tE at h;split at h
 .rename_i i hi;exact⟨i,hi,aK h⟩
 .cases h
def az1 (h:Inv C S Z H own hv w0 σ0 A a w)(hC:CtxOK C σ0)(hg:holds gs Z=true){T:TypeId}{x i:Operand}{r:Sh×List PI}(hr:Xp C S gs dst T x i=some r){o:Oper}(ho:o.op=.indexAddr T x i):
 ff C S Z H hv V dst a w o r:=by
 unfold Xp at hr;split at hr
 case h_2=>cases hr
 rename_i e hT;simp only[aJ] at hr;obtain⟨p,hp,hr⟩:=hr;have bm:=cM h hC hg hp;split at hr
 case h_2=>cases hr
 rename_i ik e1;rw[e1] at bm;obtain⟨idx,bD,bB,b1,b2⟩:=bm.int_inv;split at hr
 .rename_i t pe hu;have dE:=cM h hC hg hu;cases bp:tE C.P e t<;>simp only[bp,zyv,zyu] at hr
  .cases hr
  cases hr;obtain⟨inf,hi,hs⟩:=QE bp;obtain⟨xs,hd,mZ⟩:=Rep.slice_inv dE;refine .datc hg λhc=>?_;simp only[PE.ev,hd,bB,D.l_list,D.i_int,D.b_bool,decide_eq_true_eq] at hc;rcases mZ with⟨_,rfl⟩|⟨k,off,c,sN,h1,h2,vs,h3,h4⟩
  .simp at hc;omega
  .obtain⟨m,rfl⟩:=eC hc.1;have aq:m<xs.length:=by omega
   refine⟨_,ano ho hT hi sN bD aq,?_⟩;obtain⟨y,hy⟩:∃y,xs[m]?=some y:=⟨_,cd aq⟩
   simp only[PE.ev,hd,bB,D.l_list,D.i_int,rW,uB hy];exact .ref t.unf k _ (vs m) y (h3 m y hy) (λj u hu=>by rw[hs];exact h4 m j u aq hu)
 .cases hr
 .obtain⟨fp,eU⟩:=AS h hg x;split at hr
  .rename_i j ver es;rw[es] at fp;cases hb:Nat.beq ver (S.ver j)<;>simp only[hb,zyv,zyu] at hr
   .cases hr
   have gm:=aK hb;have bI:=h.objs j;have cV:=fp.2 gm;split at hr
   .rename_i T' t eo;rw[eo] at bI;cases bp:tE C.P e t<;>simp only[bp,zyv,zyu] at hr
    .cases hr
    cases hr;obtain⟨inf,hi,hs⟩:=QE bp;obtain⟨cells,xs,h1,h2,⟨vs,h3,h4⟩,h5⟩:=bI;intro Z' az;obtain⟨hc,hρ⟩:=ZR hg az;simp only[PE.ev,h1,bB,D.l_list,D.i_int,D.b_bool,decide_eq_true_eq] at hc;obtain⟨m,rfl⟩:=eC hc.1;have aq:m<xs.length:=by omega
    rcases h2.2 with⟨_,e0⟩|⟨g,cap,cur,fw,_⟩
    .omega
    .refine⟨_,_,hρ,ano ho hT hi (cV.trans fw) bD aq,⟨by omega,λ_=>⟨g,xs.length,cap,ik,m,fw,bB,aq,?_⟩⟩,λ_ _ e=>by cases e⟩;rw[hs];simp
   .cases hr
  .cases hr
def az2 (h:Inv C S Z H own hv w0 σ0 A a w)(hC:CtxOK C σ0)(hg:holds gs Z=true){T:TypeId}{x i:Operand}{r:Sh×List PI}(hr:Xo C S gs dst T x i=some r){o:Oper}(ho:o.op=.index T x i):
 ff C S Z H hv V dst a w o r:=by
 unfold Xo at hr;split at hr
 case h_2=>cases hr
 rename_i hT;simp only[aJ] at hr;obtain⟨p,hp,q,hq,hr⟩:=hr;have bm:=cM h hC hg hp;have dX:=cM h hC hg hq;split at hr
 case h_2=>cases hr
 rename_i ik e1 e2;rw[e1] at bm;rw[e2] at dX;obtain⟨idx,bD,bB,b1,b2⟩:=bm.int_inv;obtain⟨s,iw,dD,_⟩:=dX.str_inv;cases hr;refine .datc hg λhc=>?_;simp only[PE.ev,dD,bB,D.s_str,D.i_int,D.b_bool,decide_eq_true_eq] at hc;obtain⟨m,rfl⟩:=eC hc.1;have aq:m<s.size:=by omega
 refine⟨.int .u8 (s.data.getD m 0).toNat,?_,?_⟩
 .have:s[m]?=some (s.data.getD m 0):=by
   rw[getElem?_pos s m aq];simp[ByteArray.getElem_eq_getElem_data,iK,kB (show m<s.data.size from aq)]
  simp[execOp,ho,Instr.index,run_underlying hT,bD,iw,asIntOf,this]
 .simp only[PE.ev,dD,bB,D.s_str,D.i_int,rW];refine .int _ _ ?_ ?_
  .simp only[IntKind.min,IntKind.signed];simp
  .simp only[IntKind.max,IntKind.signed,IntKind.bits];have:=UInt8.toNat_lt (s.data.getD m 0);simp at this ⊢;omega
def aHb (h:Inv C S Z H own hv w0 σ0 A a w)(hC:CtxOK C σ0)(hg:holds gs Z=true){lo:Option Operand}{l:Ty×PE}{k:IntKind}(hl:adN C S gs lo=some l)(hk:l.1=.int k):
 ∃n,l.2.ev Z=.v (.int k n)/\((lo=none/\n=0)\/∃x,lo=some x/\a.eval x=.int k n):=by
 cases lo with
 |none=>simp[adN] at hl;subst hl;simp at hk;subst hk;exact⟨0,rfl,.inl ⟨rfl,rfl⟩⟩
 |some x=>
  have:=cM h hC hg hl;rw[hk] at this;obtain⟨n,h1,h2,_⟩:=this.int_inv;exact⟨n,h2,.inr ⟨x,rfl,h1⟩⟩
def aHa (h:Inv C S Z H own hv w0 σ0 A a w)(hC:CtxOK C σ0)(hg:holds gs Z=true){e:PE}{hi:Option Operand}{l:Ty×PE}{k:IntKind}(hl:adM C S gs e hi=some l)(hk:l.1=.int k):
 ∃n,l.2.ev Z=.v (.int k n)/\((hi=none/\n=(e.ev Z).l.length)\/∃x,hi=some x/\a.eval x=.int k n):=by
 cases hi with
 |none=>simp[adM] at hl;subst hl;simp at hk;subst hk;exact⟨_,rfl,.inl ⟨rfl,rfl⟩⟩
 |some x=>
  have:=cM h hC hg hl;rw[hk] at this;obtain⟨n,h1,h2,_⟩:=this.int_inv;exact⟨n,h2,.inr ⟨x,rfl,h1⟩⟩
def run_sliceBound {P:Program}{x:Value}{y i:Nat}{k:IntKind}{code:BoundsCode}{w:World}(hx:x=.int k i)(h:i<=y):(Instr.sliceBound x y code).run P w=.ok i w:=by
 subst hx;simp[Instr.sliceBound,asIntOf,h]
def az9 (h:Inv C S Z H own hv w0 σ0 A a w)(hC:CtxOK C σ0)(hg:holds gs Z=true){T:TypeId}{x:Operand}{lo hi mx:Option Operand}{r:Sh×List PI}(hr:Xu C S gs dst T x lo hi mx=some r){o:Oper}(ho:o.op=.slice T x lo hi mx):
 ff C S Z H hv V dst a w o r:=by
 unfold Xu at hr;split at hr
 case h_3=>cases hr
 case h_2=>
  rename_i n e hT;split at hr
  case h_2=>cases hr
  simp only[aJ] at hr;obtain⟨p,hp,hr⟩:=hr;have bm:=cM h hC hg hp;split at hr
  case h_2=>cases hr
  rename_i t ts e1;cases hc:(Nat.beq n (ts.length+1)&&ts.all (Ty.beq t)&&t.one&&tE C.P e t&&Nat.ble n maxLen)<;>simp only[hc,zyv,zyu] at hr
  .cases hr
  cases hr;simp only[aA] at hc;obtain⟨⟨⟨⟨c1,c2⟩,c3⟩,c4⟩,c5⟩:=hc;have hn:=aK c1;have hm:=mO c5;obtain⟨inf,pV,hs⟩:=QE c4;rw[e1] at bm;obtain⟨k,off,x0,y,sN,hd,hr0,lE⟩:=bm.ref_inv;obtain⟨vs,ds,rfl,rfl,l1,l2,jv,_⟩:=hr0.agg_inv
  have bj:∀(i:Nat),i<n->(t::ts)[i]?=some t:=λi hi=>by
   cases i with
   |zero=>rfl
   |succ i=>
    have aq:i<ts.length:=by omega
    rw[aec,cd aq];rw[Ty.beq_eq _ _ (fe.1 c2 _ (bR aq))]
  have UW:vs.length=n:=by rw[l1,hn];rfl
  have hld:ds.length=n:=by rw[l2,hn];rfl
  have dA:t.size=1:=by cases t<;>simp_all [Ty.one,Ty.size]
  refine ff.dat (v:=.slice (some ⟨k,off,none⟩) n n) ?_ ?_
  .have:Addr.add ⟨k,off,none⟩ 0=⟨k,off,none⟩:=by simp[Addr.add]
   simp[execOp,ho,Instr.sliceAt,run_underlying hT,sN,Instr.sureAddr,Instr.sliceBounds,Go.sizeOf,run_typeInfo w pV,this]
  .have avi:(PE.lst ((List.range n).map λi=>.cell (.deref p.2) i)).ev Z=.list ds:=by
        simp only[PE.ev]
        congr 1
        have cf:∀l:List PE,PE.evs Z l=l.map λe=>e.ev Z:=λl=>by induction l with|nil=>rfl|cons e l ih=>simp[PE.evs,ih]
        rw[cf,Ry];apply aea;intro i;rw[dF];by_cases hi:i<n
        .rw[rZ hi,cd (by omega)];simp only[ll,Function.comp,PE.ev,hd,D.deref,D.c,D.cells];rw[bn,cd (by omega)];rfl
        .rw[tX (by simp;omega),tX (by omega)];rfl
   rw[avi];refine .slice t k off n n ds (λi=>vs.getD i undef) hld (bL _) hm (λi x hx=>?_) (λi j u hi hu=>?_)
   .have aq:i<n:=by rw[<-hld];exact(jF.1 hx).1
    have:=jv i t (bj i aq);rw[uB hx] at this;exact this.unf
   .have h1:=(jv i t (bj i hi)).oneCell c3;rw[h1.1] at hu;cases j with
    |zero=>
     simp at hu;have:=lE i (vs.getD i undef) (by
      simp only[Value.cells];rw[JS,cd (by omega),bn,cd (by omega)];rfl)
     rw[dA,<-hu];simpa using this
    |succ j=>simp at hu
 rename_i e hT;simp only[aJ] at hr;obtain⟨p,hp,hr⟩:=hr;have bm:=cM h hC hg hp;split at hr
 case h_2=>cases hr
 rename_i t e1;rw[e1] at bm;simp only[aJ] at hr;obtain⟨l,hl,u,hu,hr⟩:=hr;split at hr
 case h_2=>cases hr
 rename_i k1 k2 e2 e3;cases bp:tE C.P e t<;>simp only[bp,zyv,zyu] at hr
 .cases hr
 cases hr;obtain⟨inf,pV,hs⟩:=QE bp;obtain⟨n1,bB,m8⟩:=aHb h hC hg hl e2;obtain⟨n2,dD,zF⟩:=aHa h hC hg hu e3;obtain⟨xs,hd,mZ⟩:=Rep.slice_inv bm;refine .datc hg λhc=>?_;simp only[PE.ev,hd,bB,dD,D.l_list,D.i_int,D.b_bool,decide_eq_true_eq] at hc;obtain⟨m1,rfl⟩:=eC hc.1;obtain⟨m2,rfl⟩:=eC (show 0<=n2 by omega);have lC:m1<=m2:=by omega
 have h2l:m2<=xs.length:=by omega
 have ago:∀c,xs.length<=c->(Instr.sliceBounds true xs.length c (lo.map a.eval) (hi.map a.eval) none).run C.P w=.ok (m1,m2,c) w:=by
  intro c jt
  have hh:∀code,(match hi.map a.eval with|some v=>Instr.sliceBound v c code|none=>(pure xs.length:Sem Nat)).run C.P w=.ok m2 w:=by
   intro code;rcases zF with⟨rfl,e⟩|⟨y,rfl,e⟩
   .rw[hd,D.l_list] at e;simp;omega
   .simp only[ll];exact run_sliceBound e (by omega)
  have UU:∀code,(match lo.map a.eval with|some v=>Instr.sliceBound v m2 code|none=>(pure 0:Sem Nat)).run C.P w=.ok m1 w:=by
   intro code;rcases m8 with⟨rfl,e⟩|⟨y,rfl,e⟩
   .simp;omega
   .simp only[ll];exact run_sliceBound e lC
  have C8:=hh .sliceAcap;have agU:=UU .sliceB;unfold Instr.sliceBounds;cases hi<;>cases lo<;>simp at C8 agU ⊢<;>simp[C8,agU]
 rcases mZ with⟨⟨p0,sN⟩,rfl⟩|⟨k,off,c,sN,h1,h2,vs,h3,h4⟩
 .have:m2=0:=by simpa using h2l
  have:m1=0:=by omega
  subst_vars
  refine⟨.slice p0 0 0,?_,?_⟩
  .have hb:=ago 0 (bL _);simp only[sc] at hb;cases p0 with
   |none=>simp[execOp,ho,Instr.sliceAt,Instr.slice,run_underlying hT,sN,hb,Go.sizeOf,run_typeInfo w pV]
   |some a0=>simp[execOp,ho,Instr.sliceAt,Instr.slice,run_underlying hT,sN,hb,Go.sizeOf,run_typeInfo w pV]
  .simp only[PE.ev,hd,bB,dD,D.l_list,D.i_int];cases p0 with
   |none=>exact .nil t
   |some a0=>exact .emp t a0
 .refine⟨.slice (some (if c=m1 then⟨k,off,none⟩ else⟨k,off+m1*inf.size,none⟩)) (m2-m1) (c-m1),?_,?_⟩
  .have hb:=ago c h1;simp only[execOp,ho,Option.map_none,Instr.sliceAt,run_underlying hT,sN];simp[run_underlying hT,Instr.slice,hb,Go.sizeOf,run_typeInfo w pV,v5];split<;>simp
  .simp only[PE.ev,hd,bB,dD,D.l_list,D.i_int,rW];have hlen:((xs.take m2).drop m1).length=m2-m1:=by simp;omega
   have jv:∀(i:Nat) (y:D),((xs.take m2).drop m1)[i]?=some y->xs[m1+i]?=some y:=by
        intro i y hy;simp only[je,iL] at hy;split at hy
        .exact hy
        .cases hy
   have lE:∀(i j:Nat) (v:Value),i<m2-m1->(vs (m1+i)).cells[j]?=some v->H.c k (off+m1*inf.size+i*t.size+j)=some v:=by
        intro i j v hi hj;have:=h4 (m1+i) j v (by omega) hj;rw[lh] at this;rw[hs]
        rwa [<-JW] at this
   split
   .rename_i kJ;refine .slice t k off (m2-m1) (c-m1) _ (λi=>vs (m1+i)) hlen (by omega) (by omega) (λi y hy=>h3 _ _ (jv i y hy)) (λi j v hi hj=>by omega)
   .exact .slice t k (off+m1*inf.size) (m2-m1) (c-m1) _ (λi=>vs (m1+i)) hlen (by omega) (by omega) (λi y hy=>h3 _ _ (jv i y hy)) lE
def aov (h:Inv C S Z H own hv w0 σ0 A a w)(hC:CtxOK C σ0)(hg:holds gs Z=true):∀(xs:List Operand) (r:List Ty×List PE),tK C S gs xs=some r->
 r.1.length=xs.length/\r.2.length=xs.length/\∀(i:Nat) (t:Ty),r.1[i]?=some t->Rep C.cap H t ((xs.map a.eval).getD i undef) ((PE.evs Z r.2).getD i .none):=by
 intro xs
 induction xs with
 |nil=>intro r hr;simp[tK] at hr;subst hr;exact⟨rfl,rfl,by simp⟩
 |cons x xs ih=>
  intro r hr;simp only[tK,aJ,aT] at hr;obtain⟨p,hp,q,hq,rfl⟩:=hr;obtain⟨l1,l2,bj⟩:=ih q hq;refine⟨by simp[l1],by simp[l2],λi t hi=>?_⟩;cases i with
  |zero=>simp at hi;subst hi;simpa [PE.evs] using cM h hC hg hp
  |succ i=>simp at hi;simpa [PE.evs] using bj i t hi
def az0 (h:Inv C S Z H own hv w0 σ0 A a w)(hC:CtxOK C σ0)(hg:holds gs Z=true){fn:Fn}{first caps:Array Operand}{r:Sh×List PI}(hr:Xn C S gs dst fn first caps=some r){o:Oper}(ho:o.op=.makeFunc fn first caps):
 ff C S Z H hv V dst a w o r:=by
 unfold Xn at hr;split at hr
 case h_2=>cases hr
 rename_i f UD;have jN:first=#[]:=by simpa using UD
 subst jN;simp only[aJ] at hr;obtain⟨cs,ju,p,hp,hr⟩:=hr;cases hb:Ty.subs p.1 cs.caps<;>simp only[hb,zyv,zyu] at hr
 .cases hr
 cases hr;obtain⟨l1,l2,bj⟩:=aov h hC hg _ _ hp;have hl:=Ty.subs_len _ _ hb;refine .dat (v:=.func (.func f) #[] (caps.map a.eval)) ?_ ?_
 .simp[execOp,ho,Instr.makeFunc]
 .simp only[PE.ev];have:caps.map a.eval=(caps.toList.map a.eval).toArray:=by apply Rl;rw[JK]
  rw[this];have e1:(caps.toList.map a.eval).length=cs.caps.length:=by rw[nN];omega
  have e2:(PE.evs Z p.2).length=cs.caps.length:=by rw[PE.evs_eq,nN];omega
  refine .fn f cs _ _ ju e1 e2 (λi t hi=>?_);obtain⟨s,hs,dw⟩:=Ty.subs_get _ _ hb i t hi;exact(bj i s hs).sub dw
def az6 (h:Inv C S Z H own hv w0 σ0 A a w)(hC:CtxOK C σ0)(hg:holds gs Z=true){x:Operand}{r:Sh×List PI}(hr:Xs C S gs dst x=some r){o:Oper}(ho:o.op=.nilCheck x):
 ff C S Z H hv V dst a w o r:=by
 have az:∀k off,a.eval x=.pointer (some ⟨k,off,none⟩)->(execOp a.eval o).run C.P w=.ok (.value (a.eval x)) w:=by
  intro k off e;simp[execOp,ho,e]
 unfold Xs at hr;split at hr
 .rename_i t e hu;cases hr;have bm:=cM h hC hg hu;obtain⟨k,off,v,y,bD,bB,cG,lE⟩:=Rep.ref_inv bm;exact .dat (az k off bD) bm
 .split at hr
  .rename_i t _;obtain⟨hs,eU⟩:=vG h hg t;split at hr
   .rename_i j ver off es;rw[es] at hs;cases hb:Nat.beq ver (S.ver j)<;>simp only[hb,zyv,zyu] at hr
    .cases hr
    cases hr;obtain⟨k,fw,gD⟩:=hs.2 (aK hb);intro Z' zQ;exact⟨_,_,AO zQ,az k off gD,hs,λ_ _ e=>by cases e⟩
   .rename_i j ver sz off es;rw[es] at hs;cases hb:Nat.beq ver (S.ver j)<;>simp only[hb,zyv,zyu] at hr
    .cases hr
    cases hr;have dN:=hs;obtain⟨k,n,c,ik,i,fw,wL,cj,gD⟩:=hs.2 (aK hb);intro Z' zQ;exact⟨_,_,AO zQ,az _ _ gD,dN,λ_ _ e=>by cases e⟩
   .cases hr
  .cases hr
def aoC {cap:Nat->Option CSig}{t:Ty}{z:Ty×D}{v:Value}(h:rU t=some z)(hz:A0 t v=true):Rep cap H z.1 v z.2/\z.1.one=true/\Ty.sub z.1 t=true:=by
 unfold A0 at hz;split at hz
 .simp at hz;obtain⟨rfl,rfl⟩:=hz;simp[rU] at h;subst h;exact⟨.int _ 0 (by rename_i k;cases k<;>decide) (by rename_i k;cases k<;>decide),rfl,by simp[Ty.sub,Ty.beq]⟩
 .simp at hz;subst hz;simp[rU] at h;subst h;exact⟨.bool false,rfl,rfl⟩
 .rename_i s;have:s=ByteArray.empty:=by
   have:s.size=0:=by simpa using hz
   cases s with|mk d=>simp[ByteArray.size] at this;subst this;rfl
  subst this;simp[rU] at h;subst h;exact⟨.str _ (by decide),rfl,rfl⟩
 .simp[rU] at h;subst h;exact⟨.nils _,rfl,rfl⟩
 .simp[rU] at h;subst h;refine⟨.mapnil _ _,rfl,?_⟩;simp only[Ty.sub];exact Ty.beq_refl _
 .simp[rU] at h;subst h;exact⟨.fnnil _ _,rfl,by simp only[Ty.sub];exact Ty.beq_refl _⟩
 .cases hz
end
def mapM_some {α β:Type}(f:α->Option β):∀(l:List α) (r:List β),l.mapM f=some r->r.length=l.length/\∀(i:Nat) (x:α),l[i]?=some x->∃y,r[i]?=some y/\f x=some y
 |[],r,h=>by simp at h;subst h;exact⟨rfl,by simp⟩
 |x::l,r,h=>by
  simp only[aeg,Option.bind_eq_bind,aJ] at h;obtain⟨y,hy,ys,xl,h⟩:=h;cases h;obtain⟨h1,h2⟩:=mapM_some f l ys xl;refine⟨by simp[h1],λi z hi=>?_⟩;cases i with
  |zero=>simp at hi;subst hi;exact⟨y,rfl,hy⟩
  |succ i=>simp at hi;simpa using h2 i z hi
def adW:∀(ts:List Ty) (vs:List Value),Eu ts vs=true->vs.length=ts.length/\∀(i:Nat) (t:Ty),ts[i]?=some t->∃v,vs[i]?=some v/\A0 t v=true
 |[],vs,h=>by cases vs<;>simp_all [Eu]
 |t::ts,vs,h=>by
  cases vs with
  |nil=>simp[Eu] at h
  |cons v vs=>
   simp only[Eu,aA] at h;obtain⟨h1,h2⟩:=adW ts vs h.2;refine⟨by simp[h1],λi u hi=>?_⟩;cases i with
   |zero=>simp at hi;subst hi;exact⟨v,rfl,h.1⟩
   |succ i=>simp at hi;simpa using h2 i u hi
def A1 {cap:Nat->Option CSig}{H:Im}{t:Ty}{z:Ty×D}{v:Value}(h:qz t=some z)(hz:j2 t v=true):Rep cap H z.1 v z.2/\Ty.sub z.1 t=true/\z.1.one=t.one:=by
 cases t with
 |agg ts=>
  simp only[qz,aT] at h;obtain⟨zs,uV,rfl⟩:=h;cases v with
  |agg vs=>
   simp only[j2] at hz;obtain⟨l1,h1⟩:=adW ts vs.toList hz;obtain⟨l2,h2⟩:=mapM_some _ _ _ uV;have key:∀(i:Nat) (t:Ty),ts[i]?=some t->∃y v,zs[i]?=some y/\vs.toList[i]?=some v/\Rep cap H y.1 v y.2/\y.1.one=true/\Ty.sub y.1 t=true:=by
      intro i t hi;obtain⟨y,hy,sQ⟩:=h2 i t hi;obtain⟨v,hv,iw⟩:=h1 i t hi;obtain⟨g1,g2,g3⟩:=aoC (cap:=cap) (H:=H) sQ iw;exact⟨y,v,hy,hv,g1,g2,g3⟩
   have cZ:∀(ts:List Ty) (zs:List (Ty×D)),zs.length=ts.length->(∀(i:Nat) (t:Ty),ts[i]?=some t->∃y,zs[i]?=some y/\Ty.sub y.1 t=true)->Ty.subs (zs.map (·.1)) ts=true:=by
      intro ts
      induction ts with
      |nil=>intro zs hl _;cases zs<;>simp_all [Ty.subs]
      |cons t ts ih=>
       intro zs hl hh;cases zs with
       |nil=>simp at hl
       |cons z zs=>
        simp only[j6,Ty.subs,aA];refine⟨?_,ih zs (by simpa using hl) λi u hu=>by simpa using hh (i+1) u (by simpa using hu)⟩;obtain⟨y,hy,sQ⟩:=hh 0 t rfl;simp at hy;subst hy;exact sQ
   refine⟨?_,?_,rfl⟩
   .have:vs=vs.toList.toArray:=by simp
    rw[this];refine .agg _ _ _ (by rw[nN];omega) (by simp) (λi t hi=>?_) (λi t hi=>?_)
    .simp only[dF,aT] at hi;obtain⟨q,hq,rfl⟩:=hi;obtain⟨t',Vs⟩:∃t',ts[i]?=some t':=⟨_,cd (by have:=(jF.1 hq).1;omega)⟩
     obtain⟨y,v,hy,hv,g1,g2,g3⟩:=key i t' Vs;rw[hq] at hy;cases hy;rw[uB hv,uB (show(zs.map (·.2))[i]?=some q.2 by simp[hq])];exact g1
    .simp only[dF,aT] at hi;obtain⟨q,hq,rfl⟩:=hi;obtain⟨t',Vs⟩:∃t',ts[i]?=some t':=⟨_,cd (by have:=(jF.1 hq).1;omega)⟩
     obtain⟨y,v,hy,hv,g1,g2,g3⟩:=key i t' Vs;rw[hq] at hy;cases hy;exact g2
   .simp only[Ty.sub];exact cZ ts zs l2 λi t hi=>by obtain⟨y,v,hy,hv,g1,g2,g3⟩:=key i t hi;exact⟨y,hy,g3⟩
  |_=>simp[j2] at hz
 |_=>
  obtain⟨g1,g2,g3⟩:=aoC (cap:=cap) (H:=H) (by simpa [qz] using h) (by simpa [j2] using hz);exact⟨g1,g3,(Ty.sub_one _ _ g3).1⟩
def apR {a b:ByteArray}(h:(a==b)=true):a=b:=by
 cases a with|mk x=>cases b with|mk y=>
 have:(x==y)=true:=h;rw[eq_of_beq this]
def apS (a:ByteArray):(a==a)=true:=by
 cases a with|mk x=>
 show(x==x)=true;simp
def VM {P:Program}{K:TypeId}{kt:Ty}(hk:rk P K kt=true):
 (∃k k',kt=.int k/\P.underlying K=some (.int k'))\/(kt=.str/\P.underlying K=some .string)\/(kt=.bool/\P.underlying K=some .bool):=by
 unfold rk at hk;split at hk
 .split at hk
  .exact .inl ⟨_,_,rfl,by assumption⟩
  .cases hk
 .split at hk
  .exact .inr (.inl ⟨rfl,by assumption⟩)
  .cases hk
 .split at hk
  .exact .inr (.inr ⟨rfl,by assumption⟩)
  .cases hk
 .cases hk
def ar0 {cap:Nat->Option CSig}{H:Im}{P:Program}{K:TypeId}{kt:Ty}{desc:TypeDesc}(hk:rk P K kt=true)(hu:P.underlying K=some desc){v:Value}{d:D}(hv:Rep cap H kt v d):
 ∀(es:List MapEntry) (ds:List (D×D)) (i:Nat),ds.length=es.length->(∀(j:Nat) (e:MapEntry) (p:D×D),es[j]?=some e->ds[j]?=some p->Rep cap H kt e.key p.1)->
  (Instr.findNow desc v es i=some none/\∀(j:Nat) (p:D×D),ds[j]?=some p->dJ d p.1=false)\/
  ∃j e p,es[j]?=some e/\ds[j]?=some p/\Instr.findNow desc v es i=some (some (i+j,e.val))/\dJ d p.1=true/\Instr.sameBits 10000 e.key v=true/\∀m q,m<j->ds[m]?=some q->dJ d q.1=false:=by
 have dA:∀(v':Value) (d':D),Rep cap H kt v' d'->Instr.sameNow desc v v'=some (dJ d d')/\(dJ d d'=true->Instr.sameBits 10000 v' v=true):=by
  intro v' d' h';rcases VM hk with⟨k,k',rfl,lJ⟩|⟨rfl,lJ⟩|⟨rfl,lJ⟩
  .rw[hu] at lJ;cases lJ;obtain⟨n,rfl,rfl,_⟩:=hv.int_inv;obtain⟨m,rfl,rfl,_⟩:=h'.int_inv;refine⟨by simp[Instr.sameNow,dJ,D.cells,ko,oV],λe=>?_⟩;have:n=m:=by simpa [dJ,D.cells,ko,oV] using e
   subst this;simp[Instr.sameBits]
  .rw[hu] at lJ;cases lJ;obtain⟨n,rfl,rfl,_⟩:=hv.str_inv;obtain⟨m,rfl,rfl,_⟩:=h'.str_inv;refine⟨by simp[Instr.sameNow,dJ,D.cells,ko,oV],λe=>?_⟩;have:n=m:=apR (by simpa [dJ,D.cells,ko,oV] using e);subst this;simpa [Instr.sameBits] using apS n
  .rw[hu] at lJ;cases lJ;obtain⟨n,rfl,rfl⟩:=hv.bool_inv;obtain⟨m,rfl,rfl⟩:=h'.bool_inv;refine⟨by simp[Instr.sameNow,dJ,D.cells,ko,oV],λe=>?_⟩;have:n=m:=by simpa [dJ,D.cells,ko,oV] using e
   subst this;simp[Instr.sameBits]
 intro es
 induction es with
 |nil=>intro ds i hl _;left;exact⟨rfl,by cases ds<;>simp_all⟩
 |cons e es ih=>
  intro ds i hl bj;cases ds with
  |nil=>simp at hl
  |cons p ds=>
   obtain⟨hs,hb⟩:=dA e.key p.1 (bj 0 e p rfl rfl);cases oH:dJ d p.1 with
   |true=>
    right;rw[oH] at hs;exact⟨0,e,p,rfl,rfl,by simp[Instr.findNow,hs],oH,hb oH,λm q hm=>by omega⟩
   |false=>
    rw[oH] at hs;rcases ih ds (i+1) (by simpa using hl) (λj e' p' he hp=>bj (j+1) e' p' (by simpa using he) (by simpa using hp)) with⟨h1,h2⟩|⟨j,e',p',h1,h2,h3,h4,h5,h6⟩
    .left;refine⟨by simp[Instr.findNow,hs,h1],λj q hq=>?_⟩;cases j with
     |zero=>simp at hq;subst hq;exact oH
     |succ j=>exact h2 j q (by simpa using hq)
    .right;refine⟨j+1,e',p',by simpa using h1,by simpa using h2,?_,h4,h5,λm q hm hq=>?_⟩
     .simp[Instr.findNow,hs,h3];omega
     .cases m with
      |zero=>simp at hq;subst hq;exact oH
      |succ m=>exact h6 m q (by omega) (by simpa using hq)
def VW {d:D}:∀{ds:List (D×D)},(∀(j:Nat) (p:D×D),ds[j]?=some p->dJ d p.1=false)->eO d ds=none
 |[],_=>rfl
 |p::ds,h=>by simp only[eO,h 0 p rfl];exact VW λj q hq=>h (j+1) q (by simpa using hq)
def VX {d:D}:∀{ds:List (D×D)} {j:Nat} {p:D×D},ds[j]?=some p->dJ d p.1=true->(∀(m:Nat) (q:D×D),m<j->ds[m]?=some q->dJ d q.1=false)->eO d ds=some p.2
 |[],j,p,hp,_,_=>by simp at hp
 |x::ds,0,p,hp,hk,_=>by simp at hp;subst hp;simp[eO,hk]
 |x::ds,j+1,p,hp,hk,hm=>by
  simp only[eO,hm 0 x (by omega) rfl];exact VX (j:=j) (by simpa using hp) hk λm q aq hq=>hm (m+1) q (by omega) (by simpa using hq)
def XJ {d v:D}:∀{ds:List (D×D)},(∀(j:Nat) (p:D×D),ds[j]?=some p->dJ d p.1=false)->ez d v ds=ds++[(d,v)]
 |[],_=>rfl
 |p::ds,h=>by simp only[ez,h 0 p rfl,A3,if_false,Rv];rw[XJ λj q hq=>h (j+1) q (by simpa using hq)]
def XK {d v:D}:∀{ds:List (D×D)} {j:Nat} {p:D×D},ds[j]?=some p->dJ d p.1=true->(∀(m:Nat) (q:D×D),m<j->ds[m]?=some q->dJ d q.1=false)->ez d v ds=ds.set j (d,v)
 |[],j,p,hp,_,_=>by simp at hp
 |x::ds,0,p,hp,hk,_=>by simp at hp;subst hp;simp[ez,hk]
 |x::ds,j+1,p,hp,hk,hm=>by
  simp only[ez,hm 0 x (by omega) rfl,A3,if_false,List.set_cons_succ];rw[XK (j:=j) (by simpa using hp) hk λm q aq hq=>hm (m+1) q (by omega) (by simpa using hq)]
def ahV {P:Program}{K:TypeId}{kt:Ty}(hk:Dv P K kt=true):
 ∃k k' e q i,kt=.agg [.int k,.int k']/\P.underlying K=some (.array 2 e)/\P.underlying e=some (.int q)/\P.plainKey e=true/\P.info? e=some i/\P.cellsOf e=1:=by
 unfold Dv at hk;split at hk
 case h_2=>cases hk
 rename_i k k';split at hk
 case h_2=>cases hk
 rename_i n e hu;simp only[aA] at hk;obtain⟨⟨⟨h1,h2⟩,h3⟩,h4⟩:=hk;have hn:=aK h1;subst hn;split at h2
 case h_2=>cases h2
 rename_i q hq;split at h4
 case h_2=>cases h4
 rename_i i hi;exact⟨k,k',e,q,i,rfl,hu,hq,h3,hi,aK h4⟩
def Rep.pair_inv {cap:Nat->Option CSig}{H:Im}{k k':IntKind}{v:Value}{d:D}(h:Rep cap H (.agg [.int k,.int k']) v d):∃a b,v=.agg #[.int k a,.int k' b]/\d=.agg [.v (.int k a),.v (.int k' b)]:=by
 generalize ht:Ty.agg [.int k,.int k']=t at h;cases h with
 |agg ts vs ds h1 h2 h ho=>
  cases ht;obtain⟨x,y,rfl⟩:∃x y,vs=[x,y]:=by
   match vs,h1 with
   |[x,y],_=>exact⟨x,y,rfl⟩
  obtain⟨p,q,rfl⟩:∃x y,ds=[x,y]:=by
   match ds,h2 with
   |[x,y],_=>exact⟨x,y,rfl⟩
  obtain⟨a,e1,e2,_⟩:=(h 0 _ rfl).int_inv;obtain⟨b,e3,e4,_⟩:=(h 1 _ rfl).int_inv;simp at e1 e2 e3 e4;subst e1 e2 e3 e4;exact⟨a,b,rfl,rfl⟩
 |_=>cases ht
def aCm {P:Program}{K e:TypeId}{q:IntKind}{i:TypeInfo}(hu:P.underlying K=some (.array 2 e))(hq:P.underlying e=some (.int q))(hp:P.plainKey e=true)(hi:P.info? e=some i)(hc:P.cellsOf e=1)(k k':IntKind)(a b c d:Int)(w:World):
 (Op.equal K (.agg #[.int k a,.int k' b]) (.agg #[.int k c,.int k' d])).run P w=.ok (a==c&&b==d) w:=by
 unfold Op.equal;show(Op.equalIn (9999+1) K _ _).run P w=_;rw[run_equalIn_array w 9999 _ _ hu hi,hc];have e0:List.range 2=[0,1]:=rfl;have p0:∀(x y:Value) (w:World),(part e #[x,y] 0).run P w=.ok x w:=λx y w=>run_part_plain w hp rfl;have p1:∀(x y:Value) (w:World),(part e #[x,y] 1).run P w=.ok y w:=λx y w=>run_part_plain w hp rfl;have q0:∀(k:IntKind) (a b:Int) (w:World),(Op.equalIn 9999 e (.int k a) (.int k b)).run P w=.ok (a==b) w:=λk a b w=>run_equalIn_int w 9998 e k q a b hq;rw[e0];simp only[Op.eqItems,Sem.run_bind,Nat.zero_mul,J0,p0,p1,Result.andThen_ok,q0];cases a==c
 .simp
 .simp only[Bool.not_true,A3,if_false,Sem.run_bind,p1,Result.andThen_ok,q0];cases b==d<;>simp
def ahU {P:Program}{K:TypeId}{kt:Ty}(hk:xt P K kt=true):rk P K kt=true\/Dv P K kt=true:=by
 unfold xt at hk;simpa using hk
def aqh {cap:Nat->Option CSig}{H:Im}{P:Program}{K:TypeId}{kt:Ty}(hk:Dv P K kt=true){v:Value}{d:D}(hv:Rep cap H kt v d){w:World}{b:Bool}:(Instr.checkKey b 10000 K v).run P w=.ok () w:=by
 obtain⟨k,k',e,q,i,rfl,hu,hq,hp,hi,hc⟩:=ahV hk;obtain⟨x,y,rfl,_⟩:=hv.pair_inv;have p0:∀(x y:Value) (w:World),(part e #[x,y] 0).run P w=.ok x w:=λx y w=>run_part_plain w hp rfl;have p1:∀(x y:Value) (w:World),(part e #[x,y] 1).run P w=.ok y w:=λx y w=>run_part_plain w hp rfl
 have c0:∀(m:Nat) (k:IntKind) (n:Int) (w:World),(Instr.checkKey b (m+1) e (.int k n)).run P w=.ok () w:=λm k n w=>by
  simp[Instr.checkKey,run_underlying hq]
 have s0:∀w:World,(Go.sizeOf e).run P w=Result.ok 1 w:=λw=>by rw[run_sizeOf w hi,hc]
 have main:∀m,(Instr.checkKey b (m+1+1) K (.agg #[.int k x,.int k' y])).run P w=.ok () w:=by
  intro m;rw[Instr.checkKey];simp only[Sem.run_bind,run_underlying hu,Result.andThen_ok,Std.Legacy.Range.forIn_eq_forIn_range',Std.Legacy.Range.size,Nat.sub_zero,Nat.add_one_sub_one,Nat.div_one];simp[List.range',s0,p0,p1,c0,Sem.run_bind,Result.andThen_ok]
 exact main 9998
def ae4 {cap:Nat->Option CSig}{H:Im}{P:Program}{K:TypeId}{kt:Ty}(hk:xt P K kt=true){v:Value}{d:D}(hv:Rep cap H kt v d){w:World}{b:Bool}:(Instr.checkKey b 10000 K v).run P w=.ok () w:=by
 rcases ahU hk with hk|hk
 case inr=>exact aqh hk hv
 have:∀n,(Instr.checkKey b (n+1) K v).run P w=.ok () w:=by
  intro n;rcases VM hk with⟨k,k',rfl,hu⟩|⟨rfl,hu⟩|⟨rfl,hu⟩<;>cases v<;>simp[Instr.checkKey,run_underlying hu]
 exact this 9999
section
variable {C:Ctx} {S:St} {Z:Env} {H:Im} {own:Nat->Option Nat} {hv:Nat->Value} {w0:World} {σ0:Base} {A:Nat->Prop} {a:Act} {w:World} {gs:List (Nat×Bool)} {V:bf} {dst:Nat}
def aw8 {P:Program}{K:TypeId}{kt:Ty}(hk:rk P K kt=true):∃desc,P.underlying K=some desc:=by
 rcases VM hk with⟨k,k',rfl,hu⟩|⟨rfl,hu⟩|⟨rfl,hu⟩<;>exact⟨_,hu⟩
def aCn {cap:Nat->Option CSig}{P:Program}{K:TypeId}{kt et:Ty}(hk:Dv P K kt=true){v:Value}{d:D}(hv:Rep cap H kt v d)(arr:Array MapEntry)(ds:List (D×D))(hl:ds.length=arr.size)
 (bj:∀(j:Nat) (e:MapEntry) (p:D×D),arr[j]?=some e->ds[j]?=some p->Rep cap H kt e.key p.1/\Rep cap H et e.val p.2) (w:World):
 ((Instr.findKey K v arr.toList).run P w=.ok none w/\eO d ds=none/\∀u,ez d u ds=ds++[(d,u)])\/
 ∃j e p,arr[j]?=some e/\ds[j]?=some p/\(Instr.findKey K v arr.toList).run P w=.ok (some (j,e.val)) w/\eO d ds=some p.2/\(∀u,ez d u ds=ds.set j (d,u))/\Instr.sameBits 10000 e.key v=true:=by
 obtain⟨k,k',e,q,i,rfl,hu,hq,hp,hi,hc⟩:=ahV hk;have dA:∀(v':Value) (d':D),Rep cap H (.agg [.int k,.int k']) v' d'->(Op.equal K v v').run P w=.ok (dJ d d') w/\(dJ d d'=true->Instr.sameBits 10000 v' v=true)/\Instr.sameNow (.array 2 e) v v'=none:=by
  intro v' d' h';obtain⟨a,b,rfl,rfl⟩:=hv.pair_inv;obtain⟨a',b',rfl,rfl⟩:=h'.pair_inv;refine⟨?_,λhe=>?_,rfl⟩
  .rw[aCm hu hq hp hi hc];simp[dJ,D.cells,ko,oV]
  .have:a=a'/\b=b':=by simpa [dJ,D.cells,ko,oV] using he
   obtain⟨rfl,rfl⟩:=this;simp[Instr.sameBits]
 have ask:∀(es:List MapEntry) (ds:List (D×D)) (i:Nat),ds.length=es.length->(∀(j:Nat) (e:MapEntry) (p:D×D),es[j]?=some e->ds[j]?=some p->Rep cap H (.agg [.int k,.int k']) e.key p.1)->
  ((Instr.findAsking K v es i).run P w=.ok none w/\∀(j:Nat) (p:D×D),ds[j]?=some p->dJ d p.1=false)\/
  ∃j e p,es[j]?=some e/\ds[j]?=some p/\(Instr.findAsking K v es i).run P w=.ok (some (i+j,e.val)) w/\dJ d p.1=true/\Instr.sameBits 10000 e.key v=true/\∀m q,m<j->ds[m]?=some q->dJ d q.1=false:=by
  intro es
  induction es with
  |nil=>intro ds i hl _;left;exact⟨by simp[Instr.findAsking],by cases ds<;>simp_all⟩
  |cons en es ih=>
   intro ds i hl bj;cases ds with
   |nil=>simp at hl
   |cons p ds=>
    obtain⟨hs,hb,_⟩:=dA en.key p.1 (bj 0 en p rfl rfl);cases oH:dJ d p.1 with
    |true=>
     right;rw[oH] at hs;exact⟨0,en,p,rfl,rfl,by simp[Instr.findAsking,hs],oH,hb oH,λm q hm=>by omega⟩
    |false=>
     rw[oH] at hs;rcases ih ds (i+1) (by simpa using hl) (λj e' p' he hp=>bj (j+1) e' p' (by simpa using he) (by simpa using hp)) with⟨h1,h2⟩|⟨j,e',p',h1,h2,h3,h4,h5,h6⟩
     .left;refine⟨by simp[Instr.findAsking,hs,h1],λj q hq=>?_⟩;cases j with
      |zero=>simp at hq;subst hq;exact oH
      |succ j=>exact h2 j q (by simpa using hq)
     .right;refine⟨j+1,e',p',by simpa using h1,by simpa using h2,?_,h4,h5,λm q hm hq=>?_⟩
      .simp[Instr.findAsking,hs,h3];omega
      .cases m with
       |zero=>simp at hq;subst hq;exact oH
       |succ m=>exact h6 m q (by omega) (by simpa using hq)
 have sC:(Instr.findKey K v arr.toList).run P w=(Instr.findAsking K v arr.toList 0).run P w:=by
  cases mh:arr.toList with
  |nil=>simp[Instr.findKey,run_underlying hu,Instr.findNow,Instr.findAsking]
  |cons en es=>
   obtain⟨p,Dh⟩:∃p,ds[0]?=some p:=by
        have:0<ds.length:=by rw[hl];have:=congrArg List.length mh;simp at this;omega
        exact⟨_,cd this⟩
   have UC:arr[0]?=some en:=by rw[<-Ex,mh];rfl
   have:=(dA en.key p.1 (bj 0 en p UC Dh).1).2.2;simp[Instr.findKey,run_underlying hu,Instr.findNow,this]
 rw[sC];rcases ask arr.toList ds 0 (by simpa using hl) (λj e p he hp=>(bj j e p (by simpa using he) hp).1) with⟨h1,h2⟩|⟨j,e,p,h1,h2,h3,h4,h5,h6⟩
 .left;exact⟨h1,VW h2,λu=>XJ h2⟩
 .right;simp only[jh] at h3;exact⟨j,e,p,by simpa using h1,h2,h3,VX h2 h4 h6,λu=>XK h2 h4 h6,h5⟩
def run_findKey {cap:Nat->Option CSig}{P:Program}{K:TypeId}{kt et:Ty}(gY:xt P K kt=true){v:Value}{d:D}(hv:Rep cap H kt v d)(arr:Array MapEntry)(ds:List (D×D))(hl:ds.length=arr.size)
 (bj:∀(j:Nat) (e:MapEntry) (p:D×D),arr[j]?=some e->ds[j]?=some p->Rep cap H kt e.key p.1/\Rep cap H et e.val p.2) (w:World):
 ((Instr.findKey K v arr.toList).run P w=.ok none w/\eO d ds=none/\∀u,ez d u ds=ds++[(d,u)])\/
 ∃j e p,arr[j]?=some e/\ds[j]?=some p/\(Instr.findKey K v arr.toList).run P w=.ok (some (j,e.val)) w/\eO d ds=some p.2/\(∀u,ez d u ds=ds.set j (d,u))/\Instr.sameBits 10000 e.key v=true:=by
 rcases ahU gY with hk|hk
 case inr=>exact aCn hk hv arr ds hl bj w
 obtain⟨desc,hu⟩:=aw8 hk;rcases ar0 hk hu hv arr.toList ds 0 (by simpa using hl) (λj e p he hp=>(bj j e p (by simpa using he) hp).1) with⟨h1,h2⟩|⟨j,e,p,h1,h2,h3,h4,h5,h6⟩
 .left;exact⟨by simp[Instr.findKey,run_underlying hu,h1],VW h2,λu=>XJ h2⟩
 .right;refine⟨j,e,p,by simpa using h1,h2,?_,VX h2 h4 h6,λu=>XK h2 h4 h6,h5⟩;simp only[jh] at h3;simp[Instr.findKey,run_underlying hu,h3]
def az5 (h:Inv C S Z H own hv w0 σ0 A a w)(hC:CtxOK C σ0)(hg:holds gs Z=true){T:TypeId}{m k:Operand}{ok:Bool}{r:Sh×List PI}(hr:Xr C S gs dst T m k ok=some r){o:Oper}(ho:o.op=.lookup T m k ok):
 ff C S Z H hv V dst a w o r:=by
 unfold Xr at hr;split at hr
 case h_2=>cases hr
 rename_i K E hT;simp only[aJ] at hr;obtain⟨p,hp,q,hq,hr⟩:=hr;have bm:=adR h hC hg hp;have dX:=cM h hC hg hq;split at hr
 case h_2=>cases hr
 rename_i kt et e1;rw[e1] at bm;split at hr
 case h_2=>cases hr
 rename_i z inf hz pV;cases hc:(Ty.beq q.1 kt&&xt C.P K kt&&Ty.sub z.1 et&&vN inf et)<;>simp only[hc,zyv,zyu] at hr
 .cases hr
 simp only[aA] at hc;obtain⟨⟨⟨NH,GF⟩,cZ⟩,hzero⟩:=hc;rw[Ty.beq_eq _ _ NH] at dX;obtain⟨v0,jx,He⟩:∃v0,inf.zero=some v0/\Rep C.cap H et v0 z.2:=by
  unfold vN at hzero;split at hzero
  .rename_i v0 e0;exact⟨v0,e0,(A1 hz hzero).1.sub cZ⟩
  .cases hzero
 have auH:∃(arr:Array MapEntry) (ds:List (D×D)),(p.2.ev Z).m=ds/\ds.length=arr.size/\
  (∀(j:Nat) (e:MapEntry) (p:D×D),arr[j]?=some e->ds[j]?=some p->Rep C.cap H kt e.key p.1/\Rep C.cap H et e.val p.2)/\
  ((a.eval m=.map none/\arr=#[])\/∃g clock,a.eval m=.map (some g)/\w.heap[g]?=some (.map arr clock)):=by
  rcases bm with bm|⟨T',e,cells,xs,ht,_⟩|⟨g,arr,clock,es,kt',et',ht,hvm,hb,hd,hl,hx,bj⟩
  .generalize zV:a.eval m=v at bm;generalize zB:p.2.ev Z=d at bm;cases bm with
   |mapnil=>exact⟨#[],[],by simp[D.m],rfl,by simp,.inl ⟨rfl,rfl⟩⟩
   |map kt et r j0 es hm hl hx hk he=>
    obtain⟨_,arr,clock,hb,mh⟩:=(h.ok.m _ _ hm).resolve_right (λe=>Hz hl hk e.1);have hn:es.length=arr.size:=by rw[hl,<-mh];simp[entriesOf]
    refine⟨arr,es,by simp[D.m],hn,λj e p hj hp=>?_,.inr ⟨r,clock,rfl,hb⟩⟩;have:j0[j]?=some (e.key,e.val):=by rw[<-mh];simp[entriesOf,hj]
    exact⟨hk j _ p this hp,he j _ p this hp⟩
  .cases ht
  .cases ht;exact⟨arr,es,by rw[hd];rfl,hl,bj,.inr ⟨g,clock,hvm,hb⟩⟩
 obtain⟨arr,ds,hd,hl,bj,cV⟩:=auH;have gh:∀b,(Instr.checkKey b 10000 K (a.eval k)).run C.P w=.ok () w:=λb=>ae4 (cap:=C.cap) (H:=H) GF dX;have UY:∃u b x,(Instr.lookup T (a.eval m) (a.eval k) ok).run C.P w=.ok (if ok then .tuple #[u,.bool b] else u) w/\(eO (q.2.ev Z) (p.2.ev Z).m).getD z.2=x/\(eO (q.2.ev Z) (p.2.ev Z).m).isSome=b/\Rep C.cap H et u x:=by
  rw[hd];rcases run_findKey GF dX arr ds hl bj w with⟨h1,h2,_⟩|⟨j,e,x,h1,h2,h3,h4,_,_⟩
  .refine⟨v0,false,z.2,?_,by rw[h2];rfl,by rw[h2];rfl,He⟩;rcases cV with⟨em,rfl⟩|⟨g,clock,em,hb⟩
   .simp only[List.toList_toArray] at h1;cases ok<;>simp[Instr.lookup,run_underlying hT,em,gh,h1,zeroValue,run_typeInfo w pV,jx]
   .cases ok<;>simp[Instr.lookup,run_underlying hT,em,getObj,Sem.run,hb,gh,h1,zeroValue,run_typeInfo w pV,jx]
  .refine⟨e.val,true,x.2,?_,by rw[h4];rfl,by rw[h4];rfl,(bj j e x h1 h2).2⟩;rcases cV with⟨em,rfl⟩|⟨g,clock,em,hb⟩
   .simp at h1
   .cases ok<;>simp[Instr.lookup,run_underlying hT,em,getObj,Sem.run,hb,gh,h3]
 obtain⟨u,b,x,az,jQ,uT,cG⟩:=UY;cases ok with
 |true=>
  simp only[zyv] at hr;cases hr;refine .dat (v:=.tuple #[u,.bool b]) (by simp[execOp,ho,az]) ?_;simp only[PE.ev,PE.evs,jQ,uT];refine .tup [et,.bool] [u,.bool b] [x,.v (.bool b)] rfl rfl (λi t hi=>?_)
  match i,hi with
  |0,hi=>simp at hi;subst hi;exact cG
  |1,hi=>simp at hi;subst hi;exact .bool b
  |i+2,hi=>simp at hi
 |false=>
  simp only[zyu] at hr;cases hr;refine .dat (v:=u) (by simp[execOp,ho,az]) ?_;simp only[PE.ev,jQ];exact cG
end
def afQ (off:Nat):∀(l:List Value) (s:Nat) (cells:Array Value),off+s+l.length<=cells.size->
 ((l.zipIdx s).foldl (λcs (x:Value×Nat)=>cs.setIfInBounds (off+x.2) x.1) cells).size=cells.size/\
 ∀p,((l.zipIdx s).foldl (λcs (x:Value×Nat)=>cs.setIfInBounds (off+x.2) x.1) cells)[p]?=if off+s<=p/\p<off+s+l.length then l[p-(off+s)]? else cells[p]?
 |[],s,cells,_=>by
  refine⟨rfl,λp=>?_⟩;have:¬(off+s<=p/\p<off+s+0):=by omega
  simp only[List.zipIdx_nil,List.foldl_nil,sc];rw[if_neg this]
 |v::l,s,cells,h=>by
  simp only[nM] at h;obtain⟨h1,h2⟩:=afQ off l (s+1) (cells.setIfInBounds (off+s) v) (by simp;omega);simp only[List.zipIdx_cons,A8];refine⟨by rw[h1];simp,λp=>?_⟩;rw[h2 p];by_cases hp:p=off+s
  .subst hp;have c1:¬(off+(s+1)<=off+s/\off+s<off+(s+1)+l.length):=by omega
   have c2:off+s<=off+s/\off+s<off+s+(v::l).length:=by simp
   rw[if_neg c1,if_pos c2,Ew,if_pos rfl,if_pos (by omega)];simp
  .by_cases hc:off+(s+1)<=p/\p<off+(s+1)+l.length
   .have c2:off+s<=p/\p<off+s+(v::l).length:=by simp only[nM];omega
    rw[if_pos hc,if_pos c2];rw[show p-(off+s)=(p-(off+(s+1)))+1 by omega];simp
   .have c2:¬(off+s<=p/\p<off+s+(v::l).length):=by simp only[nM];omega
    rw[if_neg hc,if_neg c2,Ew];rw[if_neg (by omega)]
def TQ (place:Nat->Option (Nat×Nat)):∀(parts:List (Nat×Value)) (cells:Array Value),
 (∀p,p∈parts->∃o,place p.1=some (o,p.2.cells.size)/\o+p.2.cells.size<=cells.size)->
 (∀i j oi si oj sj,i≠j->place i=some (oi,si)->place j=some (oj,sj)->oi+si<=oj\/oj+sj<=oi)->(parts.map (·.1)).Nodup->
 ∃fQ,Instr.fill place cells parts=some fQ/\fQ.size=cells.size/\
  (∀i v o,(i,v)∈parts->place i=some (o,v.cells.size)->∀m,m<v.cells.size->fQ[o+m]?=v.cells[m]?)/\
  (∀i o s,i∉parts.map (·.1)->place i=some (o,s)->∀m,m<s->fQ[o+m]?=cells[o+m]?)
 |[],cells,_,_,_=>⟨cells,rfl,rfl,by simp,λ_ _ _ _ _ _ _=>rfl⟩
 |(i,v)::parts,cells,h,C1,bX=>by
  obtain⟨o,hp,hle⟩:=h (i,v) (gy ..);simp only at hp hle;obtain⟨g1,g2⟩:=afQ o v.cells.toList 0 cells (by simp;omega);simp only[j6,vQ] at bX
  have hz:v.cells.zipIdx.foldl (λcs (x:Value×Nat)=>cs.setIfInBounds (o+x.2) x.1) cells=(v.cells.toList.zipIdx 0).foldl (λcs (x:Value×Nat)=>cs.setIfInBounds (o+x.2) x.1) cells:=by
    rw[<-Array.foldl_toList];simp
  generalize hc1:(v.cells.toList.zipIdx 0).foldl (λcs (x:Value×Nat)=>cs.setIfInBounds (o+x.2) x.1) cells=c1 at g1 g2 hz
  obtain⟨fQ,k1,k2,k3,k4⟩:=TQ place parts c1 (λp hm=>by
    obtain⟨o',h1,h2⟩:=h p (fY _ hm);exact⟨o',h1,by rw[g1];exact h2⟩) C1 bX.2
  refine⟨fQ,?_,k2.trans g1,?_,?_⟩
  .simp only[Instr.fill,hp];have:¬((v.cells.size≠v.cells.size||decide (o+v.cells.size>cells.size))=true):=by simp;omega
   rw[if_neg this];rw[<-k1,<-hz]
  .intro j u o' hm Di m aq;rcases dG.1 hm with e|cP
   .cases e;rw[hp] at Di;cases Di;rw[k4 i o v.cells.size bX.1 hp m aq,g2];rw[if_pos (by simp;omega)];simp
   .exact k3 j u o' cP Di m aq
  .intro j o' s' oM Di m aq;simp only[j6,dG,not_or] at oM;rw[k4 j o' s' oM.2 Di m aq,g2];have:=C1 i j o v.cells.size o' s' (λe=>oM.1 e.symm) hp Di;rw[if_neg (by simp;omega)]
section
variable {C:Ctx} {S:St} {Z:Env} {H:Im} {own:Nat->Option Nat} {hv:Nat->Value} {w0:World} {σ0:Base} {A:Nat->Prop} {a:Act} {w:World} {gs:List (Nat×Bool)} {V:bf} {dst:Nat}
def Rep.flat {cap:Nat->Option CSig}{t:Ty}{v:Value}{d:D}(h:Rep cap H t v d)(ht:t.rowT=true\/t.one=true):
 t.flat.length=t.size/\d.cells.length=t.size/\∀(m:Nat) (tm:Ty),t.flat[m]?=some tm->tm.one=true/\Rep cap H tm (v.cells.getD m undef) (d.cells.getD m .none):=by
 cases h with
 |agg ts vs ds h1 h2 h ho=>
  refine⟨rfl,by simp[D.cells,Ty.size,h2],λm tm hm=>⟨ho m tm hm,?_⟩⟩;have:=h m tm hm;simpa [Value.cells,D.cells,iK,bn] using this
 |tup ts vs ds h1 h2 h=>simp[Ty.rowT,Ty.one] at ht
 |_=>
  refine⟨rfl,rfl,λm tm hm=>?_⟩
  match m,hm with
  |0,hm=>
   simp only[Ty.flat,Rx,bx] at hm;subst hm;refine⟨rfl,?_⟩;simp only[Value.cells,D.cells,yM];constructor<;>assumption
  |m+1,hm=>simp[Ty.flat] at hm
def va:∀{l:List Nat},nm l=true->l.Nodup
 |[],_=>List.nodup_nil
 |a::r,h=>by
  simp only[nm,aA,lY] at h;refine vQ.2 ⟨λhm=>?_,va h.2⟩;have:=Ru.1 h.1 a hm;simp at this
def Laid (P:Program):List Field->Nat->Prop
 |[],_=>True
 |f::fs,off=>f.offset=off/\∃inf,P.info? f.type=some inf/\Laid P fs (off+inf.size)
def Laid.get {P:Program}:∀{fs:List Field} {off:Nat},Laid P fs off->∀(i:Nat) (f:Field),fs[i]?=some f->∃inf,P.info? f.type=some inf/\off<=f.offset/\
 ∀(j:Nat) (g:Field),i<j->fs[j]?=some g->f.offset+inf.size<=g.offset
 |[],_,_,i,f,hi=>by simp at hi
 |f0::fs,off,h,i,f,hi=>by
  obtain⟨h1,inf,h2,h3⟩:=h;cases i with
  |zero=>
   simp at hi;subst hi;refine⟨inf,h2,by omega,λj g hj hg=>?_⟩;cases j with
   |zero=>omega
   |succ j=>obtain⟨_,_,h4,_⟩:=h3.get j g (by simpa using hg);omega
  |succ i=>
   simp at hi;obtain⟨awQ,k1,k2,k3⟩:=h3.get i f hi;refine⟨awQ,k1,by omega,λj g hj hg=>?_⟩;cases j with
   |zero=>omega
   |succ j=>exact k3 j g (by omega) (by simpa using hg)
def apZ {zs:List Value}{parts:List (Nat×Operand)}:∀(fs:List Field) (i off:Nat) (r:List Ty×List PE),nS C S gs zs parts fs i off=some r->Laid C.P fs off:=by
 intro fs
 induction fs with
 |nil=>intro i off r _;trivial
 |cons f fs ih=>
  intro i off r h;simp only[nS] at h;split at h
  case h_2=>cases h
  rename_i inf ft hi ht;cases hc:(Nat.beq f.offset off&&Nat.beq inf.size ft.size)<;>simp only[hc,zyv,zyu] at h
  .cases h
  simp only[aA] at hc;simp only[aJ] at h;obtain⟨q,hq,_⟩:=h;exact⟨aK hc.1,inf,hi,ih _ _ _ hq⟩
def aeX {zs:List Value}{parts:List (Nat×Operand)}:∀(fs:List Field) (i off:Nat) (r:List Ty×List PE),nS C S gs zs parts fs i off=some r->off<=zs.length:=by
 intro fs
 induction fs with
 |nil=>intro i off r h;simp only[nS] at h;cases hb:Nat.beq off zs.length<;>simp[hb] at h;exact Nat.le_of_eq (aK hb)
 |cons f fs ih=>
  intro i off r h;simp only[nS] at h;split at h
  case h_2=>cases h
  rename_i inf ft hi ht;cases hc:(Nat.beq f.offset off&&Nat.beq inf.size ft.size)<;>simp only[hc,zyv,zyu] at h
  .cases h
  simp only[aJ] at h;obtain⟨q,hq,_⟩:=h;have:=ih _ _ _ hq;omega
def apY {zs:List Value}{parts:List (Nat×Operand)}:∀(fs:List Field) (i off:Nat) (r:List Ty×List PE),nS C S gs zs parts fs i off=some r->
 ∃ft:List Ty×List PE,r=ft/\(∀(m:Nat) (f:Field) (inf:TypeInfo),fs[m]?=some f->C.P.info? f.type=some inf->f.offset+inf.size<=zs.length)/\(∀(m:Nat) (x:Nat×Operand) (f:Field) (inf:TypeInfo),fs[m]?=some f->C.P.info? f.type=some inf->parts.find? (λp=>Nat.beq p.1 (i+m))=some x->∃y ft,use C S gs x.2=some y/\Ty.sub y.1 ft=true/\ft.size=inf.size)/\off+r.1.length=zs.length:=by
 intro fs
 induction fs with
 |nil=>intro i off r h;simp only[nS] at h;cases hb:Nat.beq off zs.length<;>simp[hb] at h;subst h;exact⟨_,rfl,by simp,by simp,by simpa using aK hb⟩
 |cons f fs ih=>
  intro i off r h;simp only[nS] at h;split at h
  case h_2=>cases h
  rename_i inf ft hi ht;cases hc:(Nat.beq f.offset off&&Nat.beq inf.size ft.size)<;>simp only[hc,zyv,zyu] at h
  .cases h
  simp only[aA] at hc;have jP:=aK hc.1;have bp:=aK hc.2;simp only[aJ] at h;obtain⟨q,hq,h⟩:=h;have hle:=aeX _ _ _ _ hq;obtain⟨_,rfl,k1,k2,k3⟩:=ih _ _ _ hq;have e1:∀(m:Nat) (g:Field) (ig:TypeInfo),(f::fs)[m]?=some g->C.P.info? g.type=some ig->g.offset+ig.size<=zs.length:=by
   intro m g ig hm gF;cases m with
   |zero=>simp at hm;subst hm;rw[hi] at gF;cases gF;omega
   |succ m=>exact k1 m g ig (by simpa using hm) gF
  have afP:∀t:Ty,t.flat.length=t.size:=λt=>by cases t<;>simp[Ty.flat,Ty.size]
  split at h
  .rename_i x hx;simp only[aJ] at h;obtain⟨y,hy,h⟩:=h;cases hs:(Ty.sub y.1 ft&&(y.1.rowT||y.1.one))<;>simp only[hs,zyv,zyu] at h
   .cases h
   cases h;simp only[aA] at hs;refine⟨_,rfl,e1,λm x' g ig hm gF hf=>?_,?_⟩
   .cases m with
    |zero=>
     simp at hm;subst hm;rw[hi] at gF;cases gF;simp only[qE] at hf;rw[hx] at hf;cases hf;exact⟨y,ft,hy,hs.1,bp.symm⟩
    |succ m=>exact k2 m x' g ig (by simpa using hm) gF (by rwa [show i+(m+1)=i+1+m by omega] at hf)
   .have:=(Ty.sub_one _ _ hs.1).2;simp only[nL,afP];omega
  .rename_i hx;cases ng:j2 ft (rowOf ft.rowT ((zs.drop off).take inf.size))<;>simp only[ng,zyv,zyu] at h
   .cases h
   simp only[aT] at h;obtain⟨z,hz,rfl⟩:=h;have dq:=(A1 (cap:=C.cap) (H:=⟨λ_ _=>none,λ_=>none⟩) hz ng).2.1;refine⟨_,rfl,e1,λm x' g ig hm gF hf=>?_,?_⟩
   .cases m with
    |zero=>simp only[qE] at hf;rw[hx] at hf;cases hf
    |succ m=>exact k2 m x' g ig (by simpa using hm) gF (by rwa [show i+(m+1)=i+1+m by omega] at hf)
   .have:=(Ty.sub_one _ _ dq).2;simp only[nL,afP];omega
def ap0 (h:Inv C S Z H own hv w0 σ0 A a w)(hC:CtxOK C σ0)(hg:holds gs Z=true){zs:List Value}{parts:List (Nat×Operand)}(cells:Array Value):
 ∀(fs:List Field) (i off:Nat) (r:List Ty×List PE),nS C S gs zs parts fs i off=some r->
  (∀(m:Nat) (f:Field) (inf:TypeInfo),fs[m]?=some f->C.P.info? f.type=some inf->
        (∀x,parts.find? (λp=>Nat.beq p.1 (i+m))=some x->∀q,q<inf.size->cells[f.offset+q]?=(a.eval x.2).cells[q]?)/\
        (parts.find? (λp=>Nat.beq p.1 (i+m))=none->∀q,q<inf.size->cells[f.offset+q]?=zs[f.offset+q]?))->
  (PE.evc Z r.2).length=r.1.length/\∀(m:Nat) (t:Ty),r.1[m]?=some t->t.one=true/\Rep C.cap H t (cells.getD (off+m) undef) ((PE.evc Z r.2).getD m .none):=by
 intro fs
 induction fs with
 |nil=>intro i off r hr _;simp only[nS] at hr;cases hb:Nat.beq off zs.length<;>simp[hb] at hr;subst hr;simp[PE.evc]
 |cons f fs ih=>
  intro i off r hr bj;simp only[nS] at hr;split at hr
  case h_2=>cases hr
  rename_i inf ft hi ht;cases hc:(Nat.beq f.offset off&&Nat.beq inf.size ft.size)<;>simp only[hc,zyv,zyu] at hr
  .cases hr
  simp only[aA] at hc;have jP:=aK hc.1;have bp:=aK hc.2;simp only[aJ] at hr;obtain⟨q,hq,hr⟩:=hr
  obtain⟨l1,xc⟩:=ih (i+1) (off+inf.size) q hq (λm g awR hm gF=>by
   have:=bj (m+1) g awR (by simpa using hm) gF
   rwa [show i+(m+1)=i+1+m by omega] at this)
  obtain⟨hp,hn⟩:=bj 0 f inf rfl hi;have join:∀(t:Ty) (v:Value) (d:D) (pe:PE),Rep C.cap H t v d->(t.rowT=true\/t.one=true)->pe.ev Z=d->t.size=inf.size->(∀m,m<inf.size->cells[f.offset+m]?=v.cells[m]?)->
        (PE.evc Z (pe::q.2)).length=(t.flat++q.1).length/\∀(m:Nat) (t':Ty),(t.flat++q.1)[m]?=some t'->t'.one=true/\Rep C.cap H t' (cells.getD (off+m) undef) ((PE.evc Z (pe::q.2)).getD m .none):=by
   intro t v d pe cG iV wX N1 bG;obtain⟨f1,f2,f3⟩:=cG.flat iV;simp only[PE.evc,wX];refine⟨by simp[f1,f2,l1],λm t' hm=>?_⟩;rw[nK] at hm;split at hm
   .rename_i aq;obtain⟨g1,g2⟩:=f3 m t' hm;refine⟨g1,?_⟩;have e1:cells.getD (off+m) undef=v.cells.getD m undef:=by
     rw[iK,iK,<-jP,bG m (by omega)]
    have e2:(d.cells++PE.evc Z q.2).getD m .none=d.cells.getD m .none:=by
     rw[bn,bn,tW (by omega)]
    rw[e1,e2];exact g2
   .rename_i iS;obtain⟨g1,g2⟩:=xc _ t' hm;refine⟨g1,?_⟩;have e1:off+inf.size+(m-t.flat.length)=off+m:=by omega
    have e2:(d.cells++PE.evc Z q.2).getD m .none=(PE.evc Z q.2).getD (m-t.flat.length) .none:=by
     rw[bn,bn,rY (by omega)];rw[f1,<-f2]
    rw[e1] at g2;rw[e2];exact g2
  simp only[qE] at hp hn;split at hr
  .rename_i x hx;simp only[aJ] at hr;obtain⟨y,hy,hr⟩:=hr;cases hs:(Ty.sub y.1 ft&&(y.1.rowT||y.1.one))<;>simp only[hs,zyv,zyu] at hr
   .cases hr
   cases hr;simp only[aA,lZ] at hs;exact join y.1 _ _ y.2 (cM h hC hg hy) hs.2 rfl (by rw[(Ty.sub_one _ _ hs.1).2,bp]) (hp x hx)
  .rename_i hx;cases ng:j2 ft (rowOf ft.rowT ((zs.drop off).take inf.size))<;>simp only[ng,zyv,zyu] at hr
   .cases hr
   simp only[aT] at hr;obtain⟨z,hz,rfl⟩:=hr;obtain⟨k1,k2,k3⟩:=A1 (cap:=C.cap) (H:=H) hz ng;have wW:(rowOf ft.rowT ((zs.drop off).take inf.size)).cells.size=inf.size:=by rw[k1.size,(Ty.sub_one _ _ k2).2,bp]
   refine join z.1 _ z.2 (.con z.2) k1 ?_ rfl (by rw[(Ty.sub_one _ _ k2).2,bp]) (λm hm=>?_)
   .cases ft<;>simp[qz,rU] at hz<;>first|(subst hz;simp[Ty.one])|(obtain⟨_,_,rfl⟩:=hz;simp[Ty.rowT])
   .rw[hn hx m hm,jP];cases uQ:ft.rowT with
    |true=>simp[rowOf,Value.cells,iL,je,hm]
    |false=>
     rw[uQ] at wW k1;have h1:(z.1).rowT=false:=by
       have:=(Ty.sub_one _ _ k2)
       cases ft<;>simp[Ty.rowT] at uQ<;>simp[qz,rU] at hz<;>subst hz<;>rfl
     rw[k1.cells1 h1] at wW ⊢;simp at wW;have hm0:m=0:=by omega
     subst hm0;have:∃u,zs[off]?=some u:=⟨_,cd (show off<zs.length by have:=aeX _ _ _ _ hq;omega)⟩
     simp[rowOf,bn,iL,je,<-wW];obtain⟨u,hu⟩:=this;simp[hu]
def ah1 {P:Program}:∀(fs:List Field) (off:Nat),Laid P fs off->
 ∃l:List (Nat×Nat),fs.mapM (λf=>(P.info? f.type).map λi=>(f.offset,i.size))=some l/\l.length=fs.length/\
  ∀(i:Nat) (f:Field) (inf:TypeInfo),fs[i]?=some f->P.info? f.type=some inf->l[i]?=some (f.offset,inf.size)
 |[],_,_=>⟨[],rfl,rfl,by simp⟩
 |f::fs,off,h=>by
  obtain⟨h1,inf,h2,h3⟩:=h;obtain⟨l,k1,k2,k3⟩:=ah1 fs _ h3;refine⟨(f.offset,inf.size)::l,?_,by simp[k2],λi g ig hi gF=>?_⟩
  .simp[aeg,h2,k1]
  .cases i with
   |zero=>simp at hi;subst hi;rw[h2] at gF;cases gF;rfl
   |succ i=>simp at hi;simpa using k3 i g ig hi gF
def afN {parts:List (Nat×Operand)}(bX:(parts.map (·.1)).Nodup){i:Nat}{x:Operand}(h:(i,x)∈parts):parts.find? (λp=>Nat.beq p.1 i)=some (i,x):=by
 induction parts with
 |nil=>cases h
 |cons p ps ih=>
  simp only[j6,vQ] at bX;rcases dG.1 h with e|hm
  .subst e;simp
  .have:¬p.1=i:=λe=>bX.1 (e▸List.mem_map_of_mem (f:=(·.1)) hm);rw[List.find?_cons_of_neg (by simpa using this)];exact ih bX.2 hm
def azV (h:Inv C S Z H own hv w0 σ0 A a w)(hC:CtxOK C σ0)(hg:holds gs Z=true){T:TypeId}{ps:Array (Nat×Operand)}{r:Sh×List PI}(hr:Xi C S gs dst T ps.toList=some r){o:Oper}(ho:o.op=.build T ps):
 ff C S Z H hv V dst a w o r:=by
 unfold Xi at hr;split at hr
 case h_3=>cases hr
 case h_2=>
  rename_i n e inf hT pV;split at hr
  case h_2=>cases hr
  rename_i zs ie hz hie;split at hr
  case h_2=>cases hr
  rename_i x y zO;simp only[aJ] at hr;obtain⟨p,hp,q,hq,hr⟩:=hr;split at hr
  case h_2=>cases hr
  rename_i k k' hk bu;cases hc:(Nat.beq n 2&&Nat.beq zs.size 2&&Nat.beq ie.size 1)<;>simp only[hc,zyv,zyu] at hr
  .cases hr
  cases hr;simp only[aA] at hc;obtain⟨⟨c1,c2⟩,c3⟩:=hc;have c1:=aK c1;have c2:=aK c2;have c3:=aK c3;subst c1;have hx:=cM h hC hg hp;have hy:=cM h hC hg hq;rw[hk] at hx;rw[bu] at hy;obtain⟨a1,TH,ea2,_⟩:=hx.int_inv;obtain⟨b1,TI,eb2,_⟩:=hy.int_inv;have avU:ps=#[(0,x),(1,y)]:=by rw[<-yI];exact zO
  obtain⟨z0,z1,rfl⟩:∃z0 z1,zs=#[z0,z1]:=by
   match zs,c2 with
   |⟨[z0,z1]⟩,_=>exact⟨z0,z1,rfl⟩
  have Uo:C.P.built T [(0,a.eval x),(1,a.eval y)]=some #[a.eval x,a.eval y]:=by
   rw[TH,TI];simp only[Program.built,pV,hT,hz,hie,c3];simp[Instr.fill,Value.cells]
  have az:(execOp a.eval o).run C.P w=.ok (.value (.agg #[a.eval x,a.eval y])) w:=by
   have:=run_build (P:=C.P) w T (ps.map λ(x:Nat×Operand)=>(x.1,a.eval x.2)) #[a.eval x,a.eval y] (by rw[avU];simpa using Uo);simp[execOp,ho,this]
  refine .dat az ?_;have e1:(PE.mk [p.2,q.2]).ev Z=.agg [p.2.ev Z,q.2.ev Z]:=by simp[PE.ev,PE.evc,ea2,eb2,D.cells]
  rw[e1];refine .agg _ [a.eval x,a.eval y] _ rfl rfl (λi t hi=>?_) (λi t hi=>?_)
  .match i,hi with
   |0,hi=>simp at hi;subst hi;rw[hk];simpa using hx
   |1,hi=>simp at hi;subst hi;rw[bu];simpa using hy
   |i+2,hi=>simp at hi
  .match i,hi with
   |0,hi=>simp at hi;subst hi;rw[hk];rfl
   |1,hi=>simp at hi;subst hi;rw[bu];rfl
   |i+2,hi=>simp at hi
 rename_i fs inf hT pV;split at hr
 case h_2=>cases hr
 rename_i zs hz;cases hc:(nm (ps.toList.map (·.1))&&ps.toList.all (λp=>Nat.blt p.1 fs.size))<;>simp only[hc,zyv,zyu] at hr
 .cases hr
 simp only[aA] at hc;obtain⟨bX,aq⟩:=hc;simp only[aT] at hr;obtain⟨q,hq,rfl⟩:=hr;have NI:=apZ _ _ _ _ hq;have m9:=va bX;obtain⟨_,rfl,cj,awz,Gs⟩:=apY _ _ _ _ hq;obtain⟨pl,eL,aMU,GQ⟩:=ah1 _ _ NI
 have sM:∀p,p∈(ps.toList.map λ(x:Nat×Operand)=>(x.1,a.eval x.2))->∃o,pl.toArray[p.1]?=some (o,p.2.cells.size)/\o+p.2.cells.size<=zs.size:=by
  intro p hp;obtain⟨x,hx,rfl⟩:=fF.1 hp;have Aa:x.1<fs.toList.length:=by
   have:=fe.1 aq x hx;have h2:x.1<fs.size:=by simpa [qF] using this
   simpa using h2
  obtain⟨f,hf⟩:∃f,fs.toList[x.1]?=some f:=⟨_,cd Aa⟩
  obtain⟨ig,gF,_,_⟩:=NI.get _ _ hf;have Gw:=afN m9 (i:=x.1) (x:=x.2) hx;obtain⟨y,ft,hy,cZ,bp⟩:=awz x.1 (x.1,x.2) f ig hf gF (by simpa using Gw);have Dn:=(cM h hC hg hy).size;rw[(Ty.sub_one _ _ cZ).2,bp] at Dn;simp only;refine⟨f.offset,?_,?_⟩
  .rw[Dn];simpa using GQ x.1 f ig hf gF
  .rw[Dn];simpa using cj x.1 f ig hf gF
 have C1:∀(i j oi si oj sj:Nat),i≠j->pl.toArray[i]?=some (oi,si)->pl.toArray[j]?=some (oj,sj)->oi+si<=oj\/oj+sj<=oi:=by
  intro i j oi si oj sj aI hi hj;simp only[JS] at hi hj;obtain⟨f,hf⟩:∃f,fs.toList[i]?=some f:=⟨_,cd (by have:=(jF.1 hi).1;omega)⟩
  obtain⟨g,C6⟩:∃g,fs.toList[j]?=some g:=⟨_,cd (by have:=(jF.1 hj).1;omega)⟩
  obtain⟨ig,gF,_,avk⟩:=NI.get _ _ hf;obtain⟨jg,hjg,_,avl⟩:=NI.get _ _ C6;rw[GQ i f ig hf gF] at hi;rw[GQ j g jg C6 hjg] at hj;cases hi;cases hj;rcases JZ i j with aq|iS
  .exact .inl (avk j g aq C6)
  .exact .inr (avl i f (by omega) hf)
 obtain⟨fQ,f1,f2,f3,f4⟩:=TQ (pl.toArray[·]?) (ps.toList.map λ(x:Nat×Operand)=>(x.1,a.eval x.2)) zs sM C1 (by simpa [Rp] using m9)
 have Uo:C.P.built T (ps.toList.map λ(x:Nat×Operand)=>(x.1,a.eval x.2))=some fQ:=by
  simp only[Program.built,pV,hT,hz,eL];exact f1
 have az:(execOp a.eval o).run C.P w=.ok (.value (.agg fQ)) w:=by
  have:=run_build (P:=C.P) w T (ps.map λ(x:Nat×Operand)=>(x.1,a.eval x.2)) fQ (by rw[JK];exact Uo);simp[execOp,ho,this]
 refine .dat az ?_;have zA:∀(m:Nat) (f:Field) (ig:TypeInfo),fs.toList[m]?=some f->C.P.info? f.type=some ig->
  (∀x,ps.toList.find? (λp=>Nat.beq p.1 (0+m))=some x->∀q,q<ig.size->fQ[f.offset+q]?=(a.eval x.2).cells[q]?)/\
  (ps.toList.find? (λp=>Nat.beq p.1 (0+m))=none->∀q,q<ig.size->fQ[f.offset+q]?=zs.toList[f.offset+q]?):=by
  intro m f ig hm gF;refine⟨λx hx p hp=>?_,λhx p hp=>?_⟩
  .have jQ:x.1=m:=by have:=Rw hx;simpa using this
   have Dt:(x.1,a.eval x.2)∈(ps.toList.map λ(x:Nat×Operand)=>(x.1,a.eval x.2)):=fF.2 ⟨x,Bc hx,rfl⟩;obtain⟨o',gj,hle⟩:=sM _ Dt;simp only at gj hle;have ahd:=GQ m f ig hm gF;simp only[JS,jQ] at gj;rw[ahd] at gj;simp only[bx,pJ] at gj;obtain⟨e1,e2⟩:=gj;exact f3 x.1 (a.eval x.2) f.offset Dt (by simp[jQ,ahd,<-e2]) p (by omega)
  .have oM:m∉(ps.toList.map λ(x:Nat×Operand)=>(x.1,a.eval x.2)).map (·.1):=by
        intro cY;simp only[Ry,fF,Rp] at cY;obtain⟨x,Dt,e⟩:=cY;have:=tV.1 hx x Dt;simp[e] at this
   rw[f4 m f.offset ig.size oM (by simpa using GQ m f ig hm gF) p hp];simp
 obtain⟨l1,bj⟩:=ap0 h hC hg fQ _ _ _ _ hq zA
 .simp only[PE.ev];have:fQ=fQ.toList.toArray:=by simp
  rw[this];have hlen:fQ.toList.length=q.1.length:=by simp[f2] at Gs ⊢;omega
  refine .agg _ _ _ hlen l1 (λi t hi=>?_) (λi t hi=>(bj i t hi).1);have:=(bj i t hi).2;simpa [iK,bn] using this
end
end Cx
