/-
  Shared texts of this claim.
-/
import Derived.Test.YtbemlocmcgcbdaaGreatDoorKAB
import Derived.Laws.OwnMore
import Derived.Lib.ConvBytes
set_option linter.defProp false
set_option linter.unusedSimpArgs false
set_option linter.unusedVariables false
namespace Cx
open Go Go.RowKit
section
variable {C:Ctx} {S:St} {O:Env} {V:Im} {own:Nat->Option Nat} {hv:Nat->Value} {w0:World} {σ0:Base} {A:Nat->Prop} {a:Act} {w:World} {gs:List (Nat×Bool)} {Z:aO} {dst:Nat}
def xr {j:Nat}{e:PE}{O':Env}(h:PI.runs Z [.setO j e] O=some O'):O'=O.setO j (e.ev O):=by
 simp[PI.runs,PI.run] at h;exact h.symm
def vq {O':Env}(h:PI.runs Z [] O=some O'):O'=O:=by
 simp[PI.runs] at h;exact h.symm
def Ja (C:Ctx)(w0:World)(σ0:Base)(Z:aO)(S:St)(O:Env)(A:Nat->Prop)(a:Act)(w:World)(r:St×List PI):Prop:=
 ∀O',PI.runs Z r.2 O=some O'->Good C w0 σ0 r.1 O' A a w
def aqC (h:Inv C S O V own hv w0 σ0 A a w){b:Nat}{r:St×List PI}(hr:FB S b=some r):Ja C w0 σ0 Z S O A a w r:=by
 unfold FB at hr;split at hr
 case h_2=>cases hr
 rename_i ag shs eo;simp only[az] at hr;obtain⟨x,hx,hr⟩:=hr;have bt:=h.objs b;rw[eo] at bt;obtain⟨k,cs,T,ds,h1,h2,h3,h4,h5,h6,h7⟩:=bt;obtain⟨l1,es,⟨he,oA⟩,l2,bK⟩:=QW (b:=.o b) h (cs:=cs.toList) h5 shs 0 x (λm s hm=>by rw[Cw,ke];exact(h7 m s hm).2) hx
 let V':Im:={c:=λk' o=>if k'=k then cs[o]? else V.c k' o,m:=V.m}
 have hle:V.le V':=by
  refine⟨λk' o v hc=>?_,λk es hc=>hc⟩;have:k'≠k:=λe=>by subst e;rw[(h.owns k' b h2).2.2.1 o] at hc;cases hc
  simp[V',this,hc]
 have key:∀(t:Ty) (v:Value) (d:D),Rep C.cap V' t v d->(∀(i:Nat) (u:Value),v.cells[i]?=some u->cs[i]?=some u)->
  Inv C (S.setO b (.fbox t)) (O.setO b d) V' (λk'=>if k'=k then none else own k') hv w0 σ0 A a w:=by
  intro t v d hrv bh
  refine h.step (λi=>i=b) rfl hle ?_ (λk' o x hx=>?_) (λ_ _ hx=>.inl hx) (.refl _ _) ⟨λ_=>aZ _,λ_ _=>rfl⟩ (λi hi=>⟨?_,?_,rfl,λk' hk=>⟨?_,rfl⟩⟩) (λi hi=>?_) (λk' i hk=>?_) (λ_=>id) (λt=>.inl ⟨rfl,rfl,rfl⟩) (λ_ _=>rfl) (λ_ _ _=>rfl) (λk' i hk=>by
        split at hk
        .cases hk
        .exact .inl ⟨i,hk⟩) (λi hi=>by subst hi;simp[St.setO,aS])
  .refine⟨λk' o v hc=>?_,h.ok.m,λk' o v hc=>?_⟩
   all_goals simp only[V'] at hc
   all_goals split at hc
   .rename_i e;subst e;simp[World.cell?,h3,hc]
   .exact h.ok.c k' o v hc
   .rename_i e;subst e;exact .inr (akq h3 o)
   .exact h.ok.f k' o v hc
  .simp only[V'] at hx;split at hx
   .rename_i e;subst e;exact .inr ⟨(h.owns k' b h2).1,.inl ⟨b,h2⟩⟩
   .exact .inl hx
  .simp[St.setO,bJ _ _ hi]
  .simp[Env.setO,bJ _ _ hi]
  .have:k'≠k:=λe=>by subst e;rw[h2] at hk;simp at hk;exact hi hk.symm
   simp[this,hk]
  .subst hi;simp only[St.setO,aS];exact⟨k,v,h1,by simp only[Env.setO,aS];exact hrv,λi u hu=>by simp[V',bh i u hu]⟩
  .split at hk
   .cases hk
   .rename_i hn;obtain⟨g1,g2,g3,g4⟩:=h.owns k' i hk;exact⟨g1,g2,λo=>by simp[V',hn,g3 o],g4⟩
 have lH:∀(m:Nat) (t:Ty),x.1[m]?=some t->t.one=true/\Rep C.cap V' t (cs.toList.getD m undef) (es.getD m .none):=λm t hm=>by
  obtain⟨g1,g2⟩:=bK m t hm;rw[ke] at g2;exact⟨g1,g2.mono hle⟩
 intro O' aq;cases ag with
 |true=>
  simp only[zyy] at hr;cases hr;have:=xr aq;subst this;refine⟨_,_,_,key (.agg x.1) (.agg cs.toList.toArray) _ ?_ (λi u hu=>by simpa [Value.cells] using hu)⟩;simp only[PE.ev,he];exact .agg _ _ _ (by simp;omega) (by omega) (λm t hm=>(lH m t hm).2) (λm t hm=>(lH m t hm).1)
 |false=>
  simp only[zyx] at hr;split at hr
  .rename_i t e et ee;cases hr;have:=xr aq;subst this;obtain⟨g1,g2⟩:=lH 0 t (by rw[et];rfl);have lJ:es=[e.ev O]:=by rw[<-oA,ee];rfl
   subst lJ;refine⟨_,_,_,key t (cs.toList.getD 0 undef) _ (by simpa using g2) (λi u hu=>?_)⟩;rw[(g2.oneCell g1).1] at hu;have hi:i=0:=by
        have:=(eA.1 hu).1;simpa using this
   subst hi;simp at hu;subst hu;have:0<cs.size:=by rw[h4];rw[et] at l1;simp at l1;omega
   rw[jF this];simp[aH,jF this]
  .cases hr
def Inv.mv (h:Inv C S O V own hv w0 σ0 A a w){j j':Nat}(ay:j≠j')(hk:p6 (S.o j)=true):
 Inv C (S.mv j j') (O.setO j' (O.o j)) V (λk=>if own k=some j then some j' else if own k=some j' then none else own k) (bZ hv j' (hv j)) w0 σ0 A a w:=by
 have bt:=h.objs j
 refine h.step (λi=>i=j\/i=j') rfl (.refl V) h.ok (λ_ _ _ hx=>.inl hx) (λ_ _ hx=>.inl hx) (.refl _ _) ⟨λi=>?_,λi e=>?_⟩ (λi hi=>?_) (λi hi=>?_) (λk i hk=>?_) (λ_=>id) (λt=>.inl ⟨rfl,rfl,rfl⟩) (λ_ _=>rfl) (λ_ _ _=>rfl) (λk i hk=>by
        split at hk
        .rename_i e;exact .inl ⟨j,e⟩
        .split at hk
         .cases hk
         .exact .inl ⟨i,hk⟩) (λi hi=>by
        rcases hi with rfl|rfl
        .simp[St.mv,aS]
        .simp only[St.mv,bJ _ _ (yb ay),aS];intro e;rw[e] at hk;cases hk)
 .simp only[St.mv,fq];split
  .rename_i e;subst e;omega
  .split
   .rename_i e;subst e;omega
   .omega
 .simp only[St.mv,fq] at e;split at e
  .rename_i e';subst e';omega
  .split at e
   .rename_i e';subst e';omega
   .rename_i SB;exact bJ _ _ SB
 .simp only[not_or] at hi;refine⟨by simp[St.mv,bJ _ _ hi.1,bJ _ _ hi.2],by simp[Env.setO,bJ _ _ hi.2],bJ _ _ hi.2,λk hk=>⟨?_,rfl⟩⟩;have e1:i≠j:=hi.1;have e2:i≠j':=hi.2;simp[hk,e1,e2]
 .rcases hi with rfl|rfl
  .simp only[St.mv,aS];trivial
  .simp only[St.mv,bJ _ _ (yb ay),aS];cases cQ:S.o j with
   |row T e=>
    rw[cQ] at bt;obtain⟨cells,xs,h1,h2,h3,h4⟩:=bt;refine⟨cells,xs,by simp only[Env.setO,aS];exact h1,by rw[aS];exact h2,h3,λk hk=>?_⟩;rw[aS] at hk;simp[h4 k hk]
   |mp kt et=>
    rw[cQ] at bt;obtain⟨k0,arr,clock,es,h1,h2,h3,h4,h5,h6⟩:=bt;exact⟨k0,arr,clock,es,by rw[aS];exact h1,by simp[h2],h3,by simp only[Env.setO,aS];exact h4,h5,h6⟩
   |_=>rw[cQ] at hk;simp[p6] at hk
 .split at hk
  .rename_i e;exact h.owns k j e
  .split at hk
   .cases hk
   .exact h.owns k i hk
def azW (h:Inv C S O V own hv w0 σ0 A a w){t j':Nat}{r:St×List PI}(hr:ID S t j'=some r):Ja C w0 σ0 Z S O A a w r:=by
 intro O' aq;unfold ID at hr;split at hr
 .rename_i j ver es;cases hb:(Nat.beq ver (S.ver j)&&p6 (S.o j)&& !Nat.beq j j')<;>simp only[hb,zyy,zyx] at hr
  .cases hr;rw[vq aq];exact⟨_,_,_,h⟩
  .cases hr;simp only[au,l6] at hb;have dR:=aD hb.1.1;have ay:j≠j':=λe=>by subst e;simp at hb
   have tj:=h.mv ay hb.1.2;have ni:=h.regs t;rw[es] at ni;have cD:=ni.2 dR;rw[xr aq];refine⟨_,_,_,tj.step (S':=(S.mv j j').setR t (.obj j' (S.ver j'+1))) (λ_=>False) rfl (.refl V) tj.ok (λ_ _ _ hx=>.inl hx) (λ_ _ hx=>.inl hx) (.refl _ _) ⟨λ_=>aZ _,λ_ _=>rfl⟩ (λi _=>⟨rfl,rfl,rfl,λk hk=>⟨hk,rfl⟩⟩) (λ_ hf=>hf.elim) tj.owns (λ_=>id) (λu=>?_) (λ_ _=>rfl) (λ_ _ _=>rfl) (λk i hk=>.inl ⟨i,hk⟩) (λ_ hf=>hf.elim)⟩;by_cases hu:u=t
   .subst hu;refine .inr ⟨?_,λgs s e=>by simp[St.setR,aS] at e⟩;simp only[St.setR,aS];refine⟨?_,λ_=>?_⟩
    .simp[St.mv,bJ _ _ (yb ay),aS]
    .rw[aS];exact cD
   .exact .inl ⟨by simp[St.setR,bJ _ _ hu],rfl,rfl⟩
 .cases hr;rw[vq aq];exact⟨_,_,_,h⟩
def asZ (h:Inv C S O V own hv w0 σ0 A a w){b i j:Nat}{T:TypeId}{r:St×List PI}(hr:Gg C S b i j T=some r):Ja C w0 σ0 Z S O A a w r:=by
 intro O' aq;unfold Gg at hr;split at hr
 .rename_i ag shs eo;split at hr
  .rename_i e0 e es et;cases hb:(!Nat.beq b j)<;>simp only[hb,zyy,zyx] at hr
   .cases hr;rw[vq aq];exact⟨_,_,_,h⟩
   .cases hr;have ay:b≠j:=λe=>by subst e;simp at hb
    have bt:=h.objs b;rw[eo] at bt;obtain⟨k,cs,T0,ds,h1,h2,h3,h4,h5,h6,h7⟩:=bt;have cD:cs.getD i undef=.slice none 0 0:=by
     have:=(h7 i _ es).2;generalize cs.getD i undef=v at this;generalize ds.getD i .none=d at this;cases this;rfl
    have mh:=h.newO j (.row T e) (.list []) (.slice none 0 0) (λ_=>false) (.refl _ _) (by simp) ⟨[],[],by simp[Env.setO,aS],by rw[aS];exact World.ownsRow_nil _ _ _ _,⟨λ_=>undef,by simp,by simp⟩,by rw[aS];simp[Value.ownBlock]⟩;rw[xr aq];have eo':(S.newO j (.row T e)).o b=.box ag shs:=by simp[St.newO,bJ _ _ ay,eo]
    have aeH:=mh.objs b;rw[eo'] at aeH;refine⟨_,_,_,mh.step (S':=(S.newO j (.row T e)).setO b (.box ag (shs.set i (.obj j (S.ver j+1))))) (λm=>m=b) rfl (.refl V) mh.ok (λ_ _ _ hx=>.inl hx) (λ_ _ hx=>.inl hx) (.refl _ _) ⟨λ_=>aZ _,λ_ _=>rfl⟩ (λm hm=>⟨by simp[St.setO,bJ _ _ hm],rfl,rfl,λk hk=>⟨hk,rfl⟩⟩) (λm hm=>?_) mh.owns (λ_=>id) (λt=>.inl ⟨rfl,rfl,rfl⟩) (λ_ _=>rfl) (λ_ _ _=>rfl) (λk i hk=>.inl ⟨i,hk⟩) (λm hm=>by subst hm;simp[St.setO,aS])⟩;subst hm;rw[St.setO_o];obtain⟨k1,cs1,T1,Rf,g1,g2,g3,g4,g5,g6,g7⟩:=aeH;have e1:cs1=cs:=by
     rw[bJ _ _ ay,h1] at g1;cases g1;rw[h3] at g3;cases g3;rfl
    refine⟨k1,cs1,T1,Rf,g1,g2,g3,by simpa using g4,g5,by simpa using g6,λq x hq=>?_⟩;rw[Jf] at hq;split at hq
    .rename_i e';subst e';split at hq
     .cases hq;refine⟨(λ_ _ e=>by cases e),?_,λ_=>?_⟩
      .simp[St.setO,St.newO,aS]
      .rw[aS,e1];exact cD
     .cases hq
    .obtain⟨f1,f2⟩:=g7 q x hq;exact⟨f1,f2.mono' (.refl V) (Compat.setO _ _ _ _) f1⟩
  .cases hr;rw[vq aq];exact⟨_,_,_,h⟩
 .cases hr;rw[vq aq];exact⟨_,_,_,h⟩
end
def mkObj (S:St)(dst:Nat)(ob:Ob):St:=(S.newO dst ob).setR dst (.obj dst (S.ver dst+1))
def mkPtr (S:St)(dst:Nat)(ob:Ob):St:=(S.newO dst ob).setR dst (.ptr dst (S.ver dst+1) 0)
abbrev ls:=Option (St×List PI)
def Fl (C:Ctx)(S:St)(dst:Nat)(T:TypeId)(x:Operand):ls:=
 match use C S [] x,C.P.underlying T with
 |some (.nils _,_),some (.slice E)=>(qu C.P E).map λe=>(mkObj S dst (.row E e),[.setO dst (.con (.list [])),.setR dst (.con .none)])
 |_,_=>Option.none
def Fc (C:Ctx)(S:St)(dst:Nat)(T:TypeId):ls:=
 match qu C.P T,C.P.info? T,ry C.P T with
 |some t,some inf,some ag=>
  bif vA inf t&&(t.rowT||t.one) then
   (qv t).map λz=>(mkPtr S dst (.box ag (z.1.flat.map .dat)),[.setO dst (.con (.agg z.2.cells)),.setR dst (.con .none)])
  else Option.none
 |_,_,_=>Option.none
def Ff (C:Ctx)(S:St)(dst:Nat)(T:TypeId)(x:Operand):ls:=
 match use C S [] x,ry C.P T with
 |some (t,e),some ag=>
  bif t.rowT||t.one then some (mkPtr S dst (.box ag (t.flat.map .dat)),[.setO dst (.mk [e]),.setR dst (.con .none)]) else Option.none
 |Option.none,some true=>
  match gN S [] x with
  |.agg l=>some (mkPtr S dst (.box true (l.map AgC.sh)),[.setO dst (tX x),.setR dst (.con .none)])
  |_=>Option.none
 |_,_=>Option.none
def Fj (C:Ctx)(S:St)(dst:Nat)(T:TypeId)(r:Option Operand):ls:=
 match C.P.underlying T,r with
 |some (.map K E),Option.none=>
  (qu C.P K).bind λkt=>(qu C.P E).map λet=>(mkObj S dst (.mp kt et),[.setO dst (.con (.map [])),.setR dst (.con .none)])
 |_,_=>Option.none
def Fk (C:Ctx)(S:St)(dst:Nat)(T:TypeId)(l c:Operand):ls:=
 match C.P.underlying T,use C S [] l,use C S [] c with
 |some (.slice E),some (.int _,n),some (.int _,m)=>
  (qu C.P E).bind λe=>
    bif sL C.P E e then
     (qv e).bind λz=>
        bif Ty.sub z.1 e then some (mkObj S dst (.row E e),[.chk (Uh n),.chk (.ci .eql n m),.setO dst (.rep n (.con z.2)),.setR dst (.con .none)]) else Option.none
    else Option.none
 |_,_,_=>Option.none
def Fm (C:Ctx)(S:St)(dst:Nat)(T:TypeId)(x:Operand):ls:=
 match C.P.underlying T,gN S [] x with
 |some (.map _ _),.obj j ver=>
  bif Nat.beq ver (S.ver j)&& !Nat.beq j dst then
   match S.o j with
   |.mp kt et=>some (mkObj (S.mv j dst) dst (.it kt et),[.setO dst (.tup [.lst [],.o j]),.setR dst (.con .none)])
   |_=>Option.none
  else Option.none
 |_,_=>Option.none
def Fg (C:Ctx)(S:St)(dst:Nat)(s d:TypeId)(x:Operand):ls:=
 match use C S [] x,C.P.underlying s,C.P.underlying d with
 |some (.str,e),some .string,some (.slice E)=>
  (match C.P.underlying E with
   |some (.int .u8)=>some (S.setR dst (.dat (.slice (.int .u8))),[.chk (.ci .leq (.slen e) (.con (.int oQ))),.setR dst (.bytes e)])
   |_=>Option.none)
 |_,_,_=>Option.none
section
variable {C:Ctx} {S:St} {O:Env} {V:Im} {own:Nat->Option Nat} {hv:Nat->Value} {w0:World} {σ0:Base} {A:Nat->Prop} {a:Act} {w:World} {gs:List (Nat×Bool)} {Z:aO} {dst:Nat}
def bV (C:Ctx)(w0:World)(σ0:Base)(Z:aO)(S:St)(O:Env)(A:Nat->Prop)(a:Act)(w:World)(o:Oper)(r:St×List PI):Prop:=
 ∀O',PI.runs Z r.2 O=some O'->∀(K:Act->World->Prop) (Q:Exit->Act->World->Prop),(∀a' w',Good C w0 σ0 r.1 O' (λu=>A u\/o.dst=some u) a' w'->a'.tmps.size=a.tmps.size->K a' w')->o.wp C.P a w K Q
def size_put (a:Act)(d:Option Tmp)(v:Value):(a.put d v).tmps.size=a.tmps.size:=by
 cases d<;>simp[Act.put]
def bV.value {o:Oper}{r:St×List PI}(hd:o.dst=some dst)(hx:∀O',PI.runs Z r.2 O=some O'->∃v w',(execOp a.eval o).run C.P w=.ok (.value v) w'/\Good C w0 σ0 r.1 O' (λu=>A u\/u=dst) (a.put (some dst) v) w'):bV C w0 σ0 Z S O A a w o r:=by
 intro O' aq K Q hK;obtain⟨v,w',h1,h2⟩:=hx O' aq;simp only[Oper.wp,h1,Oper.upon,hd];refine hK _ _ ?_ (size_put _ _ _)
 have:(λu=>A u\/o.dst=some u)=(λu=>A u\/u=dst):=by
  funext u;rw[hd];simp[eq_comm]
 rw[this];exact h2
def bV.skip {o:Oper}{r:St×List PI}(hd:o.dst=none)(hx:∀O',PI.runs Z r.2 O=some O'->∃w',(execOp a.eval o).run C.P w=.ok .skip w'/\Good C w0 σ0 r.1 O' A a w'):bV C w0 σ0 Z S O A a w o r:=by
 intro O' aq K Q hK;obtain⟨w',h1,h2⟩:=hx O' aq;simp only[Oper.wp,h1,Oper.upon,hd]
 have:(λu=>A u\/o.dst=some u)=A:=by
  funext u;rw[hd];simp
 rw[this] at hK;exact hK _ _ h2 (size_put _ _ _)
def eK.eff (h:Inv C S O V own hv w0 σ0 A a w)(ht:¬A dst)(af:dst<a.tmps.size){o:Oper}(hd:o.dst=some dst){s:Sh}{G9:List PI}(hq:eK C S O V hv Z dst a w o (s,G9)):bV C w0 σ0 Z S O A a w o (S.setR dst s,G9):=by
 refine bV.value hd λO' aq=>?_;obtain⟨v,d,rfl,h1,h2,h3⟩:=hq O' aq;exact⟨v,w,h1,V,own,hv,h.setReg ht (aG.mono' (.refl V) (.refl S hv) h3 h2) af (λgs s' e=>absurd e (h3 gs s'))⟩
def eK.effG (h:Inv C S O V own hv w0 σ0 A a w)(ht:¬A dst)(af:dst<a.tmps.size)(eF:∀g,g∈gs->A g.1)(hg:holds gs O=true){o:Oper}(hd:o.dst=some dst){s:Sh}{G9:List PI}(hq:eK C S O V hv Z dst a w o (s,G9)):bV C w0 σ0 Z S O A a w o (S.setR dst (.opt gs s),G9):=by
 refine bV.value hd λO' aq=>?_;obtain⟨v,d,rfl,h1,h2,h3⟩:=hq O' aq;have hh:holds gs (O.setR dst d)=true:=by rw[Gf (t:=dst) (d:=d) λg hm e=>ht (by rw[<-e];exact eF g hm)];exact hg
 refine⟨v,w,h1,V,own,hv,h.setReg ht ⟨λ_=>aG.mono' (.refl V) (.refl S hv) h3 h2,λe=>absurd (hh.symm.trans e) (by decide)⟩ af (λbN s' e=>?_)⟩;cases e;exact⟨eF,h3⟩
def Inv.passed (h:Inv C S O V own hv w0 σ0 A a w)(ht:¬A dst)(af:dst<a.tmps.size)(eF:∀g,g∈gs->A g.1)(hg:holds gs O=false){s:Sh}(hs:∀bN s',s≠.opt bN s')(d:D):Inv C (S.setR dst (.opt gs s)) (O.setR dst d) V own hv w0 σ0 (λu=>A u\/u=dst) (a.put (some dst) undef) w:=by
 have hh:holds gs (O.setR dst d)=false:=by rw[Gf (t:=dst) (d:=d) λg hm e=>ht (by rw[<-e];exact eF g hm)];exact hg
 refine h.setReg ht (s:=.opt gs s) (v:=undef) (d:=d) ⟨λe=>absurd (hh.symm.trans e) (by decide),λ_=>rfl⟩ af (λbN s' e=>?_);cases e;exact⟨eF,hs⟩
def Inv.mkObj (h:Inv C S O V own hv w0 σ0 A a w)(ht:¬A dst)(af:dst<a.tmps.size)(ob:Ob)(d:D)(v:Value)(nb:Nat->Bool){w':World}(hw:Below w.heap.size w w')(dP:∀k,nb k=true->w.heap.size<=k/\k<w'.heap.size)
 (cQ:cf C (S.newO dst ob) (O.setO dst d) V (fM own dst nb) (bZ hv dst v) w' w0.heap.size dst ob) (oG:ob≠.tr:=by intro h;cases h):
 Good C w0 σ0 (Cx.mkObj S dst ob) ((O.setO dst d).setR dst .none) (λu=>A u\/u=dst) (a.put (some dst) v) w':=by
 have h1:=h.newO dst ob d v nb hw dP cQ oG;have h2:=h1.setObj ht (j:=dst) (v:=v) (aS _ _ _) af;have e:(S.newO dst ob).ver dst=S.ver dst+1:=aS _ _ _;rw[e] at h2;exact⟨_,_,_,h2⟩
def Inv.mkPtr (h:Inv C S O V own hv w0 σ0 A a w)(ht:¬A dst)(af:dst<a.tmps.size)(ob:Ob)(d:D)(k:Nat)(nb:Nat->Bool){w':World}(hw:Below w.heap.size w w')(dP:∀k,nb k=true->w.heap.size<=k/\k<w'.heap.size)
 (cQ:cf C (S.newO dst ob) (O.setO dst d) V (fM own dst nb) (bZ hv dst (.pointer (some ⟨k,0,none⟩))) w' w0.heap.size dst ob) (oG:ob≠.tr:=by intro h;cases h):
 Good C w0 σ0 (Cx.mkPtr S dst ob) ((O.setO dst d).setR dst .none) (λu=>A u\/u=dst) (a.put (some dst) (.pointer (some ⟨k,0,none⟩))) w':=by
 have h1:=h.newO dst ob d _ nb hw dP cQ oG;have e:(S.newO dst ob).ver dst=S.ver dst+1:=aS _ _ _;have h2:=h1.setReg ht (s:=.ptr dst (S.ver dst+1) 0) (v:=.pointer (some ⟨k,0,none⟩)) (d:=.none) ⟨Nat.le_of_eq e.symm,λ_=>⟨k,aS _ _ _,rfl⟩⟩ af (λ_ _ e=>by cases e);exact⟨_,_,_,h2⟩
def D0 {e:PE}{O':Env}(h:PI.runs Z [.setO dst e,.setR dst (.con .none)] O=some O'):O'=(O.setO dst (e.ev O)).setR dst .none:=by
 simp[PI.runs,PI.run,PE.ev] at h;exact h.symm
def ab9 (h:Inv C S O V own hv w0 σ0 A a w){t:Ty}{v:Value}{d:D}(hr:Rep C.cap V t v d)(ho:t.rowT=true\/t.one=true)(ag:Bool)(T:TypeId):
 cf C (S.newO dst (.box ag (t.flat.map .dat))) (O.setO dst (.agg d.cells)) V (fM own dst (λk=>Nat.beq k w.heap.size)) (bZ hv dst (.pointer (some ⟨w.heap.size,0,none⟩))) (w.alloc (.cells v.cells T)) w0.heap.size dst (.box ag (t.flat.map .dat)):=by
 obtain⟨f1,f2,f3⟩:=hr.flat ho;refine⟨w.heap.size,v.cells,T,d.cells,aS _ _ _,by simp[fM],heap_alloc_new w _,by rw[hr.size];simp[f1],by simp[Env.setO,aS],by simp[f1,f2],λi s hi=>?_⟩;simp only[cq,aB] at hi;obtain⟨ti,Ti,rfl⟩:=hi;exact⟨λ_ _ e=>(by cases e),(f3 i ti Ti).2⟩
def aoz (h:Inv C S O V own hv w0 σ0 A a w)(hC:CtxOK C σ0)(ht:¬A dst)(af:dst<a.tmps.size){T:TypeId}{x:Operand}{r:St×List PI}(hr:Fl C S dst T x=some r){o:Oper}(hd:o.dst=some dst)(ho:o.op=.assign x):bV C w0 σ0 Z S O A a w o r:=by
 unfold Fl at hr;split at hr
 case h_2=>cases hr
 rename_i e0 e1 E hu hT;simp only[aB] at hr;obtain⟨e,he,rfl⟩:=hr;have hx:=cu h hC rfl hu;have cD:a.eval x=.slice none 0 0:=by
  generalize a.eval x=v at hx;generalize e1.ev O=d at hx;cases hx;rfl
 refine bV.value hd λO' aq=>⟨.slice none 0 0,w,by simp[execOp,ho,cD],?_⟩
 rw[D0 aq];exact h.mkObj ht af (.row E e) _ _ (λ_=>false) (.refl _ _) (by simp) ⟨[],[],by simp[Env.setO,aS,PE.ev],by rw[aS];exact World.ownsRow_nil _ _ _ _,⟨λ_=>undef,by simp,by simp⟩,by rw[aS];simp[Value.ownBlock]⟩
def an6 (h:Inv C S O V own hv w0 σ0 A a w)(ht:¬A dst)(af:dst<a.tmps.size){T:TypeId}{r:St×List PI}(hr:Fc C S dst T=some r){o:Oper}(hd:o.dst=some dst)(ho:o.op=.alloc T):bV C w0 σ0 Z S O A a w o r:=by
 unfold Fc at hr;split at hr
 case h_2=>cases hr
 rename_i t inf ag Tk hi ha;cases hc:(vA inf t&&(t.rowT||t.one))<;>simp only[hc,zyy,zyx] at hr
 .cases hr
 simp only[au,j5] at hc;simp only[aB] at hr;obtain⟨z,hz,rfl⟩:=hr;obtain⟨v0,eT,C4⟩:∃v0,inf.zero=some v0/\j4 t v0=true:=by
  have:=hc.1;unfold vA at this;split at this
  .exact⟨_,by assumption,this⟩
  .cases this
 obtain⟨k1,k2,k3⟩:=AO (cap:=C.cap) (V:=V) hz C4;have cW:z.1.rowT=true\/z.1.one=true:=by
  rcases hc.2 with e|e
  .left;cases t<;>simp[Ty.rowT] at e;simp[qv] at hz;obtain⟨_,_,rfl⟩:=hz;rfl
  .right;rw[k3];exact e
 refine bV.value hd λO' aq=>⟨.pointer (some ⟨w.heap.size,0,none⟩),w.alloc (.cells v0.cells T),?_,?_⟩
 .simp[execOp,ho,Instr.alloc,zeroValue,run_typeInfo w hi,eT,newVar,newRow]
 .rw[D0 aq];exact h.mkPtr ht af _ _ _ (λk=>Nat.beq k w.heap.size) ((Below.refl _ _).alloc (aZ _) _) (λk hk=>by simp at hk;simp;omega) (ab9 h k1 cW ag T)
def Compat.newO (S:St)(hv:Nat->Value)(j:Nat)(ob:Ob)(v:Value):Compat S hv (S.newO j ob) (bZ hv j v):=by
 refine⟨λi=>?_,λi e=>?_⟩
 .simp only[St.newO,fq];split<;>rename_i e
  .subst e;omega
  .omega
 .simp only[St.newO,fq] at e;split at e
  .rename_i e';subst e';omega
  .rename_i ay;exact bJ _ _ ay
def aoa (h:Inv C S O V own hv w0 σ0 A a w)(hC:CtxOK C σ0)(ht:¬A dst)(af:dst<a.tmps.size){T:TypeId}{x:Operand}{r:St×List PI}(hr:Ff C S dst T x=some r){o:Oper}(hd:o.dst=some dst)(ho:o.op=.box T x):bV C w0 σ0 Z S O A a w o r:=by
 unfold Ff at hr;split at hr
 case h_3=>cases hr
 case h_2=>
  rename_i hu ha;split at hr
  case h_2=>cases hr
  rename_i l oL;cases hr;have ni:=(vu h (gs:=[]) rfl x).1;rw[oL] at ni;obtain⟨vs,ds,e1,e2,e3,e4,e5⟩:=ni;refine bV.value hd λO' aq=>⟨.pointer (some ⟨w.heap.size,0,none⟩),w.alloc (.cells (a.eval x).cells T),?_,?_⟩
  .simp[execOp,ho,Instr.box,newVar,newRow]
  .rw[D0 aq,e2];refine h.mkPtr ht af _ _ _ (λk=>Nat.beq k w.heap.size) ((Below.refl _ _).alloc (aZ _) _) (λk hk=>by simp at hk;simp;omega) ⟨w.heap.size,(a.eval x).cells,T,ds,aS _ _ _,by simp[fM],heap_alloc_new w _,by rw[e1];simp[Value.cells,e3],by simp[Env.setO,aS],by simp[e4],λi s hi=>?_⟩;simp only[cq,aB] at hi;obtain⟨c,hc,rfl⟩:=hi;have bM:(a.eval x).cells.getD i undef=vs.getD i undef:=by rw[e1];simp[Value.cells,aH,gp]
   have h6:=(e5 i c hc).monoR (Im.le.leR (.refl V)) (Compat.newO S hv dst (.box true (l.map AgC.sh)) (.pointer (some ⟨w.heap.size,0,none⟩)));rw[bM];cases c with
   |dat t=>exact⟨λ_ _ e=>(by cases e),h6.2⟩
   |obj j ver=>exact⟨λ_ _ e=>(by cases e),h6⟩
 rename_i t e ag hu ha;cases hc:(t.rowT||t.one)<;>simp only[hc,zyy,zyx] at hr
 .cases hr
 cases hr;simp only[j5] at hc;have hx:=cu h hC rfl hu;refine bV.value hd λO' aq=>⟨.pointer (some ⟨w.heap.size,0,none⟩),w.alloc (.cells (a.eval x).cells T),?_,?_⟩
 .simp[execOp,ho,Instr.box,newVar,newRow]
 .rw[D0 aq];have:(PE.mk [e]).ev O=.agg (e.ev O).cells:=by simp[PE.ev,PE.evc]
  rw[this];exact h.mkPtr ht af _ _ _ (λk=>Nat.beq k w.heap.size) ((Below.refl _ _).alloc (aZ _) _) (λk hk=>by simp at hk;simp;omega) (ab9 h hx hc ag T)
def aot (h:Inv C S O V own hv w0 σ0 A a w)(ht:¬A dst)(af:dst<a.tmps.size){T:TypeId}{m:Option Operand}{r:St×List PI}(hr:Fj C S dst T m=some r){o:Oper}(hd:o.dst=some dst)(ho:o.op=.makeMap T m):bV C w0 σ0 Z S O A a w o r:=by
 unfold Fj at hr;split at hr
 case h_2=>cases hr
 rename_i K E hT;simp only[az,aB] at hr;obtain⟨kt,hk,et,he,rfl⟩:=hr;refine bV.value hd λO' aq=>⟨.map (some w.heap.size),w.alloc (.map #[] 0),?_,?_⟩
 .simp[execOp,ho,Instr.makeMap]
 .rw[D0 aq]
  exact h.mkObj ht af (.mp kt et) _ _ (λk=>Nat.beq k w.heap.size) ((Below.refl _ _).alloc (aZ _) _) (λk hk=>by simp at hk;simp;omega)
   ⟨w.heap.size,#[],0,[],aS _ _ _,by simp[fM],heap_alloc_new w _,by simp[Env.setO,aS,PE.ev],rfl,⟨by simp,by simp[nG]⟩,by simp⟩
def aoB (h:Inv C S O V own hv w0 σ0 A a w)(ht:¬A dst)(af:dst<a.tmps.size){T:TypeId}{x:Operand}{r:St×List PI}(hr:Fm C S dst T x=some r){o:Oper}(hd:o.dst=some dst)(ho:o.op=.range T x):bV C w0 σ0 Z S O A a w o r:=by
 unfold Fm at hr;split at hr
 case h_2=>cases hr
 rename_i K E j ver hT es;obtain⟨dQ,_⟩:=vu h (gs:=[]) rfl x;rw[es] at dQ;cases hb:(Nat.beq ver (S.ver j)&& !Nat.beq j dst)<;>simp only[hb,zyy,zyx] at hr
 .cases hr
 simp only[au,l6] at hb;have cD:=dQ.2 (aD hb.1);have ay:j≠dst:=λe=>by subst e;simp at hb
 have bt:=h.objs j;split at hr
 case h_2=>cases hr
 rename_i kt et eo;cases hr;rw[eo] at bt;obtain⟨m,arr,clock,ds,h1,h2,h3,h4,h5,⟨h6,sY⟩,h7⟩:=bt;have tj:=h.mv ay (by rw[eo];rfl);have uR:m<w.heap.size:=(eA.1 h3).1;have Ss:w0.heap.size<=m:=(h.owns m j h2).1;refine bV.value hd λO' aq=>⟨.pointer (some ⟨w.heap.size,0,none⟩),w.alloc (.mapIter (some m) clock #[] clock),?_,?_⟩
 .simp[execOp,ho,Instr.range,cD,h1,run_underlying hT,getObj,Sem.run,h3]
 have hρ:O'=((O.setO dst (.tup [.list [],.map ds])).setR dst .none):=by
  simp[PI.runs,PI.run,PE.ev,PE.evs,h4] at aq;exact aq.symm
 subst hρ;have fE:Below w.heap.size w (w.alloc (.mapIter (some m) clock #[] clock)):=(Below.refl _ _).alloc (aZ _) _;have Gv:=tj.step (S':=(S.mv j dst).newO dst (.it kt et)) (O':=(O.setO dst (.tup [.list [],.map ds]))) (V':=V) (hv':=bZ (bZ hv dst (hv j)) dst (.pointer (some ⟨w.heap.size,0,none⟩)))
  (own':=λk=>if k=w.heap.size then some dst else(if own k=some j then some dst else if own k=some dst then none else own k)) (a':=a) (A':=A) (w':=w.alloc (.mapIter (some m) clock #[] clock)) (λi=>i=dst)
  rfl (.refl V) (h.ok.below fE) (λ_ _ _ hx=>.inl hx) (λ_ _ hx=>.inl hx) (fE.mono h.below.size) ⟨λi=>?_,λi e=>?_⟩ (λi hi=>⟨?_,?_,?_,λk hk=>⟨?_,?_⟩⟩) (λi hi=>?_) (λk i hk=>?_) (λ_=>id) (λt=>.inl ⟨rfl,rfl,rfl⟩) (λ_ _=>rfl) (λk hk _=>fE.block k hk) (λk i hk=>?_) (λi hi=>by subst hi;simp[St.newO,aS])
 .have gZ:=Gv.setObj ht (j:=dst) (v:=.pointer (some ⟨w.heap.size,0,none⟩)) (aS _ _ _) af;have e:((S.mv j dst).newO dst (.it kt et)).ver dst=(S.mv j dst).ver dst+1:=aS _ _ _;rw[e] at gZ;exact⟨_,_,_,gZ⟩
 .simp only[St.newO,fq];split<;>rename_i e
  .subst e;omega
  .omega
 .simp only[St.newO,fq] at e;split at e
  .rename_i e';subst e';omega
  .rename_i SB;exact bJ _ _ SB
 .simp[St.newO,bJ _ _ hi]
 .simp[Env.setO,bJ _ _ hi]
 .exact bJ _ _ hi
 .have aJx:=(tj.owns k i hk).2.1;have bn:k≠w.heap.size:=by omega
  simp only[if_neg bn];exact hk
 .exact fE.block k (tj.owns k i hk).2.1
 .subst hi;simp only[St.newO,aS];have fG:m≠w.heap.size:=by omega
  refine⟨w.heap.size,m,arr,clock,ds,[],aS _ _ _,by simp,by simp[fG,h2],by omega,?_,heap_alloc_new w _,by simp[Env.setO,aS,iv],List.nodup_nil,by simp,h5,sY,h7⟩;rw[fE.block m uR];exact h3
 .split at hk
  .rename_i e;subst e;refine⟨h.below.size,by simp,λo=>?_,?_⟩
   .cases hc:V.c w.heap.size o with
    |none=>rfl
    |some u=>have:=h.lt hc;omega
   .cases hc:V.m w.heap.size with
    |none=>rfl
    |some u=>have:=h.ltm hc;omega
  .obtain⟨g1,g2,g3,g4⟩:=tj.owns k i hk;exact⟨g1,by simp;omega,g3,g4⟩
 .split at hk
  .rename_i e;subst e;exact .inr (aZ _)
  .exact .inl ⟨i,hk⟩
def aoe (h:Inv C S O V own hv w0 σ0 A a w)(hC:CtxOK C σ0)(ht:¬A dst)(af:dst<a.tmps.size){T U:TypeId}{x:Operand}{r:St×List PI}(hr:Fg C S dst T U x=some r){o:Oper}(hd:o.dst=some dst)(ho:o.op=.convert T U x):bV C w0 σ0 Z S O A a w o r:=by
 unfold Fg at hr;split at hr
 case h_2=>cases hr
 rename_i e E hu hT hU;split at hr
 case h_2=>cases hr
 rename_i hE;cases hr;have hx:=cu h hC rfl hu;obtain⟨s,aL,bu,hs⟩:=hx.str_inv;have tz:=Lib.run_convert_string_bytes (P:=C.P) w T U E s hT hU hE;refine bV.value hd λO' aq=>⟨.slice (some ⟨w.heap.size,0,none⟩) s.size (grownCap w s.size 0 E),Lib.bytesWorld w E s,by simp[execOp,ho,aL,tz],?_⟩
 simp only[PI.runs,PI.run,az] at aq;obtain⟨ρ1,g1,ρ2,g2,g3⟩:=aq;cases c1:((PE.ci BinOp.leq (.slen e) (.con (.int oQ))).ev O).b<;>simp only[c1,zyy,zyx] at g1
 .cases g1
 cases g1;cases g2;cases g3;have asx:s.size<=4294967296:=by
  simp[PE.ev,bu,D.s,D.i,D.b,jJ,D.int,oQ] at c1;omega
 have fE:Below w.heap.size w (Lib.bytesWorld w E s):=⟨rfl,rfl,rfl,by rw[Lib.bytesWorld_size];omega,λk hk=>Lib.bytesWorld_at_old w E s k hk⟩
 have aJ:(Lib.bytesWorld w E s).heap.size=w.heap.size+1:=Lib.bytesWorld_size w E s
 let V':Im:={c:=λk i=>if k=w.heap.size then(if i<s.size then some (.int .u8 (s.data.toList.getD i 0).toNat) else none) else V.c k i,m:=V.m}
 have hle:V.le V':=by
  refine⟨λk o v hc=>?_,λk es hc=>hc⟩;have:k≠w.heap.size:=by have:=h.lt hc;omega
  simp[V',this,hc]
 have ax:V'.ok (Lib.bytesWorld w E s):=by
  refine⟨λk i v hc=>?_,(h.ok.below fE).m,λk i v hc=>?_⟩
  all_goals simp only[V'] at hc
  all_goals split at hc
  .rename_i ek;subst ek;split at hc
   .rename_i hi;cases hc;exact Lib.bytesWorld_cell w E s i hi
   .cases hc
  .exact(h.ok.below fE).c k i v hc
  .split at hc<;>cases hc
  .exact(h.ok.below fE).f k i v hc
 have h1:=h.step (S':=S) (O':=O) (V':=V') (own':=own) (hv':=hv) (A':=A) (a':=a) (w':=Lib.bytesWorld w E s) (λ_=>False) rfl hle ax (λk i v hc=>?_) (λk es hc=>.inl hc) (fE.mono h.below.size) ⟨λ_=>aZ _,λ_ _=>rfl⟩
  (λj _=>⟨rfl,rfl,rfl,λk hk=>⟨hk,fE.block k (h.owns k j hk).2.1⟩⟩) (λj hj=>hj.elim) (λk j hk=>?_) (λ_=>id) (λt=>.inl ⟨rfl,rfl,rfl⟩) (λ_ _=>rfl) (λk hk _=>fE.block k hk) (λk i hk=>.inl ⟨i,hk⟩) (λ_ hf=>hf.elim)
 .refine⟨_,_,_,h1.setReg ht (s:=.dat (.slice (.int .u8))) ?_ af (λ_ _ e=>by cases e)⟩;show Rep C.cap V' _ _ _;simp only[PE.ev,bu,D.s];refine .slice (.int .u8) w.heap.size 0 s.size _ _ (λi=>.int .u8 (s.data.toList.getD i 0).toNat) (by simp) (grownCap_ge w s.size 0 E) (grownCap_le_maxLen w s.size 0 E (by unfold maxLen;omega)) (λi x hx=>?_) (λi j u hi hu=>?_) (λe=>by cases e)
  .simp only[cq,aB] at hx;obtain⟨b,hb,rfl⟩:=hx;have:s.data.toList.getD i 0=b:=by simp[aH,hb]
   rw[this];have:=b.toNat_lt;exact .int .u8 _ (by show(0:Int)<=_;omega) (by show _<=(255:Int);omega)
  .have hj:j=0:=by
        have:=(eA.1 hu).1;simp[Value.cells] at this;exact this
   subst hj;simp[Value.cells] at hu;subst hu;simp[V',Ty.size,hi]
 .simp only[V'] at hc;split at hc
  .rename_i ek;exact .inr ⟨by have:=h.below.size;omega,.inr (by omega)⟩
  .exact .inl hc
 .obtain⟨g1,g2,g3,g4⟩:=h.owns k j hk;refine⟨g1,by omega,λi=>?_,g4⟩;have:k≠w.heap.size:=by omega
  simp[V',this,g3 i]
end
def Lj (C:Ctx)(S:St)(gs:List (Nat×Bool))(e:Ty)(z:D)(parts:List (Nat×Operand))(i:Nat):Option PE:=
 match parts.find? (λp=>Nat.beq p.1 i) with
 |some p=>(use C S gs p.2).bind λa=>bif Ty.sub a.1 e then some a.2 else Option.none
 |Option.none=>some (PE.con z)
def yM (C:Ctx)(S:St)(gs:List (Nat×Bool))(dst:Nat)(T:TypeId)(len:Nat)(parts:List (Nat×Operand)):ls:=
 match C.P.underlying T with
 |some (.slice E)=>
  (qu C.P E).bind λe=>(qv e).bind λz=>
    bif sL C.P E e&&Ty.sub z.1 e&&kA (parts.map (·.1))&&parts.all (λp=>Nat.blt p.1 len)&&Nat.ble (len*e.size) 16777216 then
     ((List.range len).mapM (Lj C S gs e z.2 parts)).map λes=>(mkObj S dst (.row E e),[.setO dst (.lst es),.setR dst (.con .none)])
    else Option.none
 |_=>Option.none
def Ck (C:Ctx)(S:St)(gs:List (Nat×Bool))(dst:Nat)(T:TypeId)(len:Nat)(parts:List (Nat×Operand)):ls:=
 match C.P.underlying T,yM C S gs dst T len parts with
 |some (.slice E),some r=>
  (qu C.P E).bind λe=>
    match r.2 with
    |.setO _ x::_=>some ((S.newO dst .dead).setR dst (match gs with|[]=>.dat (.slice e.rol)|_=>.opt gs (.dat (.slice e.rol))),[.setR dst x])
    |_=>Option.none
 |_,_=>Option.none
def Fo (C:Ctx)(S:St)(T:TypeId)(x v:Operand):ls:=
 match C.P.info? T with
 |some inf=>
  match gN S [] x with
  |.ptr j ver off=>
   bif Nat.beq ver (S.ver j) then
    match S.o j with
    |.box ag shs=>
     match use C S [] v with
     |some (t,e)=>
      bif Nat.beq inf.size t.size&&(t.rowT||t.one)&&Nat.ble (off+t.size) shs.length then
             some (S.setO j (.box ag (shs.take off++t.flat.map .dat++shs.drop (off+t.size))),[.setO j (.setc (.o j) off e)])
      else Option.none
     |Option.none=>
      match gN S [] v with
      |.obj j' ud=>
       bif Nat.beq ud (S.ver j')&&p6 (S.o j')&&Nat.beq inf.size 1&&Nat.blt off shs.length then
              some (S.setO j (.box ag (shs.set off (.obj j' ud))),[.setO j (.setc (.o j) off (.con .none))])
       else Option.none
      |_=>Option.none
    |_=>Option.none
   else Option.none
  |.eptr j ver size off=>
   bif Nat.beq ver (S.ver j) then
    match S.o j,use C S [] v with
    |.row _ (.agg ts),some (t,e)=>
     bif Nat.beq inf.size t.size&&(t.rowT||t.one)&&Nat.beq size ts.length&&Nat.ble (off+t.size) ts.length&&Ty.subs t.flat ((ts.drop off).take t.size) then
         some (S,[.setO j (.setn (.o j) (tX x) off e)])
     else Option.none
    |.row _ e0,some (t,e)=>
     bif Nat.beq inf.size 1&&Nat.beq size 1&&Nat.beq off 0&&e0.one&&Ty.sub t e0 then some (S,[.setO j (.setn (.o j) (tX x) 0 e)]) else Option.none
    |_,_=>Option.none
   else Option.none
  |_=>Option.none
 |Option.none=>Option.none
def Cl (C:Ctx)(S:St)(T:TypeId)(m k v:Operand):ls:=
 match C.P.underlying T,gN S [] m with
 |some (.map K _),.obj j ver=>
  bif Nat.beq ver (S.ver j) then
   match S.o j,use C S [] k,use C S [] v with
   |.mp kt et,some (tk,ek),some (tv,ev)=>
    bif Ty.beq tk kt&&wO C.P K kt&&Ty.sub tv et then some (S,[.chk (.ci .lss (.mlen (.o j)) (.con (.int oQ))),.setO j (.put (.o j) ek ev)]) else Option.none
   |_,_,_=>Option.none
  else Option.none
 |_,_=>Option.none
def MD (x y:PE):PE:=.ci .leq (.llen (.app x y)) (.con (.int oQ))
def OW:Ty->Ty->Bool
 |.slice e',e=>Ty.beq e'.unf e
 |.nils _,_=>true
 |_,_=>false
def Fe (C:Ctx)(S:St)(dst:Nat)(T:TypeId)(s x:Operand):ls:=
 match C.P.underlying T with
 |some (.slice E)=>
  (qu C.P E).bind λe=>
    match view C S [] x with
    |some (tx,ex)=>
     bif sL C.P E e&&OW tx e then
        match use C S [] s with
        |some (.nils _,_)=>some (mkObj S dst (.row E e),[.chk (MD (.con (.list [])) ex),.setO dst (.app (.con (.list [])) ex),.setR dst (.con .none)])
        |some _=>Option.none
        |Option.none=>
         match gN S [] s with
         |.obj j ver=>
          bif Nat.beq ver (S.ver j) then
             match S.o j with
             |.row E' e'=>
              bif Nat.beq E' E&&Ty.beq e' e then
                some ((S.newO j (.row E e)).setR dst (.obj j (S.ver j+1)),[.chk (MD (.o j) ex),.setO j (.app (.o j) ex),.setR dst (.con .none)])
              else Option.none
             |_=>Option.none
          else Option.none
         |_=>Option.none
     else Option.none
    |Option.none=>Option.none
 |_=>Option.none
def Rl {P:Program}{T:TypeId}{e:Ty}(h:sL P T e=true):∃inf z,P.info? T=some inf/\inf.size=e.size/\inf.bytes<=zK/\1<=e.size/\inf.zero=some z/\j4 e z=true:=by
 unfold sL at h;split at h
 .rename_i i hi;simp only[au] at h;have h4:=h.2;unfold vA at h4;split at h4
  .rename_i z hz;exact⟨i,z,hi,aD h.1.1.1,lx h.1.1.2,lx h.1.2,hz,h4⟩
  .cases h4
 .cases h
def aaQ {e:Ty}{z:Value}(h:j4 e z=true):z.cells.size=e.size:=by
 cases e with
 |agg ts=>
  cases z with
  |agg vs=>simp only[j4] at h;have:=(aaR ts vs.toList h).1;simpa [Value.cells,Ty.size] using this
  |_=>simp[j4] at h
 |_=>cases z<;>simp_all [j4,AN,Value.cells,Ty.size]
def anb {O:Env}{x y:PE}(h:((PE.ci .lss x y).ev O).b=true):(x.ev O).i<(y.ev O).i:=by
 simpa [PE.ev,D.b_bool,jJ] using h
def acr {O:Env}{x y:PE}(h:((PE.ci .leq x y).ev O).b=true):(x.ev O).i<=(y.ev O).i:=by
 simpa [PE.ev,D.b_bool,jJ] using h
def auA {n:Nat}(h:(n:Int)<oQ):n<4294967296:=by unfold oQ at h;omega
def afS {n:Nat}(h:(n:Int)<=oQ):n<=4294967296:=by unfold oQ at h;omega
def St.setO_self {S:St}{j:Nat}{ob:Ob}(h:S.o j=ob):S.setO j ob=S:=by
 have:bZ S.o j ob=S.o:=by
  funext i;rw[fq];split
  .rename_i e;subst e;exact h.symm
  .rfl
 cases S;simp only[St.setO] at this ⊢;rw[this]
section
variable {C:Ctx} {S:St} {O:Env} {V:Im} {own:Nat->Option Nat} {hv:Nat->Value} {w0:World} {σ0:Base} {A:Nat->Prop} {a:Act} {w:World} {gs:List (Nat×Bool)} {Z:aO} {dst:Nat}
def Inv.updO (h:Inv C S O V own hv w0 σ0 A a w)(j:Nat)(ob:Ob)(d:D)(v:Value)(nb:Nat->Bool){w':World}(hw:Below w0.heap.size w w')
 (rj:∀k,k<w.heap.size->own k≠some j->w'.heap[k]?=w.heap[k]?) (dP:∀k,nb k=true->(own k=some j\/w.heap.size<=k)/\k<w'.heap.size)
 (cQ:cf C (S.newO j ob) (O.setO j d) V (fM own j nb) (bZ hv j v) w' w0.heap.size j ob) (oG:ob≠.tr:=by intro h;cases h):Inv C (S.newO j ob) (O.setO j d) V (fM own j nb) (bZ hv j v) w0 σ0 A a w':=by
 have aJ:w0.heap.size<=w.heap.size:=h.below.size;have bB:∀k i,i≠j->own k=some i->fM own j nb k=some i:=by
  intro k i hi hk;have h1:=h.owns k i hk;have h2:nb k=false:=by
   cases hn:nb k with
   |false=>rfl
   |true=>
    rcases(dP k hn).1 with e|e
    .rw[hk] at e;simp at e;exact absurd e hi
    .omega
  simp[fM,h2,hk,hi]
 have ax:V.ok w':=by
  refine⟨λk o u hc=>?_,λk es hc=>?_,h.ok.fz λk o v hc=>rj k (h.lt hc) λe=>by rw[(h.owns k j e).2.2.1 o] at hc;cases hc⟩
  .have ay:own k≠some j:=λe=>by rw[(h.owns k j e).2.2.1 o] at hc;cases hc
   rw[World.cell?_of_block (rj k (h.lt hc) ay)];exact h.ok.c k o u hc
  .have ay:own k≠some j:=λe=>by rw[(h.owns k j e).2.2.2] at hc;cases hc
   exact(h.ok.m k es hc).keep (rj k (h.ltm hc) ay)
 refine h.step (λi=>i=j) rfl (.refl V) ax (λ_ _ _ hx=>.inl hx) (λ_ _ hx=>.inl hx) hw ⟨λi=>?_,λi e=>?_⟩ (λi hi=>⟨?_,?_,?_,λk hk=>⟨bB k i hi hk,?_⟩⟩) (λi hi=>?_) (λk i hk=>?_) (λ_=>id) (λt=>.inl ⟨rfl,rfl,rfl⟩) (λ_ _=>rfl) (λk hk e=>rj k hk (by rw[e];simp)) (λk i hk=>by
  unfold fM at hk;split at hk
  .rename_i hn;rcases(dP k hn).1 with e|e
   .exact .inl ⟨j,e⟩
   .exact .inr e
  .split at hk
   .cases hk
   .exact .inl ⟨i,hk⟩) (λi hi=>by subst hi;simpa only[St.newO,aS] using oG)
 .simp only[St.newO,fq];split<;>rename_i e
  .subst e;omega
  .omega
 .simp only[St.newO,fq] at e;split at e
  .rename_i e';subst e';omega
  .rename_i ay;exact bJ _ _ ay
 .simp[St.newO,bJ _ _ hi]
 .simp[Env.setO,bJ _ _ hi]
 .exact bJ _ _ hi
 .exact rj k (h.owns k i hk).2.1 (by rw[hk];simpa using hi)
 .subst hi;simp only[St.newO,aS];exact cQ
 .unfold fM at hk;split at hk
  .rename_i hn;obtain⟨g1,g2⟩:=dP k hn;rcases g1 with e|e
   .obtain⟨f1,f2,f3,f4⟩:=h.owns k j e;exact⟨f1,g2,f3,f4⟩
   .refine⟨by omega,g2,λo=>?_,?_⟩
    .cases hc:V.c k o with
     |none=>rfl
     |some u=>have:=h.lt hc;omega
    .cases hc:V.m k with
     |none=>rfl
     |some u=>have:=h.ltm hc;omega
  .split at hk
   .cases hk
   .obtain⟨g1,g2,g3,g4⟩:=h.owns k i hk;exact⟨g1,by have:=hw.size;omega,g3,g4⟩
def Inv.updB (h:Inv C S O V own hv w0 σ0 A a w)(j:Nat)(ob:Ob)(d:D){w':World}(hw:Below w0.heap.size w w')
 (rj:∀k,k<w.heap.size->own k≠some j->w'.heap[k]?=w.heap[k]?)
 (cQ:cf C (S.setO j ob) (O.setO j d) V own hv w' w0.heap.size j ob) (oG:ob≠.tr:=by intro h;cases h):Inv C (S.setO j ob) (O.setO j d) V own hv w0 σ0 A a w':=by
 have ax:V.ok w':=by
  refine⟨λk o u hc=>?_,λk es hc=>?_,h.ok.fz λk o v hc=>rj k (h.lt hc) λe=>by rw[(h.owns k j e).2.2.1 o] at hc;cases hc⟩
  .have ay:own k≠some j:=λe=>by rw[(h.owns k j e).2.2.1 o] at hc;cases hc
   rw[World.cell?_of_block (rj k (h.lt hc) ay)];exact h.ok.c k o u hc
  .have ay:own k≠some j:=λe=>by rw[(h.owns k j e).2.2.2] at hc;cases hc
   exact(h.ok.m k es hc).keep (rj k (h.ltm hc) ay)
 refine h.step (λi=>i=j) rfl (.refl V) ax (λ_ _ _ hx=>.inl hx) (λ_ _ hx=>.inl hx) hw (Compat.setO _ _ _ _) (λi hi=>⟨by simp[St.setO,bJ _ _ hi],by simp[Env.setO,bJ _ _ hi],rfl,λk hk=>⟨hk,rj k (h.owns k i hk).2.1 (by rw[hk];simpa using hi)⟩⟩) (λi hi=>?_) (λk i hk=>?_) (λ_=>id) (λt=>.inl ⟨rfl,rfl,rfl⟩) (λ_ _=>rfl) (λk hk e=>rj k hk (by rw[e];simp)) (λk i hk=>.inl ⟨i,hk⟩) (λi hi=>by subst hi;rw[St.setO_o];exact oG)
 .subst hi;rw[St.setO_o];exact cQ
 .obtain⟨g1,g2,g3,g4⟩:=h.owns k i hk;exact⟨g1,by have:=hw.size;omega,g3,g4⟩
def adz {B:Nat}{w w':World}{row:Option Nat}(hg:w.grownBy w' row)(hB:B<=w.heap.size)(hr:∀k,row=some k->B<=k):Below B w w':=(Below.refl B w).grown hg hB hr
def agb {z:Array Value}{n i q:Nat}(hz:0<z.size)(hi:i<n)(hq:q<z.size):(madeCells z (n*z.size))[i*z.size+q]?=z[q]?:=by
 have af:i*z.size+q<n*z.size:=by
  have:(i+1)*z.size<=n*z.size:=kc _ hi;rw[ka] at this;omega
 have hm:(i*z.size+q)%z.size=q:=by rw[Es,ald,PO hq]
 simp[madeCells,Array.getElem?_range,af,hm,hq]
def aov (h:Inv C S O V own hv w0 σ0 A a w)(hC:CtxOK C σ0)(ht:¬A dst)(af:dst<a.tmps.size){T:TypeId}{l c:Operand}{r:St×List PI}(hr:Fk C S dst T l c=some r){o:Oper}(hd:o.dst=some dst)(ho:o.op=.makeSlice T l c):bV C w0 σ0 Z S O A a w o r:=by
 unfold Fk at hr;split at hr
 case h_2=>cases hr
 rename_i E k1 n k2 m hT hl hc;simp only[az] at hr;obtain⟨e,he,hr⟩:=hr;cases hf:sL C.P E e<;>simp only[hf,zyy,zyx] at hr
 .cases hr
 obtain⟨inf,z0,hi,hs,hb,h1,hz,nl⟩:=Rl hf;simp only[az] at hr;obtain⟨z,hzt,hr⟩:=hr;cases cK:Ty.sub z.1 e<;>simp only[cK,zyy,zyx] at hr
 .cases hr
 cases hr;obtain⟨n1,aL,bu,b1,b2⟩:=(cu h hC rfl hl).int_inv;obtain⟨n2,iL,dv,b3,b4⟩:=(cu h hC rfl hc).int_inv;simp only at bu dv;have GG:=((AO (cap:=C.cap) (V:=V) hzt nl).1).sub cK;refine bV.value hd λO' aq=>?_;simp only[PI.runs,PI.run,az] at aq;obtain⟨ρ1,g1,ρ2,g2,aq⟩:=aq;cases c1:((Uh n).ev O).b<;>simp only[c1,zyy,zyx] at g1
 .cases g1
 cases g1;cases c2:((PE.ci BinOp.eql n m).ev O).b<;>simp only[c2,zyy,zyx] at g2
 .cases g2
 cases g2;have asK:n1=n2:=by simpa [PE.ev,bu,dv,D.i_int,D.b_bool,jJ] using c2
 subst asK;have hb:0<=n1/\n1<=oQ:=by simpa [Uh,PE.ev,bu,D.i_int,D.b_bool,jJ,D.int] using c1
 obtain⟨nn,rfl⟩:=qB hb.1;have zk:nn<=4294967296:=by have:=hb.2;unfold oQ at this;omega
 have nm:z0.cells.size=e.size:=aaQ nl;obtain⟨w',r1,r2,r3⟩:=run_make_full (P:=C.P) w w0.heap.size T E inf z0 e.size hT hi hz hs k1 k2 nn (by
  have:inf.bytes*nn<=zK*4294967296:=Ev (by assumption) zk;unfold zK at this;omega) (by unfold maxLen;omega) h.below.size
 refine⟨.slice (some ⟨w.heap.size,0,none⟩) nn nn,w',by simp[execOp,ho,aL,iL,r1],?_⟩;obtain⟨ρ3,g3,ρ4,g4,g5⟩:=aq;cases g3;cases g4;cases g5;simp only[PE.ev,bu,D.i_int,xQ];have hlen:(List.replicate nn z.2).length=nn:=by simp
 refine h.mkObj ht af (.row E e) _ _ (λk=>Nat.beq k w.heap.size) (adz r3 (aZ _) (by simp)) (λk hk=>?_) ⟨_,List.replicate nn z.2,by simp[Env.setO,aS],by rw[aS,hlen];exact r2,⟨λ_=>z0,λi x hx=>?_,λi j u hi hj=>?_⟩,λk hk=>?_⟩
 .have bn:k=w.heap.size:=aD hk;have:=(r2.lt _ rfl).2;subst bn;exact⟨aZ _,this⟩
 .have:=(eO.1 hx)
  obtain⟨q1,q2⟩:=this;simp at q2;subst q2;exact GG
 .rw[hlen] at hi;have bA:j<z0.cells.size:=(eA.1 hj).1;rw[qx,<-nm];rw[agb (by omega) hi bA];exact hj
 .rw[aS] at hk;simp[Value.ownBlock] at hk;simp[fM,hk]
def nG.push {arr:Array MapEntry}{clock:Nat}(h:nG arr clock)(k v:Value):nG (arr.push {key:=k,val:=v,born:=clock}) (clock+1):=by
 have key:∀(i:Nat) (e:MapEntry),(arr.push {key:=k,val:=v,born:=clock})[i]?=some e->(arr[i]?=some e/\e.born<clock)\/(i=arr.size/\e.born=clock):=by
  intro i e he;rw[Array.getElem?_push] at he;split at he
  .rename_i hi;cases he;exact .inr ⟨hi,rfl⟩
  .exact .inl ⟨he,h.1 i e he⟩
 refine⟨λi e he=>?_,λi j e f he hf hb=>?_⟩
 .rcases key i e he with⟨_,h1⟩|⟨_,h1⟩<;>omega
 .rcases key i e he with⟨h1,h2⟩|⟨h1,h2⟩<;>rcases key j f hf with⟨h3,h4⟩|⟨h3,h4⟩
  .exact h.2 i j e f h1 h3 hb
  .omega
  .omega
  .omega
def nG.modify {arr:Array MapEntry}{clock:Nat}(h:nG arr clock)(i0:Nat)(k v:Value):nG (arr.modify i0 λe=>{e with key:=k,val:=v}) clock:=by
 have key:∀(i:Nat) (e:MapEntry),(arr.modify i0 λe=>{e with key:=k,val:=v})[i]?=some e->∃e',arr[i]?=some e'/\e'.born=e.born:=by
  intro i e he;rw[Pq] at he;split at he
  .simp only[aB] at he;obtain⟨e',h1,rfl⟩:=he;exact⟨e',h1,rfl⟩
  .exact⟨e,he,rfl⟩
 refine⟨λi e he=>?_,λi j e f he hf hb=>?_⟩
 .obtain⟨e',h1,h2⟩:=key i e he;rw[<-h2];exact h.1 i e' h1
 .obtain⟨e',h1,h2⟩:=key i e he;obtain⟨f',h3,h4⟩:=key j f hf;exact h.2 i j e' f' h1 h3 (by rw[h2,h4,hb])
def acS (h:Inv C S O V own hv w0 σ0 A a w)(hC:CtxOK C σ0){T:TypeId}{m k v:Operand}{r:St×List PI}(hr:Cl C S T m k v=some r){o:Oper}(hd:o.dst=none)(ho:o.op=.mapUpdate T m k v\/o.op=.insert T m k v):bV C w0 σ0 Z S O A a w o r:=by
 unfold Cl at hr;split at hr
 case h_2=>cases hr
 rename_i K E j ver hT es;obtain⟨dQ,_⟩:=vu h (gs:=[]) rfl m;rw[es] at dQ;cases hb:Nat.beq ver (S.ver j)<;>simp only[hb,zyy,zyx] at hr
 .cases hr
 have cD:=dQ.2 (aD hb);have bt:=h.objs j;split at hr
 case h_2=>cases hr
 rename_i kt et tk ek tv ev eo hk zx;rw[eo] at bt;cases hc:(Ty.beq tk kt&&wO C.P K kt&&Ty.sub tv et)<;>simp only[hc,zyy,zyx] at hr
 .cases hr
 cases hr;simp only[au] at hc;obtain⟨⟨L8,F4⟩,cK⟩:=hc;obtain⟨g,arr,clock,ds,h1,h2,h3,h4,h5,⟨h6,sY⟩,h7⟩:=bt;have bn:=cu h hC rfl hk;rw[Ty.beq_eq _ _ L8] at bn;have hv':=(cu h hC rfl zx).sub cK;refine bV.skip hd λO' aq=>?_;simp only[PI.runs,PI.run,az] at aq;obtain⟨ρ1,g1,ρ2,g2,g3⟩:=aq;cases c1:((PE.ci BinOp.lss (.mlen (.o j)) (.con (.int oQ))).ev O).b<;>simp only[c1,zyy,zyx] at g1
 .cases g1
 cases g1;cases g2;cases g3;have asx:ds.length<4294967296:=by
  have h8:=anb c1;simp only[PE.ev,h4,D.m,D.i_int,D.int] at h8;exact auA h8
 have oy:(Instr.checkKey false 10000 K (a.eval k)).run C.P w=.ok () w:=acq (cap:=C.cap) (V:=V) F4 bn;have ky:∃vM Ce ds',(Instr.mapUpdate T (a.eval m) (a.eval k) (a.eval v)).run C.P w=.ok () {w with heap:=w.heap.setIfInBounds g (.map vM Ce)}/\gd (ek.ev O) (ev.ev O) ds=ds'/\ds'.length=vM.size/\(ds'.length<=maxLen/\nG vM Ce)/\
  ∀(i:Nat) (e:MapEntry) (p:D×D),vM[i]?=some e->ds'[i]?=some p->Rep C.cap V kt e.key p.1/\Rep C.cap V et e.val p.2:=by
  rcases run_findKey F4 bn arr ds h5 h7 w with⟨f1,f2,f3⟩|⟨i,e,p,f1,f2,f3,f4,f5,f6⟩
  .refine⟨arr.push {key:=a.eval k,val:=a.eval v,born:=clock},clock+1,ds++[(ek.ev O,ev.ev O)],?_,f3 _,by simp[h5],⟨by simp;unfold maxLen;omega,sY.push _ _⟩,λq e p he hp=>?_⟩
   .rw[cD,h1];simp[Instr.mapUpdate,run_underlying hT,getObj,Sem.run,h3,oy,f1,setObj]
   .rw[Array.getElem?_push] at he;rw[mF] at hp;by_cases hq:q=arr.size
    .subst hq;simp at he;rw[if_neg (by omega)] at hp;simp[h5] at hp;subst he;subst hp;exact⟨bn,hv'⟩
    .rw[if_neg hq] at he;have tq:q<arr.size:=(eA.1 he).1;rw[if_pos (by omega)] at hp;exact h7 q e p he hp
  .refine⟨arr.modify i λe=>{e with key:=a.eval k,val:=a.eval v},clock,ds.set i (ek.ev O,ev.ev O),?_,f5 _,by simp[h5],⟨by simp;exact h6,sY.modify _ _ _⟩,λq e' p' he hp=>?_⟩
   .rw[cD,h1];have cX:(Instr.keyThatStays e.key (a.eval k)).run C.P w=.ok (a.eval k) w:=by simp[Instr.keyThatStays,f6]
    simp[Instr.mapUpdate,run_underlying hT,getObj,Sem.run,h3,oy,f3,f1,cX,setObj]
   .rw[Pq] at he;rw[Jf] at hp;by_cases hq:i=q
    .subst hq;simp only[if_true] at he hp;rw[f1] at he;simp at he;split at hp
     .cases hp;subst he;exact⟨bn,hv'⟩
     .cases hp
    .rw[if_neg hq] at he hp;exact h7 q e' p' he hp
 obtain⟨vM,Ce,ds',r1,r2,r3,r4,r5⟩:=ky;refine⟨{w with heap:=w.heap.setIfInBounds g (.map vM Ce)},by rcases ho with ho|ho<;>simp[execOp,ho,r1],?_⟩;have zd:g<w.heap.size:=(eA.1 h3).1;have hgB:w0.heap.size<=g:=(h.owns g j h2).1;have bM:(PE.put (.o j) ek ev).ev O=.map ds':=by simp only[PE.ev,h4,D.m,r2]
 rw[bM]
 have:=h.updB j (.mp kt et) (.map ds') (w':={w with heap:=w.heap.setIfInBounds g (.map vM Ce)}) ⟨rfl,rfl,rfl,by simp,λk hk=>by simp;rw[aaT (by omega)]⟩
  (λk hk ay=>by simp;rw[aaT (λe=>ay (by rw[<-e];exact h2))])
  ⟨g,vM,Ce,ds',h1,h2,by simp[zd],by simp[Env.setO,aS],r3,r4,r5⟩
 have eS:S.setO j (.mp kt et)=S:=St.setO_self eo;rw[eS] at this;exact⟨_,_,_,this⟩
end
def aEw {e:Ty}{z:Value}(h:j4 e z=true):e.rowT=true\/e.one=true:=by
 cases e<;>first|exact .inl rfl|exact .inr rfl|(cases z<;>simp[j4,AN] at h)
def Rep.cellsOne {cap:Nat->Option CSig}{V:Im}{t:Ty}{v:Value}{d:D}(h:Rep cap V t v d)(ht:t.rowT=true\/t.one=true){m:Nat}{u:Value}(hu:v.cells[m]?=some u):u.oneCell'=true:=by
 obtain⟨f1,f2,f3⟩:=h.flat ht;have af:m<v.cells.size:=(eA.1 hu).1;rw[h.size] at af;obtain⟨g1,g2⟩:=f3 m _ (aY (by omega:m<t.flat.length));have:=(g2.oneCell g1).2;rw[gp,hu] at this;exact this
def aoT {cap:Nat->Option CSig}{V:Im}{e:Ty}{cells:List Value}{xs:List D}(h:du cap V e cells xs)(hl:cells.length=xs.length*e.size)(je:e.rowT=true\/e.one=true):∀u∈cells,u.oneCell'=true:=by
 obtain⟨vs,h1,h2⟩:=h;intro u hu;obtain⟨p,hp,rfl⟩:=fw hu;rw[hl] at hp;have hs:0<e.size:=Nat.pos_of_ne_zero λe0=>by rw[e0] at hp;simp at hp
 have hi:p/e.size<xs.length:=(xZ hs).2 hp;have hq:p%e.size<e.size:=qG _ hs;have bK:=h1 _ _ (aY hi);have aJ:=bK.size;have mV:(vs (p/e.size)).cells[p%e.size]?=some (vs (p/e.size)).cells[p%e.size]:=jF (by omega);have:=h2 _ _ _ hi mV;rw[x9,A6] at this;have h3:cells[p]=(vs (p/e.size)).cells[p%e.size]:=by
  have h4:=aY (show p<cells.length by omega);rw[h4] at this;exact uo this
 rw[h3];exact bK.cellsOne je mV
def aoS {cap:Nat->Option CSig}{V:Im}{e:Ty}{c1 c2:List Value}{xs ys:List D}(h:du cap V e c1 xs)(k:du cap V e c2 ys)(hl:c1.length=xs.length*e.size):du cap V e (c1++c2) (xs++ys):=by
 obtain⟨vs,h1,h2⟩:=h;obtain⟨us,k1,k2⟩:=k;refine⟨λi=>if i<xs.length then vs i else us (i-xs.length),λi x hx=>?_,λi j u hi hj=>?_⟩
 .rw[mF] at hx;split at hx
  .rename_i af;simp only[af,if_true];exact h1 i x hx
  .rename_i af;simp only[af,if_false];exact k1 _ x hx
 .by_cases af:i<xs.length
  .simp only[af,if_true] at hj;have:=h2 i j u af hj;rw[nH (eO.1 this).1];exact this
  .simp only[af,if_false] at hj;have dB:i-xs.length<ys.length:=by simp at hi;omega
   have:=k2 _ j u dB hj;have e1:i*e.size=c1.length+(i-xs.length)*e.size:=by rw[hl,<-ka];congr 1;omega
   rw[nI (by omega)];rw[show i*e.size+j-c1.length=(i-xs.length)*e.size+j by omega];exact this
section
variable {C:Ctx} {S:St} {O:Env} {V:Im} {own:Nat->Option Nat} {hv:Nat->Value} {w0:World} {σ0:Base} {A:Nat->Prop} {a:Act} {w:World} {gs:List (Nat×Bool)} {Z:aO} {dst:Nat}
def aEc (h:Inv C S O V own hv w0 σ0 A a w){B:Nat}{e f:Ty}{v:Value}{d:D}(hs:0<e.size)(je:e.rowT=true\/e.one=true)(hf:f.unf=e)(Tr:PW C V w B (.slice f) v d):
 ∃ys,d=.list ys/\ys.length<=maxLen/\((v=.slice none 0 0/\ys=[])\/∃(ad:Addr) (c:Nat) (news:List Value),v=.slice (some ad) ys.length c/\news.length=ys.length*e.size/\
  (∀j u,news[j]?=some u->w.cell? (ad.add j)=some u)/\du C.cap V e news ys):=by
 rcases Tr with hr|⟨T,e',cells,xs,ht,hd,bB,de⟩|⟨k,arr,clock,es,kt,et,ht,_⟩
 .obtain⟨xs,hd,sZ⟩:=hr.slice_inv;rw[<-f.unf_size,hf] at sZ;rcases sZ with⟨⟨p0,aL⟩,rfl⟩|⟨k,o,c,aL,h1,h2,vs,h3,h4⟩
  .cases p0 with
   |none=>exact⟨[],hd,by simp,.inl ⟨aL,rfl⟩⟩
   |some a0=>exact⟨[],hd,by simp,.inr ⟨a0,0,[],aL,by simp,λj u hu=>by simp at hu,λ_=>undef,λi x hx=>by simp at hx,λi j u hi=>by simp at hi⟩⟩
  .refine⟨xs,hd,by omega,.inr ⟨⟨k,o,none⟩,c,(List.range (xs.length*e.size)).map λp=>(vs (p/e.size)).cells.getD (p%e.size) undef,aL,by simp,λj u hu=>?_,vs,h3,λi j u hi hj=>?_⟩⟩
   .simp only[cq,aB] at hu;obtain⟨p,hp,rfl⟩:=hu;have ia:j<xs.length*e.size:=by have:=(eO.1 hp).1;simpa using this
    rw[sy ia] at hp;cases hp;have hi:j/e.size<xs.length:=(xZ hs).2 ia;have hq:j%e.size<e.size:=qG _ hs;have bK:=h3 _ _ (aY hi);have aJ:=bK.size;have mV:(vs (j/e.size)).cells[j%e.size]?=some ((vs (j/e.size)).cells.getD (j%e.size) undef):=by
     rw[gp,jF (by omega)];rfl
    have:=h.cell (h4 _ _ _ hi mV);rw[uu]
    rwa [show o+j/e.size*e.size+j%e.size=o+j by rw[sA,x9,A6]] at this
   .have bK:=h3 _ _ (aY hi);have bA:j<e.size:=by rw[<-bK.size];exact(eA.1 hj).1
    have af:i*e.size+j<xs.length*e.size:=by
     have:(i+1)*e.size<=xs.length*e.size:=kc _ hi;rw[ka] at this;omega
    have e1:(i*e.size+j)/e.size=i:=by rw[x9,Nat.mul_add_div hs,Nat.div_eq_of_lt bA];omega
    have e2:(i*e.size+j)%e.size=j:=by rw[Es,ald,PO bA]
    simp only[cq,sy af,lC,e1,e2];rw[gp,hj];rfl
 .cases ht;rw[Ty.unf_rol] at hf;obtain⟨b,c,aL,hm,_⟩:=Ad bB;have de:du C.cap V e cells xs:=by
   obtain⟨us,u1,u2⟩:=de;refine⟨us,λi x hx=>hf▸(u1 i x hx).unf,λi j u hi hu=>?_⟩;rw[<-hf,Ty.unf_size];exact u2 i j u hi hu
  have bB:w.ownsRow B T e.size v xs.length cells:=by rw[<-hf,Ty.unf_size];exact bB
  rcases bB.2 with⟨e1,e2⟩|⟨g,cap,cur,e1,e2⟩
  .have:xs=[]:=Pz e2;subst this;exact⟨[],hd,by simp,.inl ⟨e1,rfl⟩⟩
  .exact⟨xs,hd,hm,.inr ⟨⟨g,0,none⟩,cap,cells,e1,bB.1,bB.cells (by rw[e1];rfl),de⟩⟩
 .cases ht
def aAc {P:Program}{B:Nat}{T E ty:TypeId}{inf:TypeInfo}{z:Value}{size:Nat}{v x:Value}{n m:Nat}{xs news:List Value}(hT:P.underlying T=some (.slice E))(hi:P.info? E=some inf)(hz:inf.zero=some z)
 (hs:inf.size=size) (nm:z.cells.size=size) (aJ:0<size) (ri:inf.bytes<=zK) (bB:w.ownsRow B E size v n xs) (hB:B<=w.heap.size) (cY:n+m<=4294967296)
 (hx:(x=.slice none 0 0/\m=0/\news=[])\/∃(ad:Addr) (c:Nat),x=.slice (some ad) m c/\news.length=m*size/\(∀j u,news[j]?=some u->w.cell? (ad.add j)=some u)/\∀u∈news,u.oneCell'=true):
 ∃v' w',(Builtin.append_ #[T,T] ty #[v,x]).run P w=.ok v' w'/\w'.ownsRow B E size v' (n+m) (xs++news)/\w.grownBy w' v.ownBlock/\∀k,v'.ownBlock=some k->v.ownBlock=some k\/(w.heap.size<=k/\k<w'.heap.size):=by
 rcases hx with⟨rfl,rfl,rfl⟩|⟨ad,c,rfl,hl,Md,h1⟩
 .refine⟨v,w,run_append_owned_none w B T ty E inf size hT hi v n xs bB,by simpa using bB,⟨rfl,rfl,rfl,aZ _,λ_ _ _=>rfl⟩,λk hk=>.inl hk⟩
 .have R6:(n+m)*inf.bytes<=140737488355328:=by
   have:(n+m)*inf.bytes<=4294967296*zK:=Ev cY ri;unfold zK at this;omega
  obtain⟨v',w',r1,r2,r3,r4⟩:=run_append_own (P:=P) w B T ty E inf z size inf.bytes hT hi hz hs rfl nm aJ v n xs bB ad m c news hl Md h1 (by unfold maxLen;omega) R6 hB;refine⟨v',w',r1,r2,r3,λk hk=>?_⟩;have af:=(r2.lt k hk).2;subst hs;rcases bB.2 with⟨rfl,rfl⟩|⟨g,cap,cur,rfl,CD,hg,dD,oz,cI,Gw⟩
  .by_cases hm:m=0
   .subst hm;have:=r4.2 ⟨rfl,rfl⟩;subst this;simp[Value.ownBlock] at hk
   .have hr:=run_append_nil (P:=P) w T ty E inf z hT hi hz ad m c news hl Md (by omega) (by omega) (by have hb:=R6;simp only[ke] at hb;omega);rw[hr] at r1;cases r1;simp[Value.ownBlock] at hk;subst hk;exact .inr ⟨aZ _,af⟩
  .by_cases aeU:n+m<=cap
   .have LW:n*inf.size+news.length<=cur.size:=by rw[hl,cI,<-ka];exact kc _ aeU
    have hr:=run_append_room (P:=P) w T ty E inf hT hi g n cap cur hg ad m c news hl Md h1 aeU LW;rw[hr] at r1;cases r1;exact .inl hk
   .have hr:=run_append_grow (P:=P) w T ty E inf z hT hi hz ⟨g,0,none⟩ n cap xs bB.1 (bB.cells (g:=g) rfl) ad m c news hl Md (by omega) (by omega) (growslice_fits (by omega) R6);rw[hr] at r1;cases r1;simp[Value.ownBlock] at hk;subst hk;exact .inr ⟨aZ _,af⟩
def an8 (h:Inv C S O V own hv w0 σ0 A a w)(hC:CtxOK C σ0)(ht:¬A dst)(af:dst<a.tmps.size){T:TypeId}{s x:Operand}{r:St×List PI}(hr:Fe C S dst T s x=some r){o:Oper}(hd:o.dst=some dst)
 (ho:o.op=.call {callee:=.builtin .append,args:=#[s,x],argTypes:=#[T,T]}):bV C w0 σ0 Z S O A a w o r:=by
 unfold Fe at hr;split at hr
 case h_2=>cases hr
 rename_i E hT;simp only[az] at hr;obtain⟨e,he,hr⟩:=hr;split at hr
 case h_2=>cases hr
 rename_i tx ex Tr;have hv':=aaK h hC (gs:=[]) rfl Tr;obtain⟨cs,aq⟩:=XA (C:=C) (w:=w) (a:=a) ho;cases hc:(sL C.P E e&&OW tx e)<;>simp only[hc,zyy,zyx] at hr
 .cases hr
 simp only[au] at hc;obtain⟨inf,z,hi,hs,ri,h1,hz,nl⟩:=Rl hc.1;have nm:=aaQ nl;have je:=aEw nl;have Ts:∃f:Ty,f.unf=e/\PW C V w w0.heap.size (.slice f) (a.eval x) (ex.ev O):=by
  have cX:=hc.2;unfold OW at cX;split at cX
  .exact⟨_,Ty.beq_eq _ _ cX,hv'⟩
  .refine⟨e,Ty.unf_ro je,?_⟩;rcases hv' with hr|⟨_,_,_,_,ht,_⟩|⟨_,_,_,_,_,_,ht,_⟩
   .exact .inl (hr.sub (by simp[Ty.sub]))
   .cases ht
   .cases ht
  .cases cX
 obtain⟨fv,eU,Ts⟩:=Ts;obtain⟨ys,LU,mj,att⟩:=aEc h h1 je eU Ts;have hx:∃news,du C.cap V e news ys/\news.length=ys.length*e.size/\((a.eval x=.slice none 0 0/\ys.length=0/\news=[])\/∃(ad:Addr) (c:Nat),a.eval x=.slice (some ad) ys.length c/\news.length=ys.length*e.size/\(∀j u,news[j]?=some u->w.cell? (ad.add j)=some u)/\∀u∈news,u.oneCell'=true):=by
  rcases att with⟨e1,rfl⟩|⟨ad,c,news,e1,e2,e3,e4⟩
  .exact⟨[],⟨λ_=>undef,by simp,by simp⟩,by simp,.inl ⟨e1,rfl,rfl⟩⟩
  .exact⟨news,e4,e2,.inr ⟨ad,c,e1,e2,e3,aoT e4 e2 je⟩⟩
 obtain⟨news,ay,hnl,hx⟩:=hx;have main:∀(j:Nat) (v:Value) (xs:List D) (cells:List Value),a.eval s=v->w.ownsRow w0.heap.size E e.size v xs.length cells->du C.cap V e cells xs->xs.length+ys.length<=4294967296->
  (∀k,v.ownBlock=some k->own k=some j)->
  ∃v' w',(execOp a.eval o).run C.P w=.ok (.value v') w'/\Good C w0 σ0 ((S.newO j (.row E e)).setR dst (.obj j (S.ver j+1))) ((O.setO j (.list (xs++ys))).setR dst .none) (λu=>A u\/u=dst) (a.put (some dst) v') w':=by
  intro j v xs cells Th bB de hlen cQ;obtain⟨v',w',r1,r2,r3,r4⟩:=aAc (P:=C.P) (ty:=o.type) hT hi hz hs nm h1 ri bB h.below.size hlen hx;refine⟨v',w',by rw[aq];simp[builtin,Th,r1],?_⟩
  have To:=h.updO j (.row E e) (.list (xs++ys)) v' (λk=>decide (v'.ownBlock=some k)) (w':=w') (adz r3 h.below.size (λk hk=>(h.owns k j (cQ k hk)).1)) (λk hk ay=>r3.block k hk (λe=>ay (cQ k e.symm))) (λk hk=>by
        have bn:v'.ownBlock=some k:=by simpa using hk
        rcases r4 k bn with e|e
        .exact⟨.inl (cQ k e),(r2.lt k bn).2⟩
        .exact⟨.inr e.1,e.2⟩)
   ⟨cells++news,xs++ys,by simp[Env.setO,aS],by rw[aS,mG];exact r2,aoS de ay bB.1,λk hk=>by rw[aS] at hk;simp[fM,hk]⟩
  have h2:=To.setObj ht (j:=j) (v:=v') (aS _ _ _) af;have e:(S.newO j (.row E e)).ver j=S.ver j+1:=aS _ _ _;rw[e] at h2;exact⟨_,_,_,h2⟩
 split at hr
 .rename_i e0 pe0 hu;cases hr;refine bV.value hd λO' pV=>?_;have wB:=cu h hC rfl hu;have Th:a.eval s=.slice none 0 0:=by
   generalize a.eval s=v at wB;generalize pe0.ev O=d at wB;cases wB;rfl
  simp only[PI.runs,PI.run,az] at pV;obtain⟨ρ1,g1,ρ2,g2,ρ3,g3,g4⟩:=pV;cases c1:((MD (.con (.list [])) ex).ev O).b<;>simp only[c1,zyy,zyx] at g1
  .cases g1
  cases g1;cases g2;cases g3;cases g4;have hlen:=acr c1;simp only[PE.ev,D.l_list,LU,xW,D.i_int,D.int] at hlen;have:=main dst (.slice none 0 0) [] [] Th (World.ownsRow_nil _ _ _ _) ⟨λ_=>undef,by simp,by simp⟩ (by simpa using afS hlen) (by simp[Value.ownBlock]);simpa [PE.ev,D.l_list,LU,mkObj] using this
 .cases hr
 .obtain⟨dQ,_⟩:=vu h (gs:=[]) rfl s;split at hr
  case h_2=>cases hr
  rename_i j ver es;rw[es] at dQ;cases hb:Nat.beq ver (S.ver j)<;>simp only[hb,zyy,zyx] at hr
  .cases hr
  have cD:=dQ.2 (aD hb);have bt:=h.objs j;split at hr
  case h_2=>cases hr
  rename_i E' e' eo;rw[eo] at bt;cases lI:(Nat.beq E' E&&Ty.beq e' e)<;>simp only[lI,zyy,zyx] at hr
  .cases hr
  cases hr;simp only[au] at lI;have e1:=aD lI.1;have e2:=Ty.beq_eq _ _ lI.2;subst e1;subst e2;obtain⟨cells,xs,k1,k2,k3,k4⟩:=bt;refine bV.value hd λO' pV=>?_;simp only[PI.runs,PI.run,az] at pV;obtain⟨ρ1,g1,ρ2,g2,ρ3,g3,g4⟩:=pV;cases c1:((MD (.o j) ex).ev O).b<;>simp only[c1,zyy,zyx] at g1
  .cases g1
  cases g1;cases g2;cases g3;cases g4;have hlen:=acr c1;simp only[PE.ev,D.l_list,LU,k1,D.i_int,D.int] at hlen;have:=main j (hv j) xs cells cD k2 k3 (by have:=afS hlen;simpa using this) k4;simpa [PE.ev,D.l_list,LU,k1] using this
end
def OL {P:Program}{a:Act}{w:World}{o:Oper}{T:TypeId}{x v:Operand}{inf:TypeInfo}{k off:Nat}{cs:Array Value}{E:TypeId}(ho:o.op=.store T x v)(hi:P.info? T=some inf)(hx:a.eval x=.pointer (some ⟨k,off,none⟩))
 (hs:(a.eval v).cells.size=inf.size) (eM:∀u∈(a.eval v).cells.toList,u.oneCell'=true) (hb:w.heap[k]?=some (.cells cs E (0,0))) (hle:off+inf.size<=cs.size):
 (execOp a.eval o).run P w=.ok .skip (w.setRow k (cs.toList.take off++(a.eval v).cells.toList++cs.toList.drop (off+inf.size)).toArray):=by
 have:=run_storeCells_at P k off E (a.eval v).cells.toList 0 cs w hb (by simp[hs];exact hle) eM;simp only[l9,AP,hs] at this;simp[execOp,ho,Instr.storeAt,hx,Instr.sureAddr,storeVar,Go.sizeOf,run_typeInfo w hi,hs,this]
def aj8 {w:World}{B k:Nat}{cs:Array Value}(hB:B<=k):Below B w (w.setRow k cs)/\∀i,i≠k->(w.setRow k cs).heap[i]?=w.heap[i]?:=
 ⟨⟨rfl,rfl,rfl,by simp[World.setRow],λi hi=>setRow_other w k i cs (by omega)⟩,λi hi=>setRow_other w k i cs hi⟩
def Lt {α:Type}(xs ys:List α)(off:Nat)(d:α)(hle:off+ys.length<=xs.length)(i:Nat):(xs.take off++ys++xs.drop (off+ys.length)).getD i d=if off<=i/\i<off+ys.length then ys.getD (i-off) d else xs.getD i d:=by
 simp only[aH,qC];rw[mF,dY,mH (by omega)];split
 .rename_i h;rw[if_neg (by omega),iQ,if_pos h]
 .rename_i h;rw[mF];split
  .rename_i h2;rw[if_pos (by omega)]
  .rename_i h2;rw[if_neg (by omega),jq];congr 2;omega
section
variable {C:Ctx} {S:St} {O:Env} {V:Im} {own:Nat->Option Nat} {hv:Nat->Value} {w0:World} {σ0:Base} {A:Nat->Prop} {a:Act} {w:World} {gs:List (Nat×Bool)} {Z:aO} {dst:Nat}
def Inv.storeBox (h:Inv C S O V own hv w0 σ0 A a w){j k off:Nat}{ag:Bool}{shs news:List Sh}{cs:Array Value}{E:TypeId}{ds dn:List D}{vs:List Value}(eo:S.o j=.box ag shs)
 (h1:hv j=.pointer (some ⟨k,0,none⟩)) (h2:own k=some j) (h3:w.heap[k]?=some (.cells cs E (0,0))) (h4:cs.size=shs.length) (h5:O.o j=.agg ds) (h6:ds.length=shs.length)
 (h7:∀i s,shs[i]?=some s->(∀gs s',s≠.opt gs s')/\aG C S O V hv s (cs.getD i undef) (ds.getD i .none))
 (l1:news.length=vs.length) (l2:dn.length=vs.length) (hle:off+vs.length<=shs.length)
 (mh:∀i s,news[i]?=some s->(∀gs s',s≠.opt gs s')/\aG C S O V hv s (vs.getD i undef) (dn.getD i .none)):
 Inv C (S.setO j (.box ag (shs.take off++news++shs.drop (off+vs.length)))) (O.setO j (.agg (dI ds off dn))) V own hv w0 σ0 A a (w.setRow k (cs.toList.take off++vs++cs.toList.drop (off+vs.length)).toArray):=by
 have hkB:w0.heap.size<=k:=(h.owns k j h2).1;obtain⟨b1,b2⟩:=aj8 (w:=w) (B:=w0.heap.size) (k:=k) (cs:=(cs.toList.take off++vs++cs.toList.drop (off+vs.length)).toArray) hkB;refine h.updB j _ _ b1 (λi hi ay=>b2 i λe=>ay (e▸h2)) ⟨k,_,E,dI ds off dn,h1,h2,setRow_heap w k cs _ E _ h3,?_,by simp[Env.setO,aS],?_,λi s hi=>?_⟩
 .simp[l1];omega
 .simp[dI,l2,l1];omega
 .have cI:(cs.toList.take off++vs++cs.toList.drop (off+vs.length)).toArray.getD i undef=if off<=i/\i<off+vs.length then vs.getD (i-off) undef else cs.getD i undef:=by
   have e0:∀l:List Value,l.toArray.getD i undef=l.getD i undef:=λl=>by simp[gp,aH]
   rw[e0,Lt cs.toList vs off undef (by simp;omega),Cw cs i]
  have jO:(dI ds off dn).getD i .none=if off<=i/\i<off+vs.length then dn.getD (i-off) .none else ds.getD i .none:=by
   rw[dI,Lt ds dn off .none (by omega),l2]
  rw[cI,jO];have aeD:∀s v d,(∀gs s',s≠.opt gs s')->aG C S O V hv s v d->aG C (S.setO j (.box ag (shs.take off++news++shs.drop (off+vs.length)))) (O.setO j (.agg (dI ds off dn))) V hv s v d:=
   λs v d hn hk=>aG.mono' (.refl V) (Compat.setO _ _ _ _) hn hk
  have oL:(shs.take off++news++shs.drop (off+vs.length))[i]?=if off<=i/\i<off+vs.length then news[i-off]? else shs[i]?:=by
   rw[qC,mF,dY,mH (by omega)];split
   .rename_i h;rw[if_neg (by omega),iQ,if_pos h]
   .rename_i h;rw[mF,l1];split
    .rename_i h2;rw[if_pos (by omega)]
    .rename_i h2;rw[if_neg (by omega),jq];congr 1;omega
  rw[oL] at hi;split
  .rename_i hc;rw[if_pos hc] at hi;obtain⟨g1,g2⟩:=mh _ s hi;exact⟨g1,aeD _ _ _ g1 g2⟩
  .rename_i hc;rw[if_neg hc] at hi;obtain⟨g1,g2⟩:=h7 _ s hi;exact⟨g1,aeD _ _ _ g1 g2⟩
def az9 (h:Inv C S O V own hv w0 σ0 A a w){j:Nat}(hr:p6 (S.o j)=true):(hv j).cells=#[hv j]/\(hv j).oneCell'=true:=by
 have bt:=h.objs j;cases cQ:S.o j with
 |row T e=>
  rw[cQ] at bt;obtain⟨cells,xs,h1,h2,h3,h4⟩:=bt;obtain⟨b,c,e1,_⟩:=Ad h2;rw[e1];exact⟨rfl,rfl⟩
 |mp kt et=>
  rw[cQ] at bt;obtain⟨k0,arr,clock,es,h1,_⟩:=bt;rw[h1];exact⟨rfl,rfl⟩
 |_=>rw[cQ] at hr;simp[p6] at hr
def Inv.storeRow (h:Inv C S O V own hv w0 σ0 A a w){j k n c i p:Nat}{T:TypeId}{e:Ty}{cells vs:List Value}{xs:List D}{v':Value}{d':D}(eo:S.o j=.row T e)(eV:hv j=.slice (some ⟨k,0,none⟩) n c)
 (h1:O.o j=.list xs) (h2:w.ownsRow w0.heap.size T e.size (hv j) xs.length cells) (h3:du C.cap V e cells xs) (h4:∀k,(hv j).ownBlock=some k->own k=some j) (hi:i<xs.length)
 (uS:i*e.size<=p) (eR:p+vs.length<=i*e.size+e.size) (hr:Rep C.cap V e v' d')
 (hv':∀q u,v'.cells[q]?=some u->(cells.take p++vs++cells.drop (p+vs.length))[i*e.size+q]?=some u):
 ∃cur,w.heap[k]?=some (.cells cur T (0,0))/\p+vs.length<=cur.size/\Inv C S (O.setO j (.list (xs.set i d'))) V own hv w0 σ0 A a (w.setRow k (cur.toList.take p++vs++cur.toList.drop (p+vs.length)).toArray):=by
 have bh:=h2.1;rcases h2.2 with⟨e0,e1⟩|⟨g,cap,cur,e1,e2,e3,e4,e5,e6,e7⟩
 .omega
 rw[eV] at e1;cases e1;have asl:i*e.size+e.size<=xs.length*e.size:=by
  have:(i+1)*e.size<=xs.length*e.size:=kc _ hi;rw[ka] at this;omega
 have aJh:xs.length*e.size<=c*e.size:=kc _ e4;have as6:p+vs.length<=cur.size:=by omega
 refine⟨cur,e3,as6,?_⟩;have bB:own k=some j:=h4 k (by rw[eV];rfl);obtain⟨b1,b2⟩:=aj8 (w:=w) (B:=w0.heap.size) (k:=k) (cs:=(cur.toList.take p++vs++cur.toList.drop (p+vs.length)).toArray) e2;have Gw:(cur.toList.take p++vs++cur.toList.drop (p+vs.length)).take (xs.length*e.size)=cells.take p++vs++cells.drop (p+vs.length):=by
  rw[<-e7];apply vE;intro q;simp only[qC,iQ,mF,dY,jq,AP];by_cases hq:q<xs.length*e.size
  .rw[if_pos hq];by_cases Gp:q<p
   .simp[Gp,Nat.lt_min,show q<cur.size by omega,hq]
   .by_cases ie:q-p<vs.length
    .rw[if_neg (by omega),mH (by omega),if_pos ie,if_neg (by omega),mH (by omega),if_pos ie]
    .rw[if_neg (by omega),mH (by omega),if_neg ie,if_neg (by omega),mH (by omega),if_neg ie,if_pos (by omega)]
  .rw[if_neg hq];have:¬q<p:=by omega
   rw[if_neg (by omega),mH (by omega),if_neg (by omega),if_neg (by omega)]
 have:=h.updB j (.row T e) (.list (xs.set i d')) b1 (λq hq ay=>b2 q λe=>ay (e▸bB))
  ⟨cells.take p++vs++cells.drop (p+vs.length),xs.set i d',by simp[Env.setO,aS],⟨by simp;omega,.inr ⟨k,c,_,by rw[eV];simp,e2,setRow_heap w k cur _ T _ e3,by simpa using e4,e5,by simp;omega,by simpa using Gw⟩⟩,?_,h4⟩
 .rw[St.setO_self eo] at this;exact this
 .obtain⟨us,u1,u2⟩:=h3;refine⟨λq=>if q=i then v' else us q,λq x hx=>?_,λq m u hq hm=>?_⟩
  .rw[Jf] at hx;by_cases CV:i=q
   .subst CV;simp only[if_true] at hx ⊢;rw[if_pos hi] at hx;cases hx;exact hr
   .rw[if_neg CV] at hx;simp only[show ¬q=i from λe=>CV e.symm,if_false];exact u1 q x hx
  .by_cases CV:q=i
   .subst CV;simp only[if_true] at hm;exact hv' m u hm
   .simp only[CV,if_false] at hm;simp only[List.length_set] at hq;have h9:=u2 q m u hq hm;have aJD:m<e.size:=by rw[<-(u1 q _ (aY hq)).size];exact(eA.1 hm).1
    have kR:q*e.size+m<p\/p+vs.length<=q*e.size+m:=by
     rcases Jm q i with af|hZ
     .left;have:(q+1)*e.size<=i*e.size:=kc _ af;rw[ka] at this;omega
     .right;have:(i+1)*e.size<=q*e.size:=kc _ (by omega);rw[ka] at this;omega
    rw[qC,mF,dY,mH (by omega)];rcases kR with ho|ho
    .rw[if_pos ho,iQ,if_pos ho];exact h9
    .rw[if_neg (by omega),nI (by omega),jq];rw[show p+vs.length+(q*e.size+m-p-vs.length)=q*e.size+m by omega];exact h9
def aoD (h:Inv C S O V own hv w0 σ0 A a w)(hC:CtxOK C σ0){T:TypeId}{x v:Operand}{r:St×List PI}(hr:Fo C S T x v=some r){o:Oper}(hd:o.dst=none)(ho:o.op=.store T x v):bV C w0 σ0 Z S O A a w o r:=by
 unfold Fo at hr;split at hr
 case h_2=>cases hr
 rename_i inf hi;obtain⟨dQ,_⟩:=vu h (gs:=[]) rfl x;split at hr
 case h_3=>cases hr
 .rename_i j ver off es;rw[es] at dQ;cases hb:Nat.beq ver (S.ver j)<;>simp only[hb,zyy,zyx] at hr
  .cases hr
  obtain⟨k,eV,gx⟩:=dQ.2 (aD hb);have bt:=h.objs j;split at hr
  case h_2=>cases hr
  rename_i ag shs eo;rw[eo] at bt;obtain⟨k',cs,E,ds,h1,h2,h3,h4,h5,h6,h7⟩:=bt;have cC:=h1;rw[eV] at h1;cases h1;split at hr
  .rename_i t e hu;have hv':=cu h hC rfl hu;cases hc:(Nat.beq inf.size t.size&&(t.rowT||t.one)&&Nat.ble (off+t.size) shs.length)<;>simp only[hc,zyy,zyx] at hr
   .cases hr
   cases hr;simp only[au,j5] at hc;obtain⟨⟨aJ,je⟩,hle⟩:=hc;have aJ:=aD aJ;have hle:=lx hle;obtain⟨f1,f2,f3⟩:=hv'.flat je;have jf:=hv'.size;refine bV.skip hd λO' aq=>?_;rw[xr aq]
   refine⟨_,OL ho hi gx (by rw[jf,aJ]) (λu hu=>by
        obtain⟨m,hm,rfl⟩:=fw hu;exact hv'.cellsOne je (m:=m) (by simp at hm ⊢)) h3 (by omega),?_⟩
   have cX:=h.storeBox (off:=off) (news:=t.flat.map .dat) (vs:=(a.eval v).cells.toList) (dn:=(e.ev O).cells) eo cC h2 h3 h4 h5 h6 h7 (by simp[f1,jf]) (by simp[f2,jf]) (by simp[jf];omega) (λi s hi=>by
        simp only[cq,aB] at hi;obtain⟨ti,Ti,rfl⟩:=hi;refine⟨λ_ _ e=>(by cases e),?_⟩;rw[Cw];exact(f3 i ti Ti).2)
   have e1:(a.eval v).cells.toList.length=t.size:=by simp[jf]
   rw[e1] at cX;rw[aJ];refine⟨V,own,hv,?_⟩;simpa [PE.ev,h5,D.cells] using cX
  .split at hr
   case h_2=>cases hr
   rename_i j' ud gY;obtain⟨Tf,_⟩:=vu h (gs:=[]) rfl v;rw[gY] at Tf;cases hc:(Nat.beq ud (S.ver j')&&p6 (S.o j')&&Nat.beq inf.size 1&&Nat.blt off shs.length)<;>simp only[hc,zyy,zyx] at hr
   .cases hr
   cases hr;simp only[au] at hc;obtain⟨⟨⟨atT,gA⟩,aJ⟩,af⟩:=hc;have aJ:=aD aJ;have af:off<shs.length:=by simpa [qF] using af
   have cD:=Tf.2 (aD atT);obtain⟨c1,c2⟩:=az9 h gA;have lH:(a.eval v).cells=#[a.eval v]:=by rw[cD];exact c1
   refine bV.skip hd λO' aq=>?_;rw[xr aq];refine⟨_,OL ho hi gx (by rw[lH,aJ];rfl) (λu hu=>by rw[lH] at hu;simp at hu;subst hu;rw[cD];exact c2) h3 (by omega),?_⟩
   have cX:=h.storeBox (off:=off) (news:=[.obj j' ud]) (vs:=[a.eval v]) (dn:=[.none]) eo cC h2 h3 h4 h5 h6 h7 rfl rfl (by simp;omega) (λi s hi=>by
        match i,hi with
        |0,hi=>simp at hi;subst hi;exact⟨λ_ _ e=>(by cases e),Tf.1,λ_=>by simpa using cD⟩
        |i+1,hi=>simp at hi)
   rw[lH,aJ];have e2:shs.take off++[Sh.obj j' ud]++shs.drop (off+[a.eval v].length)=shs.set off (.obj j' ud):=by
        rw[List.set_eq_take_append_cons_drop,if_pos af];simp
   rw[e2] at cX;refine⟨V,own,hv,?_⟩;simpa [PE.ev,h5,D.cells] using cX
 .rename_i j ver size off es;rw[es] at dQ;cases hb:Nat.beq ver (S.ver j)<;>simp only[hb,zyy,zyx] at hr
  .cases hr
  obtain⟨k,n,c,ik,i,eV,we,cg,gx⟩:=dQ.2 (aD hb);have bt:=h.objs j;split at hr
  .rename_i T' ts t e eo hu;rw[eo] at bt;have hv':=cu h hC rfl hu;cases hc:(Nat.beq inf.size t.size&&(t.rowT||t.one)&&Nat.beq size ts.length&&Nat.ble (off+t.size) ts.length&&Ty.subs t.flat ((ts.drop off).take t.size))<;>simp only[hc,zyy,zyx] at hr
   .cases hr
   cases hr;simp only[au,j5] at hc;obtain⟨⟨⟨⟨aJ,je⟩,zt⟩,hle⟩,cK⟩:=hc;have aJ:=aD aJ;have zt:=aD zt;have hle:=lx hle;obtain⟨f1,f2,f3⟩:=hv'.flat je;have jf:=hv'.size;have f1:t.flat.length=t.size:=f1;have f2:(e.ev O).cells.length=t.size:=f2;have jf:(a.eval v).cells.size=t.size:=jf;obtain⟨cells,xs,k1,k2,k3,k4⟩:=bt;obtain⟨b,c',e1,F6,F7⟩:=Ad k2;rw[eV] at e1;cases e1;obtain⟨us,u1,u2⟩:=k3;obtain⟨y,hy⟩:∃y,xs[i]?=some y:=⟨_,aY cg⟩
   obtain⟨os,ds,wF,hd0,l1,l2,aP,eM⟩:=(u1 i y hy).agg_inv;have Gy:(a.eval v).cells.toList.length=t.size:=by simp[jf]
   have mh:Rep C.cap V (.agg ts) (.agg (os.take off++(a.eval v).cells.toList++os.drop (off+(a.eval v).cells.toList.length)).toArray) (.agg (dI ds off (e.ev O).cells)):=by
        refine .agg _ _ _ (by simp[jf];omega) (by simp[dI,f2];omega) (λm tm hm=>?_) eM;rw[Lt os _ off undef (by rw[Gy];omega),dI,Lt ds _ off .none (by rw[f2];omega),Gy,f2];split
        .rename_i hc;have atx:=Ty.subs_get _ _ cK (m-off) tm (by
          rw[iQ,if_pos (by omega),jq,show off+(m-off)=m by omega];exact hm)
         obtain⟨tf,htf,cX⟩:=atx;rw[Cw];exact((f3 _ tf htf).2).sub cX
        .exact aP m tm hm
   have bh:=k2.1;have asl:i*(Ty.agg ts).size+(Ty.agg ts).size<=xs.length*(Ty.agg ts).size:=by
        have:(i+1)*(Ty.agg ts).size<=xs.length*(Ty.agg ts).size:=kc _ cg;rw[ka] at this;omega
   have ae0:(Ty.agg ts).size=ts.length:=rfl
   obtain⟨cur,q1,q2,q3⟩:=h.storeRow (i:=i) (p:=i*(Ty.agg ts).size+off) (vs:=(a.eval v).cells.toList) eo eV k1 k2 ⟨us,u1,u2⟩ k4 cg (by omega) (by rw[Gy];omega) mh (λq u hq=>by
        have dE:(os.take off++(a.eval v).cells.toList++os.drop (off+(a.eval v).cells.toList.length))[q]?=some u:=by simpa [Value.cells] using hq
        have aJO:q<ts.length:=by have:=(eO.1 dE).1;simp[jf] at this;omega
        rw[qC,mF,dY,mH (by omega)] at dE;rw[qC,mF,dY,mH (by omega)];by_cases tu:q<off
        .rw[if_pos tu,iQ,if_pos tu] at dE;rw[if_pos (by omega),iQ,if_pos (by omega)];exact u2 i q u cg (by rw[wF];simpa [Value.cells] using dE)
        .rw[if_neg tu,mF] at dE;rw[if_neg (by omega),mF];rw[show i*(Ty.agg ts).size+q-(i*(Ty.agg ts).size+off)=q-off by omega];by_cases Mk:q-off<(a.eval v).cells.toList.length
         .rw[if_pos Mk] at dE ⊢;exact dE
         .rw[if_neg Mk,jq] at dE;rw[if_neg Mk,jq];rw[show off+(a.eval v).cells.toList.length+(q-off-(a.eval v).cells.toList.length)=q by omega] at dE;rw[show i*(Ty.agg ts).size+off+(a.eval v).cells.toList.length+(q-off-(a.eval v).cells.toList.length)=i*(Ty.agg ts).size+q by omega];exact u2 i q u cg (by rw[wF];simpa [Value.cells] using dE))
   refine bV.skip hd λO' aq=>?_;rw[xr aq]
   refine⟨_,OL ho hi (cs:=cur) (by rw[gx,zt]) (by rw[jf,aJ]) (λu hu=>by
        obtain⟨m,hm,rfl⟩:=fw hu;exact hv'.cellsOne je (m:=m) (by simp at hm ⊢)) q1 (by rw[Gy] at q2;rw[aJ,<-ae0];exact q2),V,own,hv,?_⟩
   rw[Gy] at q3;simp only[PE.ev,k1,D.l_list,we,D.i_int,xQ,uG hy,hd0,xw];rw[aJ,<-ae0];exact q3
  .rename_i T' e0 t e ay eo hu;rw[eo] at bt;have hv':=cu h hC rfl hu;cases hc:(Nat.beq inf.size 1&&Nat.beq size 1&&Nat.beq off 0&&e0.one&&Ty.sub t e0)<;>simp only[hc,zyy,zyx] at hr
   .cases hr
   cases hr;simp only[au] at hc;obtain⟨⟨⟨⟨aJ,zt⟩,jd⟩,eM⟩,cK⟩:=hc;have aJ:=aD aJ;have zt:=aD zt;have jd:=aD jd;subst jd;subst zt;have hve:=hv'.sub cK;obtain⟨c1,c2⟩:=hve.oneCell eM;have FV:e0.size=1:=by cases e0<;>simp_all [Ty.size,Ty.one]
   obtain⟨cells,xs,k1,k2,k3,k4⟩:=bt;obtain⟨b,c',e1,F6,F7⟩:=Ad k2;rw[eV] at e1;cases e1;obtain⟨y,hy⟩:∃y,xs[i]?=some y:=⟨_,aY cg⟩
   have bh:=k2.1
   obtain⟨cur,q1,q2,q3⟩:=h.storeRow (i:=i) (p:=i*e0.size) (vs:=[a.eval v]) eo eV k1 k2 k3 k4 cg (aZ _) (by rw[FV];simp) hve (λq u hq=>by
        rw[c1] at hq;have tp:q=0:=by have:=(eA.1 hq).1;simpa using this
        subst tp;simp at hq;subst hq;have:i*e0.size<=cells.length:=by rw[bh];exact kc _ (by omega)
        rw[qC,nI (by simp;omega)];simp[mH this])
   refine bV.skip hd λO' aq=>?_;rw[xr aq];refine⟨_,OL ho hi (cs:=cur) (by rw[gx]) (by rw[c1,aJ];rfl) (λu hu=>by rw[c1] at hu;simp at hu;subst hu;exact c2) q1 (by rw[FV] at q2;rw[aJ];simpa using q2),V,own,hv,?_⟩;rw[c1,aJ];have GF:xw y 0 (e.ev O)=e.ev O:=by
        obtain⟨us,u1,u2⟩:=k3;have:=(u1 i y hy).dcells eM;cases y with
        |agg ds=>have h8:=u1 i _ hy;generalize us i=vv at h8;cases h8;simp[Ty.one] at eM
        |_=>rfl
   simp only[PE.ev,k1,D.l_list,we,D.i_int,xQ,uG hy,GF];rw[FV] at q3;simpa using q3
  .cases hr
def ao5 {O:Env}{es:List PE}{i:Nat}{e:PE}(h:es[i]?=some e):(PE.evs O es)[i]?=some (e.ev O):=by
 rw[PE.evs_eq,cq,h];rfl
def acM (h:Inv C S O V own hv w0 σ0 A a w)(hC:CtxOK C σ0)(hg:holds gs O=true){T:TypeId}{len:Nat}{ps:Array (Nat×Operand)}{r:St×List PI}(hr:yM C S gs dst T len ps.toList=some r){o:Oper}
 (ho:o.op=.buildSlice T len ps):∃(E:TypeId) (e:Ty) (es:List PE) (v:Value) (w':World),C.P.underlying T=some (.slice E)/\qu C.P E=some e/\r=(mkObj S dst (.row E e),[.setO dst (.lst es),.setR dst (.con .none)])/\
   (execOp a.eval o).run C.P w=.ok (.value v) w'/\Below w.heap.size w w'/\(∀k,Nat.beq k w.heap.size=true->w.heap.size<=k/\k<w'.heap.size)/\
   cf C (S.newO dst (.row E e)) (O.setO dst (.list (PE.evs O es))) V (fM own dst (λk=>Nat.beq k w.heap.size)) (bZ hv dst v) w' w0.heap.size dst (.row E e):=by
 unfold yM at hr;split at hr
 case h_2=>cases hr
 rename_i E hT;simp only[az] at hr;obtain⟨e,he,z,hz,hr⟩:=hr;cases hc:(sL C.P E e&&Ty.sub z.1 e&&kA (ps.toList.map (·.1))&&ps.toList.all (λp=>Nat.blt p.1 len)&&Nat.ble (len*e.size) 16777216)<;>simp only[hc,zyy,zyx] at hr
 .cases hr
 simp only[au] at hc;obtain⟨⟨⟨⟨hef,cK⟩,bp⟩,fJ⟩,hle⟩:=hc;have hle:=lx hle;obtain⟨inf,zv,hi,hs,ri,h1,hzv,nl⟩:=Rl hef;have nm:=aaQ nl;have nf:=rH bp;have GG:=((AO (cap:=C.cap) (V:=V) hz nl).1).sub cK;simp only[aB] at hr;obtain⟨es,lJ,rfl⟩:=hr;obtain⟨el1,el2⟩:=mapM_some _ _ _ lJ;simp only[abf] at el1;have aec:∀i,i<len->∃pe,es[i]?=some pe/\Lj C S gs e z.2 ps.toList i=some pe:=by
  intro i hi;obtain⟨y,hy1,wG⟩:=el2 i i (by rw[sy hi]);exact⟨y,hy1,wG⟩
 have tn:∀x,x∈ps.toList->x.1<len/\∃t pe,use C S gs x.2=some (t,pe)/\Ty.sub t e=true/\es[x.1]?=some pe:=by
  intro x hx;have zB:x.1<len:=by
   have:=cM.1 fJ x hx;simpa [qF] using this
  refine⟨zB,?_⟩;obtain⟨pe,uS,eR⟩:=aec x.1 zB;have FZ:=adi nf (i:=x.1) (x:=x.2) hx;simp only[Lj,FZ,az] at eR;obtain⟨y,hy,eR⟩:=eR;cases hs:Ty.sub y.1 e<;>simp only[hs,zyy,zyx] at eR
  .cases eR
  cases eR;exact⟨y.1,y.2,hy,hs,uS⟩
 let c0:Array Value:=madeCells zv.cells (len*e.size)
 have FN:c0.size=len*e.size:=size_madeCells _ _
 have nj:∀p,p∈(ps.toList.map λ(x:Nat×Operand)=>(x.1,a.eval x.2))->∃o,(λi=>some (i*e.size,e.size)) p.1=some (o,p.2.cells.size)/\o+p.2.cells.size<=c0.size:=by
  intro p hp;obtain⟨x,hx,rfl⟩:=cd.1 hp;obtain⟨zB,t,pe,hu,cX,_⟩:=tn x hx;have wz:=((cu h hC hg hu).sub cX).size;simp only;refine⟨x.1*e.size,by rw[wz],?_⟩;rw[wz,FN];have:(x.1+1)*e.size<=len*e.size:=kc _ zB;rw[ka] at this;omega
 have CG:∀(i j oi si oj sj:Nat),i≠j->(λi=>some (i*e.size,e.size)) i=some (oi,si)->(λi=>some (i*e.size,e.size)) j=some (oj,sj)->oi+si<=oj\/oj+sj<=oi:=by
  intro i j oi si oj sj ay hi hj;simp only[bj,pz] at hi hj;obtain⟨rfl,rfl⟩:=hi;obtain⟨rfl,rfl⟩:=hj;rcases Jm i j with af|hZ
  .left;have:(i+1)*e.size<=j*e.size:=kc _ af;rw[ka] at this;omega
  .right;have:(j+1)*e.size<=i*e.size:=kc _ (by omega);rw[ka] at this;omega
 obtain⟨db,f1,f2,f3,f4⟩:=Ru (λi=>some (i*e.size,e.size)) (ps.toList.map λ(x:Nat×Operand)=>(x.1,a.eval x.2)) c0 nj CG (by simpa [I9] using nf);have aq:(execOp a.eval o).run C.P w=.ok (.value (.slice (some ⟨w.heap.size,0,none⟩) len len)) (w.alloc (.cells db E)):=by
  have n1:¬(len*inf.size>2^24):=by rw[hs];omega
  have Lo:Instr.fill (λi=>some (i*inf.size,inf.size)) c0 (ps.toList.map λ(x:Nat×Operand)=>(x.1,a.eval x.2))=some db:=by rw[hs];exact f1
  by_cases h0:len*inf.size=0
  .have CE:c0=#[]:=by
        apply Pp;rw[FN,<-hs];exact h0
   rw[CE] at Lo
   have ao8:Instr.fill (λi=>some (i*inf.size,inf.size)) (Array.map (λ_=>default) (Array.range 0)) (ps.toList.map λ(x:Nat×Operand)=>(x.1,a.eval x.2))=some db:=by
        have:(Array.map (λ_=>(default:Value)) (Array.range 0))=#[]:=by simp
        rw[this];exact Lo
   simp[execOp,ho,Instr.buildSlice,run_underlying hT,Go.sizeOf,run_typeInfo w hi,n1,h0,ao8,newRow]
  .have CE:c0=(Array.range (len*inf.size)).map (λx=>zv.cells[x%zv.cells.size]!):=by simp only[c0,madeCells,hs]
   rw[CE] at Lo;have h00:¬(len=0\/inf.size=0):=by rw[<-Nat.mul_eq_zero];exact h0
   simp[execOp,ho,Instr.buildSlice,run_underlying hT,Go.sizeOf,run_typeInfo w hi,n1,h0,h00,zeroValue,hzv,Lo,newRow]
 refine⟨E,e,es,_,_,hT,he,rfl,aq,(Below.refl _ _).alloc (aZ _) _,λk hk=>by simp at hk;simp;omega,?_⟩;have de:(PE.evs O es).length=len:=by rw[PE.evs_eq,dX,el1]
 have ar6:∀(i:Nat) (x:D),(PE.evs O es)[i]?=some x->∃v,Rep C.cap V e v x/\∀q u,v.cells[q]?=some u->db.toList[i*e.size+q]?=some u:=by
  intro i x hx;have L4:i<len:=by have:=(eO.1 hx).1;omega
  obtain⟨pe,uS,eR⟩:=aec i L4;rw[ao5 uS] at hx;cases hx;unfold Lj at eR;split at eR
  .rename_i p hp;have hpm:=Er hp;have Mj:p.1=i:=by have:=PF hp;simpa using this
   obtain⟨_,t,pe',hu,cX,oH⟩:=tn p hpm;rw[Mj,uS] at oH;cases oH;have bK:=(cu h hC hg hu).sub cX;refine⟨_,bK,λq u hq=>?_⟩;have tq:q<(a.eval p.2).cells.size:=(eA.1 hq).1;have:=f3 p.1 (a.eval p.2) (p.1*e.size) (cd.2 ⟨p,hpm,rfl⟩) (by simp[bK.size]) q tq;rw[Mj] at this;simp[this,hq]
  .rename_i hp;cases eR;refine⟨zv,GG,λq u hq=>?_⟩;have tq:q<zv.cells.size:=(eA.1 hq).1
   have pR:i∉(ps.toList.map λ(x:Nat×Operand)=>(x.1,a.eval x.2)).map (·.1):=by
        intro cV;simp only[nJ,cd,I9] at cV;obtain⟨x,C3,e⟩:=cV;have:=xS.1 hp x C3;simp[e] at this
   have:=f4 i (i*e.size) e.size pR rfl q (by omega);have h9:c0[i*e.size+q]?=zv.cells[q]?:=by
        simp only[c0];rw[<-nm];exact agb (by omega) L4 tq
   simp[this,h9,hq]
 have jf:∃vs:Nat->Value,∀(i:Nat) (x:D),(PE.evs O es)[i]?=some x->Rep C.cap V e (vs i) x/\∀q u,(vs i).cells[q]?=some u->db.toList[i*e.size+q]?=some u:=by
  have kN:∀i,∃v,∀x,(PE.evs O es)[i]?=some x->Rep C.cap V e v x/\∀q u,v.cells[q]?=some u->db.toList[i*e.size+q]?=some u:=by
   intro i;cases hx:(PE.evs O es)[i]? with
   |none=>exact⟨undef,λx da=>by cases da⟩
   |some x=>
    obtain⟨v,hv⟩:=ar6 i x hx;exact⟨v,λy hy=>by cases hy;exact hv⟩
  exact⟨λi=>Classical.choose (kN i),λi x hx=>aaZ (kN i) x hx⟩
 obtain⟨vs,jf⟩:=jf;have cI:db.size=len*e.size:=by rw[f2,FN]
 refine⟨db.toList,PE.evs O es,by simp[Env.setO,aS],?_,⟨vs,λi x hx=>(jf i x hx).1,λi j u hi hj=>(jf i _ (aY hi)).2 j u hj⟩,λk hk=>by rw[aS] at hk;simp[Value.ownBlock] at hk;simp[fM,hk]⟩;rw[aS,de];have Sp:len<=maxLen:=by
  have:len*1<=len*e.size:=Nat.mul_le_mul_left _ h1;unfold maxLen;omega
 exact⟨by simp[cI],.inr ⟨w.heap.size,len,db,rfl,h.below.size,heap_alloc_new w _,aZ _,Sp,cI,by rw[xY (by simp[cI])]⟩⟩
def aoc (h:Inv C S O V own hv w0 σ0 A a w)(hC:CtxOK C σ0)(ht:¬A dst)(af:dst<a.tmps.size){T:TypeId}{len:Nat}{ps:Array (Nat×Operand)}{r:St×List PI}(hr:yM C S [] dst T len ps.toList=some r){o:Oper}(hd:o.dst=some dst)
 (ho:o.op=.buildSlice T len ps):bV C w0 σ0 Z S O A a w o r:=by
 obtain⟨E,e,es,v,w',_,_,rfl,aq,hb,dP,cQ⟩:=acM h hC rfl hr ho;refine bV.value hd λO' pV=>⟨_,_,aq,?_⟩
 rw[D0 pV];exact h.mkObj ht af (.row E e) _ _ (λk=>Nat.beq k w.heap.size) hb dP cQ
def Inv.kill (h:Inv C S O V own hv w0 σ0 A a w)(j:Nat):Inv C (S.newO j .dead) O V own hv w0 σ0 A a w:=by
 have dR:∀i,S.ver i<=(S.newO j .dead).ver i:=by
  intro i;show S.ver i<=bZ S.ver j (S.ver j+1) i;rw[fq];by_cases e:i=j
  .subst e;simp
  .simp[e]
 have hc:Compat S hv (S.newO j .dead) hv:=⟨dR,λ_ _=>rfl⟩
 refine h.step (·=j) rfl (.refl V) h.ok (λ_ _ _ hx=>.inl hx) (λ_ _ hx=>.inl hx) (.refl _ _) hc (λi hi=>⟨by simp[St.newO,bJ _ _ hi],rfl,rfl,λk hk=>⟨hk,rfl⟩⟩) (λi hi=>?_) h.owns (λ_=>id) (λt=>.inl ⟨rfl,rfl,rfl⟩) (λ_ _=>rfl) (λ_ _ _=>rfl) (λk i hk=>.inl ⟨i,hk⟩) (λi hi=>by subst hi;simp[St.newO,aS]);subst hi;simp only[St.newO,aS];trivial
def aor (h:Inv C S O V own hv w0 σ0 A a w)(hC:CtxOK C σ0)(ht:¬A dst)(af:dst<a.tmps.size)(eF:∀g,g∈gs->A g.1)(hg:holds gs O=true){T:TypeId}{len:Nat}{ps:Array (Nat×Operand)}{r:St×List PI}(hr:Ck C S gs dst T len ps.toList=some r){o:Oper}(hd:o.dst=some dst)
 (ho:o.op=.buildSlice T len ps):bV C w0 σ0 Z S O A a w o r:=by
 unfold Ck at hr;split at hr
 case h_2=>cases hr
 rename_i E q hT hq;simp only[az] at hr;obtain⟨e,he,hr⟩:=hr;obtain⟨E',e',es,v,w',CA,oA,rfl,aq,hb,dP,cQ⟩:=acM h hC hg hq ho;rw[hT] at CA;cases CA;rw[he] at oA;cases oA;cases hr;refine bV.value hd λO' pV=>⟨_,_,aq,?_⟩
 have hρ:O'=O.setR dst (.list (PE.evs O es)):=by simp[PI.runs,PI.run,PE.ev] at pV;exact pV.symm
 subst hρ;have h1:=h.newO dst (.row E e) (.list (PE.evs O es)) v (λk=>Nat.beq k w.heap.size) hb dP cQ;obtain⟨σ2,jC,_,h2⟩:=h1.fz dst;have CJ:(S.newO dst (.row E e)).fz dst=(S.newO dst (.row E e)).setO dst (.fz (.slice e.rol)):=by
  have:(S.newO dst (.row E e)).o dst=.row E e:=aS _ _ _;unfold St.fz;rw[this]
 rw[CJ] at h2;have bt:=h2.objs dst;have e1:((S.newO dst (.row E e)).setO dst (.fz (.slice e.rol))).o dst=.fz (.slice e.rol):=aS _ _ _;rw[e1] at bt;have bK:Rep C.cap σ2 (.slice e.rol) v (.list (PE.evs O es)):=by
  have:=bt.2
  rwa [aS,show(O.setO dst (.list (PE.evs O es))).o dst=.list (PE.evs O es) from aS _ _ _] at this
 have h3:Inv C (S.newO dst .dead) O σ2 jC (bZ hv dst v) w0 σ0 A a w':=by
  refine h2.step (·=dst) rfl (.refl σ2) h2.ok (λ_ _ _ hx=>.inl hx) (λ_ _ hx=>.inl hx) (.refl _ _) ⟨λi=>aZ _,λ_ _=>rfl⟩ (λi hi=>⟨?_,?_,rfl,λk hk=>⟨hk,rfl⟩⟩) (λi hi=>?_) h2.owns (λ_=>id) (λt=>.inl ⟨rfl,rfl,rfl⟩) (λ_ _=>rfl) (λ_ _ _=>rfl) (λk i hk=>.inl ⟨i,hk⟩) (λi hi=>by subst hi;simp[St.newO,aS])
  .simp[St.newO,St.setO,bJ _ _ hi]
  .simp[Env.setO,bJ _ _ hi]
  .subst hi;simp only[St.newO,aS];trivial
 have hh:holds gs (O.setR dst (.list (PE.evs O es)))=true:=by rw[Gf (t:=dst) λg hm e=>ht (by rw[<-e];exact eF g hm)];exact hg
 cases gs with
 |nil=>exact⟨_,_,_,h3.setReg ht (s:=.dat (.slice e.rol)) bK af (λ_ _ e=>by cases e)⟩
 |cons g bN=>
  refine⟨_,_,_,h3.setReg ht (s:=.opt (g::bN) (.dat (.slice e.rol))) ⟨λ_=>bK,λe=>absurd (hh.symm.trans e) (by decide)⟩ af (λgs s e=>?_)⟩;cases e;exact⟨eF,λ_ _ e=>by cases e⟩
end
end Cx
