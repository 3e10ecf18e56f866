/-
  Shared texts of this claim.
-/
import Derived.Test.YtefchokhgdmamaaGreatDoorMAB
import Derived.Laws.OwnMore
import Derived.Lib.ConvBytes
set_option linter.defProp false
set_option linter.unusedSimpArgs false
set_option linter.unusedVariables false
namespace Cx
open Go Go.RowKit
def iu (b i:Nat):Nat:=4096*(i+1)+b
def St.fz (S:St)(j:Nat):St:=
 match S.o j with
 |.row _ e=>S.setO j (.fz (.slice e.rol))
 |.mp k e=>S.setO j (.fz (.map k e))
 |_=>S
def Ek (S:St)(b:Nat):Option (St×List PI):=
 match S.o b with
 |.box ag shs=>
  (rS S (.o b) shs 0).bind λx=>
    bif ag then some (S.setO b (.fbox (.agg x.1)),[.setO b (.mk x.2)])
    else match x.1,x.2 with
     |[t],[e]=>some (S.setO b (.fbox t),[.setO b e])
     |_,_=>Option.none
 |_=>Option.none
def St.mv (S:St)(j j':Nat):St:=
 {S with o:=cv (cv S.o j' (S.o j)) j .dead,ver:=cv (cv S.ver j' (S.ver j'+1)) j (S.ver j+1)}
def mg:Ob->Bool
 |.row ..=>true
 |.mp ..=>true
 |_=>false
def zt (S:St)(t j':Nat):Option (St×List PI):=
 match S.r t with
 |.obj j ver=>
  bif Nat.beq ver (S.ver j)&&mg (S.o j)&& !Nat.beq j j' then some ((S.mv j j').setR t (.obj j' (S.ver j'+1)),[.setO j' (.o j)])
  else some (S,[])
 |_=>some (S,[])
def G8 (S:St)(b i j':Nat):Option (St×List PI):=
 match S.o b with
 |.box ag shs=>
  match shs[i]? with
  |some (.obj j ver)=>
   bif Nat.beq ver (S.ver j)&&mg (S.o j)&& !Nat.beq j j'&& !Nat.beq b j'&& !Nat.beq b j then
    some ((S.mv j j').setO b (.box ag (shs.set i (.obj j' (S.ver j'+1)))),[.setO j' (.o j)])
   else some (S,[])
  |_=>some (S,[])
 |_=>some (S,[])
def E5 (C:Ctx)(S:St)(b i j:Nat)(T:TypeId):Option (St×List PI):=
 match S.o b with
 |.box ag shs=>
  match shs[i]?,qf C.P T with
  |some (.dat (.nils _)),some e=>
   bif !Nat.beq b j then some ((S.newO j (.row T e)).setO b (.box ag (shs.set i (.obj j (S.ver j+1)))),[.setO j (.con (.list []))])
   else some (S,[])
  |_,_=>some (S,[])
 |_=>some (S,[])
section
variable {C:Ctx} {S:St} {O:Env} {V:Im} {own:Nat->Option Nat} {hv:Nat->Value} {w0:World} {σ0:Base} {A:Nat->Prop} {a:Act} {w:World} {gs:List (Nat×Bool)} {Z:aV} {dst:Nat}
def Inv.lt (h:Inv C S O V own hv w0 σ0 A a w){k o:Nat}{u:Value}(hc:V.c k o=some u):k<w.heap.size:=World.block_lt_of_cell? w (a:=⟨k,o,none⟩) (h.ok.c _ _ _ hc)
def Inv.ltm (h:Inv C S O V own hv w0 σ0 A a w){k:Nat}{es:List (Value×Value)}(hc:V.m k=some es):k<w.heap.size:=by
 exact(h.ok.m _ _ hc).lt
def Im.ok.below {V:Im}{w w':World}(h:V.ok w)(hb:Below w.heap.size w w'):V.ok w':=by
 refine⟨λk o v hc=>?_,λk es hc=>?_⟩
 .have h1:=h.c k o v hc;rw[hb.cell (World.block_lt_of_cell? w (a:=⟨k,o,none⟩) h1)];exact h1
 .exact(h.m k es hc).keep (hb.block k (h.m k es hc).lt)
def gC (own:Nat->Option Nat)(j:Nat)(nb:Nat->Bool):Nat->Option Nat:=λk=>if nb k then some j else if own k=some j then none else own k
def Inv.newOσ (h:Inv C S O V own hv w0 σ0 A a w)(j:Nat)(ob:Ob)(d:D)(v:Value)(nb:Nat->Bool){V':Im}{w':World}(hle:V.le V')(az:V'.ok w')(dD:∀k o x,V'.c k o=some x->V.c k o=some x\/w.heap.size<=k)(dp:∀k x,V'.m k=some x->V.m k=some x\/w.heap.size<=k)
 (hw:Below w.heap.size w w') (dN:∀k,nb k=true->w.heap.size<=k/\k<w'.heap.size) (dC:∀k,nb k=true->(∀o,V'.c k o=none)/\V'.m k=none)
 (de:cR C (S.newO j ob) (O.setO j d) V' (gC own j nb) (cv hv j v) w' w0.heap.size j ob) (oD:ob≠.tr:=by intro h;cases h):Inv C (S.newO j ob) (O.setO j d) V' (gC own j nb) (cv hv j v) w0 σ0 A a w':=by
 have aH:w0.heap.size<=w.heap.size:=h.below.size;have be:∀k i,i≠j->own k=some i->gC own j nb k=some i:=by
  intro k i hi hk;have h1:=h.owns k i hk;have h2:nb k=false:=by
   cases hn:nb k with
   |false=>rfl
   |true=>have:=dN k hn;omega
  simp[gC,h2,hk,hi]
 refine h.step (λi=>i=j) rfl hle az (λk o x hx=>(dD k o x hx).imp id λe=>⟨by omega,.inr e⟩) (λk x hx=>(dp k x hx).imp id λe=>⟨by omega,.inr e⟩) (hw.mono aH) ⟨λi=>?_,λi e=>?_⟩ (λi hi=>⟨?_,?_,?_,λk hk=>⟨be k i hi hk,?_⟩⟩) (λi hi=>?_) (λk i hk=>?_) (λ_=>id) (λt=>.inl ⟨rfl,rfl,rfl⟩) (λ_ _=>rfl) (λk hk _=>hw.block k hk) (λk i hk=>by
  unfold gC at hk;split at hk
  .rename_i hn;exact .inr (dN k hn).1
  .split at hk
   .cases hk
   .exact .inl ⟨i,hk⟩) (λi hi=>by subst hi;simpa only[St.newO,aO] using oD)
 .simp only[St.newO,gm];split<;>rename_i e
  .subst e;omega
  .omega
 .simp only[St.newO,gm] at e;split at e
  .rename_i e';subst e';omega
  .rename_i aB;exact bt _ _ aB
 .simp[St.newO,bt _ _ hi]
 .simp[Env.setO,bt _ _ hi]
 .exact bt _ _ hi
 .exact hw.block k (h.owns k i hk).2.1
 .subst hi;simp only[St.newO,aO];exact de
 .unfold gC at hk;split at hk
  .rename_i hn;obtain⟨g1,g2⟩:=dN k hn;exact⟨by omega,g2,(dC k hn).1,(dC k hn).2⟩
  .split at hk
   .cases hk
   .obtain⟨g1,g2,g3,g4⟩:=h.owns k i hk;refine⟨g1,by have:=hw.size;omega,λo=>?_,?_⟩
    .cases hc:V'.c k o with
     |none=>rfl
     |some u=>
      rcases dD k o u hc with e|e
      .rw[g3 o] at e;cases e
      .omega
    .cases hc:V'.m k with
     |none=>rfl
     |some u=>
      rcases dp k u hc with e|e
      .rw[g4] at e;cases e
      .omega
def Inv.newO (h:Inv C S O V own hv w0 σ0 A a w)(j:Nat)(ob:Ob)(d:D)(v:Value)(nb:Nat->Bool){w':World}(hw:Below w.heap.size w w')(dN:∀k,nb k=true->w.heap.size<=k/\k<w'.heap.size)
 (de:cR C (S.newO j ob) (O.setO j d) V (gC own j nb) (cv hv j v) w' w0.heap.size j ob) (oD:ob≠.tr:=by intro h;cases h):Inv C (S.newO j ob) (O.setO j d) V (gC own j nb) (cv hv j v) w0 σ0 A a w':=by
 refine h.newOσ j ob d v nb (.refl V) (h.ok.below hw) (λ_ _ _ hx=>.inl hx) (λ_ _ hx=>.inl hx) hw dN (λk hn=>⟨λo=>?_,?_⟩) de oD
 .cases hc:V.c k o with
  |none=>rfl
  |some u=>have:=h.lt hc;have:=(dN k hn).1;omega
 .cases hc:V.m k with
  |none=>rfl
  |some u=>have:=h.ltm hc;have:=(dN k hn).1;omega
def Inv.setObj (h:Inv C S O V own hv w0 σ0 A a w){t j:Nat}(ht:¬A t){v:Value}(fK:hv j=v)(ah:t<a.tmps.size):
 Inv C (S.setR t (.obj j (S.ver j))) (O.setR t .none) V own hv w0 σ0 (λu=>A u\/u=t) (a.put (some t) v) w:=
 h.setReg ht (s:=.obj j (S.ver j)) (v:=v) (d:=.none) ⟨aY _,λ_=>fK.symm⟩ ah (λ_ _ e=>by cases e)
def J5 (S:St)(j:Nat):(S.fz j).ver=S.ver/\(S.fz j).r=S.r:=by
 unfold St.fz;split<;>exact⟨rfl,rfl⟩
def Inv.fz (h:Inv C S O V own hv w0 σ0 A a w)(j:Nat):∃V' own',V.le V'/\Inv C (S.fz j) O V' own' hv w0 σ0 A a w:=by
 have ba:=h.objs j;unfold St.fz;split
 .rename_i T e eo;rw[eo] at ba;obtain⟨cells,xs,h1,h2,⟨vs,h3,h4⟩,h5⟩:=ba;have aH:w0.heap.size<=w.heap.size:=h.below.size
  let nb:Nat->Bool:=λk=>decide ((hv j).ownBlock=some k)
  let V':Im:={c:=λk o=>if nb k then cells[o]? else V.c k o,m:=V.m}
  have dN:∀k,nb k=true->own k=some j:=λk hk=>h5 k (by simpa [nb] using hk);have hle:V.le V':=by
   refine⟨λk o v hc=>?_,λk es hc=>hc⟩;have:nb k=false:=by
        cases hn:nb k with
        |false=>rfl
        |true=>have:=(h.owns k j (dN k hn)).2.2.1 o;rw[this] at hc;cases hc
   simp[V',this,hc]
  refine⟨V',λk=>if nb k then none else own k,hle,h.step (λi=>i=j) rfl hle ?_ (λk o x hx=>?_) (λ_ _ hx=>.inl hx) (.refl _ _) ⟨λ_=>aY _,λ_ _=>rfl⟩ (λi hi=>⟨?_,rfl,rfl,λk hk=>⟨?_,rfl⟩⟩) (λi hi=>?_) (λk i hk=>?_) (λ_=>id) (λt=>.inl ⟨rfl,rfl,rfl⟩) (λ_ _=>rfl) (λ_ _ _=>rfl) (λk i hk=>by
        split at hk
        .cases hk
        .exact .inl ⟨i,hk⟩) (λi hi=>by subst hi;simp[St.setO,aO])⟩
  .refine⟨λk o v hc=>?_,h.ok.m⟩;simp only[V'] at hc;split at hc
   .rename_i hn;have de:(hv j).ownBlock=some k:=by simpa [nb] using hn
    have:=h2.cells de o v hc;rw[tJ] at this;simpa using this
   .exact h.ok.c k o v hc
  .simp only[V'] at hx;split at hx
   .rename_i hn;exact .inr ⟨(h.owns k j (dN k hn)).1,.inl ⟨j,dN k hn⟩⟩
   .exact .inl hx
  .simp[St.setO,bt _ _ hi]
  .have:nb k=false:=by
        cases hn:nb k with
        |false=>rfl
        |true=>rw[dN k hn] at hk;simp at hk;exact absurd hk.symm hi
   simp[this,hk]
  .subst hi;simp only[St.setO,aO];refine⟨rfl,?_⟩;rw[h1];rcases h2.2 with⟨e1,e2⟩|⟨g,cap,cur,e1,e2,e3,e4,e5,e6,e7⟩
   .rw[e1];have:xs=[]:=NR e2;subst this;exact .nil _
   .rw[e1];refine .slice e.rol g 0 xs.length cap xs vs rfl e4 e5 (λi x hx=>((h3 i x hx).mono hle).unf_rol) (λi m u hi hu=>?_);rw[Ty.rol_size];have hn:nb g=true:=by simp[nb,e1,Value.ownBlock]
    simp only[V',hn,if_true,fR];exact h4 i m u hi hu
  .split at hk
   .cases hk
   .rename_i hn;obtain⟨g1,g2,g3,g4⟩:=h.owns k i hk;exact⟨g1,g2,λo=>by simp[V',hn,g3 o],g4⟩
 .rename_i kt et eo;rw[eo] at ba;obtain⟨k0,arr,clock,gI,h1,h2,h3,h4,h5,⟨hx,_⟩,h6⟩:=ba;have aH:w0.heap.size<=w.heap.size:=h.below.size
  let V':Im:={c:=V.c,m:=λk=>if k=k0 then some (entriesOf arr) else V.m k}
  have hle:V.le V':=by
   refine⟨λk o v hc=>hc,λk es hc=>?_⟩;have:k≠k0:=λe=>by subst e;rw[(h.owns k j h2).2.2.2] at hc;cases hc
   simp[V',this,hc]
  refine⟨V',λk=>if k=k0 then none else own k,hle,h.step (λi=>i=j) rfl hle ?_ (λk o x hx=>.inl hx) (λk x hx=>?_) (.refl _ _) ⟨λ_=>aY _,λ_ _=>rfl⟩ (λi hi=>⟨?_,rfl,rfl,λk hk=>⟨?_,rfl⟩⟩) (λi hi=>?_) (λk i hk=>?_) (λ_=>id) (λt=>.inl ⟨rfl,rfl,rfl⟩) (λ_ _=>rfl) (λ_ _ _=>rfl) (λk i hk=>by
        split at hk
        .cases hk
        .exact .inl ⟨i,hk⟩) (λi hi=>by subst hi;simp[St.setO,aO])⟩
  .refine⟨h.ok.c,λk es hc=>?_⟩;simp only[V'] at hc;split at hc
   .rename_i e;subst e;cases hc;refine .inl ⟨λe=>?_,arr,clock,h3,rfl⟩;refine FN (cap:=C.cap) (V:=V) (kt:=kt) (es:=gI) (by simp[entriesOf,h5]) (λi p q hp hq=>?_) e;simp only[entriesOf,cV,aC] at hp;obtain⟨x,dz,rfl⟩:=hp;exact(h6 i x q (by simpa using dz) hq).1
   .exact h.ok.m k es hc
  .simp only[V'] at hx;split at hx
   .rename_i e;subst e;exact .inr ⟨(h.owns k j h2).1,.inl ⟨j,h2⟩⟩
   .exact .inl hx
  .simp[St.setO,bt _ _ hi]
  .have:k≠k0:=λe=>by subst e;rw[h2] at hk;simp at hk;exact hi hk.symm
   simp[this,hk]
  .subst hi;simp only[St.setO,aO];refine⟨rfl,?_⟩;rw[h1,h4];refine .map kt et k0 (entriesOf arr) gI (by simp[V']) (by simp[entriesOf,h5]) hx (λi p q hp hq=>?_) (λi p q hp hq=>?_)
   .simp only[entriesOf,cV,aC] at hp;obtain⟨e,he,rfl⟩:=hp;exact((h6 i e q (by simpa using he) hq).1).mono hle
   .simp only[entriesOf,cV,aC] at hp;obtain⟨e,he,rfl⟩:=hp;exact((h6 i e q (by simpa using he) hq).2).mono hle
  .split at hk
   .cases hk
   .rename_i hn;obtain⟨g1,g2,g3,g4⟩:=h.owns k i hk;exact⟨g1,g2,g3,by simp[V',hn,g4]⟩
 .exact⟨V,own,.refl V,h⟩
def sY {j:Nat}{e:PE}{O':Env}(h:PI.runs Z [.setO j e] O=some O'):O'=O.setO j (e.ev O):=by
 simp[PI.runs,PI.run] at h;exact h.symm
def oR {O':Env}(h:PI.runs Z [] O=some O'):O'=O:=by
 simp[PI.runs] at h;exact h.symm
def Dg (C:Ctx)(w0:World)(σ0:Base)(Z:aV)(S:St)(O:Env)(A:Nat->Prop)(a:Act)(w:World)(r:St×List PI):Prop:=
 ∀O',PI.runs Z r.2 O=some O'->Good C w0 σ0 r.1 O' A a w
def alN (h:Inv C S O V own hv w0 σ0 A a w){b:Nat}{r:St×List PI}(hr:Ek S b=some r):Dg C w0 σ0 Z S O A a w r:=by
 unfold Ek at hr;split at hr
 case h_2=>cases hr
 rename_i ag shs eo;simp only[aw] at hr;obtain⟨x,hx,hr⟩:=hr;have ba:=h.objs b;rw[eo] at ba;obtain⟨k,cs,T,ds,h1,h2,h3,h4,h5,h6,h7⟩:=ba;obtain⟨l1,es,⟨he,qF⟩,l2,bY⟩:=Pe (b:=.o b) h (cs:=cs.toList) h5 shs 0 x (λm s hm=>by rw[Bk,fR];exact(h7 m s hm).2) hx
 let V':Im:={c:=λk' o=>if k'=k then cs[o]? else V.c k' o,m:=V.m}
 have hle:V.le V':=by
  refine⟨λk' o v hc=>?_,λk es hc=>hc⟩;have:k'≠k:=λe=>by subst e;rw[(h.owns k' b h2).2.2.1 o] at hc;cases hc
  simp[V',this,hc]
 have key:∀(t:Ty) (v:Value) (d:D),Rep C.cap V' t v d->(∀(i:Nat) (u:Value),v.cells[i]?=some u->cs[i]?=some u)->
  Inv C (S.setO b (.fbox t)) (O.setO b d) V' (λk'=>if k'=k then none else own k') hv w0 σ0 A a w:=by
  intro t v d hrv aR
  refine h.step (λi=>i=b) rfl hle ?_ (λk' o x hx=>?_) (λ_ _ hx=>.inl hx) (.refl _ _) ⟨λ_=>aY _,λ_ _=>rfl⟩ (λi hi=>⟨?_,?_,rfl,λk' hk=>⟨?_,rfl⟩⟩) (λi hi=>?_) (λk' i hk=>?_) (λ_=>id) (λt=>.inl ⟨rfl,rfl,rfl⟩) (λ_ _=>rfl) (λ_ _ _=>rfl) (λk' i hk=>by
        split at hk
        .cases hk
        .exact .inl ⟨i,hk⟩) (λi hi=>by subst hi;simp[St.setO,aO])
  .refine⟨λk' o v hc=>?_,h.ok.m⟩;simp only[V'] at hc;split at hc
   .rename_i e;subst e;simp[World.cell?,h3,hc]
   .exact h.ok.c k' o v hc
  .simp only[V'] at hx;split at hx
   .rename_i e;subst e;exact .inr ⟨(h.owns k' b h2).1,.inl ⟨b,h2⟩⟩
   .exact .inl hx
  .simp[St.setO,bt _ _ hi]
  .simp[Env.setO,bt _ _ hi]
  .have:k'≠k:=λe=>by subst e;rw[h2] at hk;simp at hk;exact hi hk.symm
   simp[this,hk]
  .subst hi;simp only[St.setO,aO];exact⟨k,v,h1,by simp only[Env.setO,aO];exact hrv,λi u hu=>by simp[V',aR i u hu]⟩
  .split at hk
   .cases hk
   .rename_i hn;obtain⟨g1,g2,g3,g4⟩:=h.owns k' i hk;exact⟨g1,g2,λo=>by simp[V',hn,g3 o],g4⟩
 have jK:∀(m:Nat) (t:Ty),x.1[m]?=some t->t.one=true/\Rep C.cap V' t (cs.toList.getD m undef) (es.getD m .none):=λm t hm=>by
  obtain⟨g1,g2⟩:=bY m t hm;rw[fR] at g2;exact⟨g1,g2.mono hle⟩
 intro O' ao;cases ag with
 |true=>
  simp only[zyx] at hr;cases hr;have:=sY ao;subst this;refine⟨_,_,_,key (.agg x.1) (.agg cs.toList.toArray) _ ?_ (λi u hu=>by simpa [Value.cells] using hu)⟩;simp only[PE.ev,he];exact .agg _ _ _ (by simp;omega) (by omega) (λm t hm=>(jK m t hm).2) (λm t hm=>(jK m t hm).1)
 |false=>
  simp only[zyw] at hr;split at hr
  .rename_i t e et ee;cases hr;have:=sY ao;subst this;obtain⟨g1,g2⟩:=jK 0 t (by rw[et];rfl);have ke:es=[e.ev O]:=by rw[<-qF,ee];rfl
   subst ke;refine⟨_,_,_,key t (cs.toList.getD 0 undef) _ (by simpa using g2) (λi u hu=>?_)⟩;rw[(g2.oneCell g1).1] at hu;have hi:i=0:=by
        have:=(dV.1 hu).1;simpa using this
   subst hi;simp at hu;subst hu;have:0<cs.size:=by rw[h4];rw[et] at l1;simp at l1;omega
   rw[eT this];simp[aN,eT this]
  .cases hr
def Inv.mv (h:Inv C S O V own hv w0 σ0 A a w){j j':Nat}(aB:j≠j')(hk:mg (S.o j)=true):
 Inv C (S.mv j j') (O.setO j' (O.o j)) V (λk=>if own k=some j then some j' else if own k=some j' then none else own k) (cv hv j' (hv j)) w0 σ0 A a w:=by
 have ba:=h.objs j
 refine h.step (λi=>i=j\/i=j') rfl (.refl V) h.ok (λ_ _ _ hx=>.inl hx) (λ_ _ hx=>.inl hx) (.refl _ _) ⟨λi=>?_,λi e=>?_⟩ (λi hi=>?_) (λi hi=>?_) (λk i hk=>?_) (λ_=>id) (λt=>.inl ⟨rfl,rfl,rfl⟩) (λ_ _=>rfl) (λ_ _ _=>rfl) (λk i hk=>by
        split at hk
        .rename_i e;exact .inl ⟨j,e⟩
        .split at hk
         .cases hk
         .exact .inl ⟨i,hk⟩) (λi hi=>by
        rcases hi with rfl|rfl
        .simp[St.mv,aO]
        .simp only[St.mv,bt _ _ (tH aB),aO];intro e;rw[e] at hk;cases hk)
 .simp only[St.mv,gm];split
  .rename_i e;subst e;omega
  .split
   .rename_i e;subst e;omega
   .omega
 .simp only[St.mv,gm] at e;split at e
  .rename_i e';subst e';omega
  .split at e
   .rename_i e';subst e';omega
   .rename_i QN;exact bt _ _ QN
 .simp only[not_or] at hi;refine⟨by simp[St.mv,bt _ _ hi.1,bt _ _ hi.2],by simp[Env.setO,bt _ _ hi.2],bt _ _ hi.2,λk hk=>⟨?_,rfl⟩⟩;have e1:i≠j:=hi.1;have e2:i≠j':=hi.2;simp[hk,e1,e2]
 .rcases hi with rfl|rfl
  .simp only[St.mv,aO];trivial
  .simp only[St.mv,bt _ _ (tH aB),aO];cases de:S.o j with
   |row T e=>
    rw[de] at ba;obtain⟨cells,xs,h1,h2,h3,h4⟩:=ba;refine⟨cells,xs,by simp only[Env.setO,aO];exact h1,by rw[aO];exact h2,h3,λk hk=>?_⟩;rw[aO] at hk;simp[h4 k hk]
   |mp kt et=>
    rw[de] at ba;obtain⟨k0,arr,clock,es,h1,h2,h3,h4,h5,h6⟩:=ba;exact⟨k0,arr,clock,es,by rw[aO];exact h1,by simp[h2],h3,by simp only[Env.setO,aO];exact h4,h5,h6⟩
   |_=>rw[de] at hk;simp[mg] at hk
 .split at hk
  .rename_i e;exact h.owns k j e
  .split at hk
   .cases hk
   .exact h.owns k i hk
def atI (h:Inv C S O V own hv w0 σ0 A a w){t j':Nat}{r:St×List PI}(hr:zt S t j'=some r):Dg C w0 σ0 Z S O A a w r:=by
 intro O' ao;unfold zt at hr;split at hr
 .rename_i j ver es;cases hb:(Nat.beq ver (S.ver j)&&mg (S.o j)&& !Nat.beq j j')<;>simp only[hb,zyx,zyw] at hr
  .cases hr;rw[oR ao];exact⟨_,_,_,h⟩
  .cases hr;simp only[aq,iY] at hb;have ed:=aA hb.1.1;have aB:j≠j':=λe=>by subst e;simp at hb
   have mQ:=h.mv aB hb.1.2;have gY:=h.regs t;rw[es] at gY;have cO:=gY.2 ed;rw[sY ao];refine⟨_,_,_,mQ.step (S':=(S.mv j j').setR t (.obj j' (S.ver j'+1))) (λ_=>False) rfl (.refl V) mQ.ok (λ_ _ _ hx=>.inl hx) (λ_ _ hx=>.inl hx) (.refl _ _) ⟨λ_=>aY _,λ_ _=>rfl⟩ (λi _=>⟨rfl,rfl,rfl,λk hk=>⟨hk,rfl⟩⟩) (λ_ hf=>hf.elim) mQ.owns (λ_=>id) (λu=>?_) (λ_ _=>rfl) (λ_ _ _=>rfl) (λk i hk=>.inl ⟨i,hk⟩) (λ_ hf=>hf.elim)⟩;by_cases hu:u=t
   .subst hu;refine .inr ⟨?_,λgs s e=>by simp[St.setR,aO] at e⟩;simp only[St.setR,aO];refine⟨?_,λ_=>?_⟩
    .simp[St.mv,bt _ _ (tH aB),aO]
    .rw[aO];exact cO
   .exact .inl ⟨by simp[St.setR,bt _ _ hu],rfl,rfl⟩
 .cases hr;rw[oR ao];exact⟨_,_,_,h⟩
def atH (h:Inv C S O V own hv w0 σ0 A a w){b i j':Nat}{r:St×List PI}(hr:G8 S b i j'=some r):Dg C w0 σ0 Z S O A a w r:=by
 intro O' ao;unfold G8 at hr;split at hr
 .rename_i ag shs eo;split at hr
  .rename_i j ver es;cases hb:(Nat.beq ver (S.ver j)&&mg (S.o j)&& !Nat.beq j j'&& !Nat.beq b j'&& !Nat.beq b j)<;>simp only[hb,zyx,zyw] at hr
   .cases hr;rw[oR ao];exact⟨_,_,_,h⟩
   .cases hr;simp only[aq,iY] at hb;have ed:=aA hb.1.1.1.1;have aB:j≠j':=λe=>by subst e;simp at hb
    have cH:b≠j':=λe=>by subst e;simp at hb
    have bC:b≠j:=λe=>by subst e;simp at hb
    have ba:=h.objs b;rw[eo] at ba;obtain⟨k,cs,T,ds,h1,h2,h3,h4,h5,h6,h7⟩:=ba;have cO:=(h7 i _ es).2.2 ed;have mQ:=h.mv aB hb.1.1.1.2;rw[sY ao];have Py:(S.mv j j').o b=.box ag shs:=by simp[St.mv,bt _ _ cH,bt _ _ bC,eo]
    have E3:=mQ.objs b;rw[Py] at E3;refine⟨_,_,_,mQ.step (S':=(S.mv j j').setO b (.box ag (shs.set i (.obj j' (S.ver j'+1))))) (λm=>m=b) rfl (.refl V) mQ.ok (λ_ _ _ hx=>.inl hx) (λ_ _ hx=>.inl hx) (.refl _ _) ⟨λ_=>aY _,λ_ _=>rfl⟩ (λm hm=>⟨by simp[St.setO,bt _ _ hm],rfl,rfl,λk hk=>⟨hk,rfl⟩⟩) (λm hm=>?_) mQ.owns (λ_=>id) (λt=>.inl ⟨rfl,rfl,rfl⟩) (λ_ _=>rfl) (λ_ _ _=>rfl) (λk i hk=>.inl ⟨i,hk⟩) (λm hm=>by subst hm;simp[St.setO,aO])⟩;subst hm;rw[St.setO_o];obtain⟨k1,DN,T1,DQ,g1,g2,g3,g4,g5,g6,g7⟩:=E3;have e1:DN=cs:=by
     rw[bt _ _ cH,h1] at g1;cases g1;rw[h3] at g3;cases g3;rfl
    refine⟨k1,DN,T1,DQ,g1,g2,g3,by simpa using g4,g5,by simpa using g6,λq x hq=>?_⟩;rw[vn] at hq;split at hq
    .rename_i e;subst e;split at hq
     .cases hq;refine⟨(λ_ _ e=>by cases e),?_,λ_=>?_⟩
      .simp[St.setO,St.mv,bt _ _ (tH aB),aO]
      .rw[aO,e1];exact cO
     .cases hq
    .obtain⟨f1,f2⟩:=g7 q x hq;exact⟨f1,f2.mono' (.refl V) (Compat.setO _ _ _ _) f1⟩
  .cases hr;rw[oR ao];exact⟨_,_,_,h⟩
 .cases hr;rw[oR ao];exact⟨_,_,_,h⟩
def an4 (h:Inv C S O V own hv w0 σ0 A a w){b i j:Nat}{T:TypeId}{r:St×List PI}(hr:E5 C S b i j T=some r):Dg C w0 σ0 Z S O A a w r:=by
 intro O' ao;unfold E5 at hr;split at hr
 .rename_i ag shs eo;split at hr
  .rename_i e0 e es et;cases hb:(!Nat.beq b j)<;>simp only[hb,zyx,zyw] at hr
   .cases hr;rw[oR ao];exact⟨_,_,_,h⟩
   .cases hr;have aB:b≠j:=λe=>by subst e;simp at hb
    have ba:=h.objs b;rw[eo] at ba;obtain⟨k,cs,T0,ds,h1,h2,h3,h4,h5,h6,h7⟩:=ba;have cO:cs.getD i undef=.slice none 0 0:=by
     have:=(h7 i _ es).2;generalize cs.getD i undef=v at this;generalize ds.getD i .none=d at this;cases this;rfl
    have mS:=h.newO j (.row T e) (.list []) (.slice none 0 0) (λ_=>false) (.refl _ _) (by simp) ⟨[],[],by simp[Env.setO,aO],by rw[aO];exact World.ownsRow_nil _ _ _ _,⟨λ_=>undef,by simp,by simp⟩,by rw[aO];simp[Value.ownBlock]⟩;rw[sY ao];have Py:(S.newO j (.row T e)).o b=.box ag shs:=by simp[St.newO,bt _ _ aB,eo]
    have E3:=mS.objs b;rw[Py] at E3;refine⟨_,_,_,mS.step (S':=(S.newO j (.row T e)).setO b (.box ag (shs.set i (.obj j (S.ver j+1))))) (λm=>m=b) rfl (.refl V) mS.ok (λ_ _ _ hx=>.inl hx) (λ_ _ hx=>.inl hx) (.refl _ _) ⟨λ_=>aY _,λ_ _=>rfl⟩ (λm hm=>⟨by simp[St.setO,bt _ _ hm],rfl,rfl,λk hk=>⟨hk,rfl⟩⟩) (λm hm=>?_) mS.owns (λ_=>id) (λt=>.inl ⟨rfl,rfl,rfl⟩) (λ_ _=>rfl) (λ_ _ _=>rfl) (λk i hk=>.inl ⟨i,hk⟩) (λm hm=>by subst hm;simp[St.setO,aO])⟩;subst hm;rw[St.setO_o];obtain⟨k1,DN,T1,DQ,g1,g2,g3,g4,g5,g6,g7⟩:=E3;have e1:DN=cs:=by
     rw[bt _ _ aB,h1] at g1;cases g1;rw[h3] at g3;cases g3;rfl
    refine⟨k1,DN,T1,DQ,g1,g2,g3,by simpa using g4,g5,by simpa using g6,λq x hq=>?_⟩;rw[vn] at hq;split at hq
    .rename_i e';subst e';split at hq
     .cases hq;refine⟨(λ_ _ e=>by cases e),?_,λ_=>?_⟩
      .simp[St.setO,St.newO,aO]
      .rw[aO,e1];exact cO
     .cases hq
    .obtain⟨f1,f2⟩:=g7 q x hq;exact⟨f1,f2.mono' (.refl V) (Compat.setO _ _ _ _) f1⟩
  .cases hr;rw[oR ao];exact⟨_,_,_,h⟩
 .cases hr;rw[oR ao];exact⟨_,_,_,h⟩
end
def mkObj (S:St)(dst:Nat)(ob:Ob):St:=(S.newO dst ob).setR dst (.obj dst (S.ver dst+1))
def mkPtr (S:St)(dst:Nat)(ob:Ob):St:=(S.newO dst ob).setR dst (.ptr dst (S.ver dst+1) 0)
abbrev lS:=Option (St×List PI)
def D1 (C:Ctx)(S:St)(dst:Nat)(T:TypeId)(x:Operand):lS:=
 match use C S [] x,C.P.underlying T with
 |some (.nils _,_),some (.slice E)=>(qf C.P E).map λe=>(mkObj S dst (.row E e),[.setO dst (.con (.list [])),.setR dst (.con .none)])
 |_,_=>Option.none
def DR (C:Ctx)(S:St)(dst:Nat)(T:TypeId):lS:=
 match qf C.P T,C.P.info? T,qW C.P T with
 |some t,some inf,some ag=>
  bif vg inf t&&(t.rowT||t.one) then
   (qg t).map λz=>(mkPtr S dst (.box ag (z.1.flat.map .dat)),[.setO dst (.con (.agg z.2.cells)),.setR dst (.con .none)])
  else Option.none
 |_,_,_=>Option.none
def DT (C:Ctx)(S:St)(dst:Nat)(T:TypeId)(x:Operand):lS:=
 match use C S [] x,qW C.P T with
 |some (t,e),some ag=>
  bif t.rowT||t.one then some (mkPtr S dst (.box ag (t.flat.map .dat)),[.setO dst (.mk [e]),.setR dst (.con .none)]) else Option.none
 |Option.none,some true=>
  match fO S [] x with
  |.agg l=>some (mkPtr S dst (.box true (l.map AgC.sh)),[.setO dst (rz x),.setR dst (.con .none)])
  |_=>Option.none
 |_,_=>Option.none
def DY (C:Ctx)(S:St)(dst:Nat)(T:TypeId)(r:Option Operand):lS:=
 match C.P.underlying T,r with
 |some (.map K E),Option.none=>
  (qf C.P K).bind λkt=>(qf C.P E).map λet=>(mkObj S dst (.mp kt et),[.setO dst (.con (.map [])),.setR dst (.con .none)])
 |_,_=>Option.none
def DZ (C:Ctx)(S:St)(dst:Nat)(T:TypeId)(l c:Operand):lS:=
 match C.P.underlying T,use C S [] l,use C S [] c with
 |some (.slice E),some (.int _,n),some (.int _,m)=>
  (qf C.P E).bind λe=>
    bif rW C.P E e then
     (qg e).bind λz=>
        bif Ty.sub z.1 e then some (mkObj S dst (.row E e),[.chk (RP n),.chk (.ci .eql n m),.setO dst (.rep n (.con z.2)),.setR dst (.con .none)]) else Option.none
    else Option.none
 |_,_,_=>Option.none
def D2 (C:Ctx)(S:St)(dst:Nat)(T:TypeId)(x:Operand):lS:=
 match C.P.underlying T,fO S [] x with
 |some (.map _ _),.obj j ver=>
  bif Nat.beq ver (S.ver j)&& !Nat.beq j dst then
   match S.o j with
   |.mp kt et=>some (mkObj (S.mv j dst) dst (.it kt et),[.setO dst (.tup [.lst [],.o j]),.setR dst (.con .none)])
   |_=>Option.none
  else Option.none
 |_,_=>Option.none
def DU (C:Ctx)(S:St)(dst:Nat)(s d:TypeId)(x:Operand):lS:=
 match use C S [] x,C.P.underlying s,C.P.underlying d with
 |some (.str,e),some .string,some (.slice E)=>
  (match C.P.underlying E with
   |some (.int .u8)=>some (S.setR dst (.dat (.slice (.int .u8))),[.chk (.ci .leq (.slen e) (.con (.int oL))),.setR dst (.bytes e)])
   |_=>Option.none)
 |_,_,_=>Option.none
section
variable {C:Ctx} {S:St} {O:Env} {V:Im} {own:Nat->Option Nat} {hv:Nat->Value} {w0:World} {σ0:Base} {A:Nat->Prop} {a:Act} {w:World} {gs:List (Nat×Bool)} {Z:aV} {dst:Nat}
def cw (C:Ctx)(w0:World)(σ0:Base)(Z:aV)(S:St)(O:Env)(A:Nat->Prop)(a:Act)(w:World)(o:Oper)(r:St×List PI):Prop:=
 ∀O',PI.runs Z r.2 O=some O'->∀(K:Act->World->Prop) (Q:Exit->Act->World->Prop),(∀a' w',Good C w0 σ0 r.1 O' (λu=>A u\/o.dst=some u) a' w'->a'.tmps.size=a.tmps.size->K a' w')->o.wp C.P a w K Q
def size_put (a:Act)(d:Option Tmp)(v:Value):(a.put d v).tmps.size=a.tmps.size:=by
 cases d<;>simp[Act.put]
def cw.value {o:Oper}{r:St×List PI}(hd:o.dst=some dst)(hx:∀O',PI.runs Z r.2 O=some O'->∃v w',(execOp a.eval o).run C.P w=.ok (.value v) w'/\Good C w0 σ0 r.1 O' (λu=>A u\/u=dst) (a.put (some dst) v) w'):cw C w0 σ0 Z S O A a w o r:=by
 intro O' ao K Q hK;obtain⟨v,w',h1,h2⟩:=hx O' ao;simp only[Oper.wp,h1,Oper.upon,hd];refine hK _ _ ?_ (size_put _ _ _)
 have:(λu=>A u\/o.dst=some u)=(λu=>A u\/u=dst):=by
  funext u;rw[hd];simp[eq_comm]
 rw[this];exact h2
def cw.skip {o:Oper}{r:St×List PI}(hd:o.dst=none)(hx:∀O',PI.runs Z r.2 O=some O'->∃w',(execOp a.eval o).run C.P w=.ok .skip w'/\Good C w0 σ0 r.1 O' A a w'):cw C w0 σ0 Z S O A a w o r:=by
 intro O' ao K Q hK;obtain⟨w',h1,h2⟩:=hx O' ao;simp only[Oper.wp,h1,Oper.upon,hd]
 have:(λu=>A u\/o.dst=some u)=A:=by
  funext u;rw[hd];simp
 rw[this] at hK;exact hK _ _ h2 (size_put _ _ _)
def fm.eff (h:Inv C S O V own hv w0 σ0 A a w)(ht:¬A dst)(ah:dst<a.tmps.size){o:Oper}(hd:o.dst=some dst){s:Sh}{FZ:List PI}(hq:fm C S O V hv Z dst a w o (s,FZ)):cw C w0 σ0 Z S O A a w o (S.setR dst s,FZ):=by
 refine cw.value hd λO' ao=>?_;obtain⟨v,d,rfl,h1,h2,h3⟩:=hq O' ao;exact⟨v,w,h1,V,own,hv,h.setReg ht (aK.mono' (.refl V) (.refl S hv) h3 h2) ah (λgs s' e=>absurd e (h3 gs s'))⟩
def fm.effG (h:Inv C S O V own hv w0 σ0 A a w)(ht:¬A dst)(ah:dst<a.tmps.size)(eK:∀g,g∈gs->A g.1)(hg:holds gs O=true){o:Oper}(hd:o.dst=some dst){s:Sh}{FZ:List PI}(hq:fm C S O V hv Z dst a w o (s,FZ)):cw C w0 σ0 Z S O A a w o (S.setR dst (.opt gs s),FZ):=by
 refine cw.value hd λO' ao=>?_;obtain⟨v,d,rfl,h1,h2,h3⟩:=hq O' ao;have hh:holds gs (O.setR dst d)=true:=by rw[E4 (t:=dst) (d:=d) λg hm e=>ht (by rw[<-e];exact eK g hm)];exact hg
 refine⟨v,w,h1,V,own,hv,h.setReg ht ⟨λ_=>aK.mono' (.refl V) (.refl S hv) h3 h2,λe=>absurd (hh.symm.trans e) (by decide)⟩ ah (λcd s' e=>?_)⟩;cases e;exact⟨eK,h3⟩
def Inv.passed (h:Inv C S O V own hv w0 σ0 A a w)(ht:¬A dst)(ah:dst<a.tmps.size)(eK:∀g,g∈gs->A g.1)(hg:holds gs O=false){s:Sh}(hs:∀cd s',s≠.opt cd s')(d:D):Inv C (S.setR dst (.opt gs s)) (O.setR dst d) V own hv w0 σ0 (λu=>A u\/u=dst) (a.put (some dst) undef) w:=by
 have hh:holds gs (O.setR dst d)=false:=by rw[E4 (t:=dst) (d:=d) λg hm e=>ht (by rw[<-e];exact eK g hm)];exact hg
 refine h.setReg ht (s:=.opt gs s) (v:=undef) (d:=d) ⟨λe=>absurd (hh.symm.trans e) (by decide),λ_=>rfl⟩ ah (λcd s' e=>?_);cases e;exact⟨eK,hs⟩
def Inv.mkObj (h:Inv C S O V own hv w0 σ0 A a w)(ht:¬A dst)(ah:dst<a.tmps.size)(ob:Ob)(d:D)(v:Value)(nb:Nat->Bool){w':World}(hw:Below w.heap.size w w')(dN:∀k,nb k=true->w.heap.size<=k/\k<w'.heap.size)
 (de:cR C (S.newO dst ob) (O.setO dst d) V (gC own dst nb) (cv hv dst v) w' w0.heap.size dst ob) (oD:ob≠.tr:=by intro h;cases h):
 Good C w0 σ0 (Cx.mkObj S dst ob) ((O.setO dst d).setR dst .none) (λu=>A u\/u=dst) (a.put (some dst) v) w':=by
 have h1:=h.newO dst ob d v nb hw dN de oD;have h2:=h1.setObj ht (j:=dst) (v:=v) (aO _ _ _) ah;have e:(S.newO dst ob).ver dst=S.ver dst+1:=aO _ _ _;rw[e] at h2;exact⟨_,_,_,h2⟩
def Inv.mkPtr (h:Inv C S O V own hv w0 σ0 A a w)(ht:¬A dst)(ah:dst<a.tmps.size)(ob:Ob)(d:D)(k:Nat)(nb:Nat->Bool){w':World}(hw:Below w.heap.size w w')(dN:∀k,nb k=true->w.heap.size<=k/\k<w'.heap.size)
 (de:cR C (S.newO dst ob) (O.setO dst d) V (gC own dst nb) (cv hv dst (.pointer (some ⟨k,0,none⟩))) w' w0.heap.size dst ob) (oD:ob≠.tr:=by intro h;cases h):
 Good C w0 σ0 (Cx.mkPtr S dst ob) ((O.setO dst d).setR dst .none) (λu=>A u\/u=dst) (a.put (some dst) (.pointer (some ⟨k,0,none⟩))) w':=by
 have h1:=h.newO dst ob d _ nb hw dN de oD;have e:(S.newO dst ob).ver dst=S.ver dst+1:=aO _ _ _;have h2:=h1.setReg ht (s:=.ptr dst (S.ver dst+1) 0) (v:=.pointer (some ⟨k,0,none⟩)) (d:=.none) ⟨Nat.le_of_eq e.symm,λ_=>⟨k,aO _ _ _,rfl⟩⟩ ah (λ_ _ e=>by cases e);exact⟨_,_,_,h2⟩
def CV {e:PE}{O':Env}(h:PI.runs Z [.setO dst e,.setR dst (.con .none)] O=some O'):O'=(O.setO dst (e.ev O)).setR dst .none:=by
 simp[PI.runs,PI.run,PE.ev] at h;exact h.symm
def Yl (h:Inv C S O V own hv w0 σ0 A a w){t:Ty}{v:Value}{d:D}(hr:Rep C.cap V t v d)(ho:t.rowT=true\/t.one=true)(ag:Bool)(T:TypeId):
 cR C (S.newO dst (.box ag (t.flat.map .dat))) (O.setO dst (.agg d.cells)) V (gC own dst (λk=>Nat.beq k w.heap.size)) (cv hv dst (.pointer (some ⟨w.heap.size,0,none⟩))) (w.alloc (.cells v.cells T)) w0.heap.size dst (.box ag (t.flat.map .dat)):=by
 obtain⟨f1,f2,f3⟩:=hr.flat ho;refine⟨w.heap.size,v.cells,T,d.cells,aO _ _ _,by simp[gC],heap_alloc_new w _,by rw[hr.size];simp[f1],by simp[Env.setO,aO],by simp[f1,f2],λi s hi=>?_⟩;simp only[cV,aC] at hi;obtain⟨ti,yM,rfl⟩:=hi;exact⟨λ_ _ e=>(by cases e),(f3 i ti yM).2⟩
def aj4 (h:Inv C S O V own hv w0 σ0 A a w)(hC:CtxOK C σ0)(ht:¬A dst)(ah:dst<a.tmps.size){T:TypeId}{x:Operand}{r:St×List PI}(hr:D1 C S dst T x=some r){o:Oper}(hd:o.dst=some dst)(ho:o.op=.assign x):cw C w0 σ0 Z S O A a w o r:=by
 unfold D1 at hr;split at hr
 case h_2=>cases hr
 rename_i e0 e1 E hu hT;simp only[aC] at hr;obtain⟨e,he,rfl⟩:=hr;have hx:=cQ h hC rfl hu;have cO:a.eval x=.slice none 0 0:=by
  generalize a.eval x=v at hx;generalize e1.ev O=d at hx;cases hx;rfl
 refine cw.value hd λO' ao=>⟨.slice none 0 0,w,by simp[execOp,ho,cO],?_⟩
 rw[CV ao];exact h.mkObj ht ah (.row E e) _ _ (λ_=>false) (.refl _ _) (by simp) ⟨[],[],by simp[Env.setO,aO,PE.ev],by rw[aO];exact World.ownsRow_nil _ _ _ _,⟨λ_=>undef,by simp,by simp⟩,by rw[aO];simp[Value.ownBlock]⟩
def ajA (h:Inv C S O V own hv w0 σ0 A a w)(ht:¬A dst)(ah:dst<a.tmps.size){T:TypeId}{r:St×List PI}(hr:DR C S dst T=some r){o:Oper}(hd:o.dst=some dst)(ho:o.op=.alloc T):cw C w0 σ0 Z S O A a w o r:=by
 unfold DR at hr;split at hr
 case h_2=>cases hr
 rename_i t inf ag Rq hi ha;cases hc:(vg inf t&&(t.rowT||t.one))<;>simp only[hc,zyx,zyw] at hr
 .cases hr
 simp only[aq,fQ] at hc;simp only[aC] at hr;obtain⟨z,hz,rfl⟩:=hr;obtain⟨v0,uu,oH⟩:∃v0,inf.zero=some v0/\kC t v0=true:=by
  have:=hc.1;unfold vg at this;split at this
  .exact⟨_,by assumption,this⟩
  .cases this
 obtain⟨k1,k2,k3⟩:=zG (cap:=C.cap) (V:=V) hz oH;have gd:z.1.rowT=true\/z.1.one=true:=by
  rcases hc.2 with e|e
  .left;cases t<;>simp[Ty.rowT] at e;simp[qg] at hz;obtain⟨_,_,rfl⟩:=hz;rfl
  .right;rw[k3];exact e
 refine cw.value hd λO' ao=>⟨.pointer (some ⟨w.heap.size,0,none⟩),w.alloc (.cells v0.cells T),?_,?_⟩
 .simp[execOp,ho,Instr.alloc,zeroValue,run_typeInfo w hi,uu,newVar,newRow]
 .rw[CV ao];exact h.mkPtr ht ah _ _ _ (λk=>Nat.beq k w.heap.size) ((Below.refl _ _).alloc (aY _) _) (λk hk=>by simp at hk;simp;omega) (Yl h k1 gd ag T)
def Compat.newO (S:St)(hv:Nat->Value)(j:Nat)(ob:Ob)(v:Value):Compat S hv (S.newO j ob) (cv hv j v):=by
 refine⟨λi=>?_,λi e=>?_⟩
 .simp only[St.newO,gm];split<;>rename_i e
  .subst e;omega
  .omega
 .simp only[St.newO,gm] at e;split at e
  .rename_i e';subst e';omega
  .rename_i aB;exact bt _ _ aB
def ajE (h:Inv C S O V own hv w0 σ0 A a w)(hC:CtxOK C σ0)(ht:¬A dst)(ah:dst<a.tmps.size){T:TypeId}{x:Operand}{r:St×List PI}(hr:DT C S dst T x=some r){o:Oper}(hd:o.dst=some dst)(ho:o.op=.box T x):cw C w0 σ0 Z S O A a w o r:=by
 unfold DT at hr;split at hr
 case h_3=>cases hr
 case h_2=>
  rename_i hu ha;split at hr
  case h_2=>cases hr
  rename_i l ff;cases hr;have gY:=(s9 h (gs:=[]) rfl x).1;rw[ff] at gY;obtain⟨vs,ds,e1,e2,e3,e4,e5⟩:=gY;refine cw.value hd λO' ao=>⟨.pointer (some ⟨w.heap.size,0,none⟩),w.alloc (.cells (a.eval x).cells T),?_,?_⟩
  .simp[execOp,ho,Instr.box,newVar,newRow]
  .rw[CV ao,e2];refine h.mkPtr ht ah _ _ _ (λk=>Nat.beq k w.heap.size) ((Below.refl _ _).alloc (aY _) _) (λk hk=>by simp at hk;simp;omega) ⟨w.heap.size,(a.eval x).cells,T,ds,aO _ _ _,by simp[gC],heap_alloc_new w _,by rw[e1];simp[Value.cells,e3],by simp[Env.setO,aO],by simp[e4],λi s hi=>?_⟩;simp only[cV,aC] at hi;obtain⟨c,hc,rfl⟩:=hi;have bX:(a.eval x).cells.getD i undef=vs.getD i undef:=by rw[e1];simp[Value.cells,aN,fb]
   have h6:=(e5 i c hc).monoR (Im.le.leR (.refl V)) (Compat.newO S hv dst (.box true (l.map AgC.sh)) (.pointer (some ⟨w.heap.size,0,none⟩)));rw[bX];cases c with
   |dat t=>exact⟨λ_ _ e=>(by cases e),h6.2⟩
   |obj j ver=>exact⟨λ_ _ e=>(by cases e),h6⟩
 rename_i t e ag hu ha;cases hc:(t.rowT||t.one)<;>simp only[hc,zyx,zyw] at hr
 .cases hr
 cases hr;simp only[fQ] at hc;have hx:=cQ h hC rfl hu;refine cw.value hd λO' ao=>⟨.pointer (some ⟨w.heap.size,0,none⟩),w.alloc (.cells (a.eval x).cells T),?_,?_⟩
 .simp[execOp,ho,Instr.box,newVar,newRow]
 .rw[CV ao];have:(PE.mk [e]).ev O=.agg (e.ev O).cells:=by simp[PE.ev,PE.evc]
  rw[this];exact h.mkPtr ht ah _ _ _ (λk=>Nat.beq k w.heap.size) ((Below.refl _ _).alloc (aY _) _) (λk hk=>by simp at hk;simp;omega) (Yl h hx hc ag T)
def ajY (h:Inv C S O V own hv w0 σ0 A a w)(ht:¬A dst)(ah:dst<a.tmps.size){T:TypeId}{m:Option Operand}{r:St×List PI}(hr:DY C S dst T m=some r){o:Oper}(hd:o.dst=some dst)(ho:o.op=.makeMap T m):cw C w0 σ0 Z S O A a w o r:=by
 unfold DY at hr;split at hr
 case h_2=>cases hr
 rename_i K E hT;simp only[aw,aC] at hr;obtain⟨kt,hk,et,he,rfl⟩:=hr;refine cw.value hd λO' ao=>⟨.map (some w.heap.size),w.alloc (.map #[] 0),?_,?_⟩
 .simp[execOp,ho,Instr.makeMap]
 .rw[CV ao]
  exact h.mkObj ht ah (.mp kt et) _ _ (λk=>Nat.beq k w.heap.size) ((Below.refl _ _).alloc (aY _) _) (λk hk=>by simp at hk;simp;omega)
   ⟨w.heap.size,#[],0,[],aO _ _ _,by simp[gC],heap_alloc_new w _,by simp[Env.setO,aO,PE.ev],rfl,⟨by simp,by simp[nW]⟩,by simp⟩
def aj6 (h:Inv C S O V own hv w0 σ0 A a w)(ht:¬A dst)(ah:dst<a.tmps.size){T:TypeId}{x:Operand}{r:St×List PI}(hr:D2 C S dst T x=some r){o:Oper}(hd:o.dst=some dst)(ho:o.op=.range T x):cw C w0 σ0 Z S O A a w o r:=by
 unfold D2 at hr;split at hr
 case h_2=>cases hr
 rename_i K E j ver hT es;obtain⟨eM,_⟩:=s9 h (gs:=[]) rfl x;rw[es] at eM;cases hb:(Nat.beq ver (S.ver j)&& !Nat.beq j dst)<;>simp only[hb,zyx,zyw] at hr
 .cases hr
 simp only[aq,iY] at hb;have cO:=eM.2 (aA hb.1);have aB:j≠dst:=λe=>by subst e;simp at hb
 have ba:=h.objs j;split at hr
 case h_2=>cases hr
 rename_i kt et eo;cases hr;rw[eo] at ba;obtain⟨m,arr,clock,ds,h1,h2,h3,h4,h5,⟨h6,sf⟩,h7⟩:=ba;have mQ:=h.mv aB (by rw[eo];rfl);have oC:m<w.heap.size:=(dV.1 h3).1;have QF:w0.heap.size<=m:=(h.owns m j h2).1;refine cw.value hd λO' ao=>⟨.pointer (some ⟨w.heap.size,0,none⟩),w.alloc (.mapIter (some m) clock #[] clock),?_,?_⟩
 .simp[execOp,ho,Instr.range,cO,h1,run_underlying hT,getObj,Sem.run,h3]
 have hρ:O'=((O.setO dst (.tup [.list [],.map ds])).setR dst .none):=by
  simp[PI.runs,PI.run,PE.ev,PE.evs,h4] at ao;exact ao.symm
 subst hρ;have eA:Below w.heap.size w (w.alloc (.mapIter (some m) clock #[] clock)):=(Below.refl _ _).alloc (aY _) _;have Rj:=mQ.step (S':=(S.mv j dst).newO dst (.it kt et)) (O':=(O.setO dst (.tup [.list [],.map ds]))) (V':=V) (hv':=cv (cv hv dst (hv j)) dst (.pointer (some ⟨w.heap.size,0,none⟩)))
  (own':=λk=>if k=w.heap.size then some dst else(if own k=some j then some dst else if own k=some dst then none else own k)) (a':=a) (A':=A) (w':=w.alloc (.mapIter (some m) clock #[] clock)) (λi=>i=dst)
  rfl (.refl V) (h.ok.below eA) (λ_ _ _ hx=>.inl hx) (λ_ _ hx=>.inl hx) (eA.mono h.below.size) ⟨λi=>?_,λi e=>?_⟩ (λi hi=>⟨?_,?_,?_,λk hk=>⟨?_,?_⟩⟩) (λi hi=>?_) (λk i hk=>?_) (λ_=>id) (λt=>.inl ⟨rfl,rfl,rfl⟩) (λ_ _=>rfl) (λk hk _=>eA.block k hk) (λk i hk=>?_) (λi hi=>by subst hi;simp[St.newO,aO])
 .have oo:=Rj.setObj ht (j:=dst) (v:=.pointer (some ⟨w.heap.size,0,none⟩)) (aO _ _ _) ah;have e:((S.mv j dst).newO dst (.it kt et)).ver dst=(S.mv j dst).ver dst+1:=aO _ _ _;rw[e] at oo;exact⟨_,_,_,oo⟩
 .simp only[St.newO,gm];split<;>rename_i e
  .subst e;omega
  .omega
 .simp only[St.newO,gm] at e;split at e
  .rename_i e';subst e';omega
  .rename_i QN;exact bt _ _ QN
 .simp[St.newO,bt _ _ hi]
 .simp[Env.setO,bt _ _ hi]
 .exact bt _ _ hi
 .have aB5:=(mQ.owns k i hk).2.1;have bM:k≠w.heap.size:=by omega
  simp only[if_neg bM];exact hk
 .exact eA.block k (mQ.owns k i hk).2.1
 .subst hi;simp only[St.newO,aO];have dM:m≠w.heap.size:=by omega
  refine⟨w.heap.size,m,arr,clock,ds,[],aO _ _ _,by simp,by simp[dM,h2],by omega,?_,heap_alloc_new w _,by simp[Env.setO,aO,iI],List.nodup_nil,by simp,h5,sf,h7⟩;rw[eA.block m oC];exact h3
 .split at hk
  .rename_i e;subst e;refine⟨h.below.size,by simp,λo=>?_,?_⟩
   .cases hc:V.c w.heap.size o with
    |none=>rfl
    |some u=>have:=h.lt hc;omega
   .cases hc:V.m w.heap.size with
    |none=>rfl
    |some u=>have:=h.ltm hc;omega
  .obtain⟨g1,g2,g3,g4⟩:=mQ.owns k i hk;exact⟨g1,by simp;omega,g3,g4⟩
 .split at hk
  .rename_i e;subst e;exact .inr (aY _)
  .exact .inl ⟨i,hk⟩
def ajI (h:Inv C S O V own hv w0 σ0 A a w)(hC:CtxOK C σ0)(ht:¬A dst)(ah:dst<a.tmps.size){T U:TypeId}{x:Operand}{r:St×List PI}(hr:DU C S dst T U x=some r){o:Oper}(hd:o.dst=some dst)(ho:o.op=.convert T U x):cw C w0 σ0 Z S O A a w o r:=by
 unfold DU at hr;split at hr
 case h_2=>cases hr
 rename_i e E hu hT hU;split at hr
 case h_2=>cases hr
 rename_i hE;cases hr;have hx:=cQ h hC rfl hu;obtain⟨s,aQ,bm,hs⟩:=hx.str_inv;have pK:=Lib.run_convert_string_bytes (P:=C.P) w T U E s hT hU hE;refine cw.value hd λO' ao=>⟨.slice (some ⟨w.heap.size,0,none⟩) s.size (grownCap w s.size 0 E),Lib.bytesWorld w E s,by simp[execOp,ho,aQ,pK],?_⟩
 simp only[PI.runs,PI.run,aw] at ao;obtain⟨ρ1,g1,ρ2,g2,g3⟩:=ao;cases c1:((PE.ci BinOp.leq (.slen e) (.con (.int oL))).ev O).b<;>simp only[c1,zyx,zyw] at g1
 .cases g1
 cases g1;cases g2;cases g3;have anG:s.size<=4294967296:=by
  simp[PE.ev,bm,D.s,D.i,D.b,j5,D.int,oL] at c1;omega
 have eA:Below w.heap.size w (Lib.bytesWorld w E s):=⟨rfl,rfl,rfl,by rw[Lib.bytesWorld_size];omega,λk hk=>Lib.bytesWorld_at_old w E s k hk⟩
 have aH:(Lib.bytesWorld w E s).heap.size=w.heap.size+1:=Lib.bytesWorld_size w E s
 let V':Im:={c:=λk i=>if k=w.heap.size then(if i<s.size then some (.int .u8 (s.data.toList.getD i 0).toNat) else none) else V.c k i,m:=V.m}
 have hle:V.le V':=by
  refine⟨λk o v hc=>?_,λk es hc=>hc⟩;have:k≠w.heap.size:=by have:=h.lt hc;omega
  simp[V',this,hc]
 have az:V'.ok (Lib.bytesWorld w E s):=by
  refine⟨λk i v hc=>?_,(h.ok.below eA).m⟩;simp only[V'] at hc;split at hc
  .rename_i ek;subst ek;split at hc
   .rename_i hi;cases hc;exact Lib.bytesWorld_cell w E s i hi
   .cases hc
  .exact(h.ok.below eA).c k i v hc
 have h1:=h.step (S':=S) (O':=O) (V':=V') (own':=own) (hv':=hv) (A':=A) (a':=a) (w':=Lib.bytesWorld w E s) (λ_=>False) rfl hle az (λk i v hc=>?_) (λk es hc=>.inl hc) (eA.mono h.below.size) ⟨λ_=>aY _,λ_ _=>rfl⟩
  (λj _=>⟨rfl,rfl,rfl,λk hk=>⟨hk,eA.block k (h.owns k j hk).2.1⟩⟩) (λj hj=>hj.elim) (λk j hk=>?_) (λ_=>id) (λt=>.inl ⟨rfl,rfl,rfl⟩) (λ_ _=>rfl) (λk hk _=>eA.block k hk) (λk i hk=>.inl ⟨i,hk⟩) (λ_ hf=>hf.elim)
 .refine⟨_,_,_,h1.setReg ht (s:=.dat (.slice (.int .u8))) ?_ ah (λ_ _ e=>by cases e)⟩;show Rep C.cap V' _ _ _;simp only[PE.ev,bm,D.s];refine .slice (.int .u8) w.heap.size 0 s.size _ _ (λi=>.int .u8 (s.data.toList.getD i 0).toNat) (by simp) (grownCap_ge w s.size 0 E) (grownCap_le_maxLen w s.size 0 E (by unfold maxLen;omega)) (λi x hx=>?_) (λi j u hi hu=>?_)
  .simp only[cV,aC] at hx;obtain⟨b,hb,rfl⟩:=hx;have:s.data.toList.getD i 0=b:=by simp[aN,hb]
   rw[this];have:=b.toNat_lt;exact .int .u8 _ (by show(0:Int)<=_;omega) (by show _<=(255:Int);omega)
  .have hj:j=0:=by
        have:=(dV.1 hu).1;simp[Value.cells] at this;exact this
   subst hj;simp[Value.cells] at hu;subst hu;simp[V',Ty.size,hi]
 .simp only[V'] at hc;split at hc
  .rename_i ek;exact .inr ⟨by have:=h.below.size;omega,.inr (by omega)⟩
  .exact .inl hc
 .obtain⟨g1,g2,g3,g4⟩:=h.owns k j hk;refine⟨g1,by omega,λi=>?_,g4⟩;have:k≠w.heap.size:=by omega
  simp[V',this,g3 i]
end
def JV (C:Ctx)(S:St)(gs:List (Nat×Bool))(e:Ty)(z:D)(parts:List (Nat×Operand))(i:Nat):Option PE:=
 match parts.find? (λp=>Nat.beq p.1 i) with
 |some p=>(use C S gs p.2).bind λa=>bif Ty.sub a.1 e then some a.2 else Option.none
 |Option.none=>some (PE.con z)
def xU (C:Ctx)(S:St)(gs:List (Nat×Bool))(dst:Nat)(T:TypeId)(len:Nat)(parts:List (Nat×Operand)):lS:=
 match C.P.underlying T with
 |some (.slice E)=>
  (qf C.P E).bind λe=>(qg e).bind λz=>
    bif rW C.P E e&&Ty.sub z.1 e&&iy (parts.map (·.1))&&parts.all (λp=>Nat.blt p.1 len)&&Nat.ble (len*e.size) 16777216 then
     ((List.range len).mapM (JV C S gs e z.2 parts)).map λes=>(mkObj S dst (.row E e),[.setO dst (.lst es),.setR dst (.con .none)])
    else Option.none
 |_=>Option.none
def Bb (C:Ctx)(S:St)(gs:List (Nat×Bool))(dst:Nat)(T:TypeId)(len:Nat)(parts:List (Nat×Operand)):lS:=
 match C.P.underlying T,xU C S gs dst T len parts with
 |some (.slice E),some r=>
  (qf C.P E).bind λe=>
    match r.2 with
    |.setO _ x::_=>some ((S.newO dst .dead).setR dst (match gs with|[]=>.dat (.slice e.rol)|_=>.opt gs (.dat (.slice e.rol))),[.setR dst x])
    |_=>Option.none
 |_,_=>Option.none
def PR (S:St):AgC->Bool
 |.dat _=>true
 |.obj j ver=>Nat.beq ver (S.ver j)&&mg (S.o j)
def vG (C:Ctx)(S:St)(T:TypeId)(x v:Operand):lS:=
 match C.P.info? T with
 |some inf=>
  match fO S [] x with
  |.ptr j ver off=>
   bif Nat.beq ver (S.ver j) then
    match S.o j with
    |.box ag shs=>
     match use C S [] v with
     |some (t,e)=>
      bif Nat.beq inf.size t.size&&(t.rowT||t.one)&&Nat.ble (off+t.size) shs.length then
             some (S.setO j (.box ag (shs.take off++t.flat.map .dat++shs.drop (off+t.size))),[.setO j (.setc (.o j) off e)])
      else Option.none
     |Option.none=>
      match fO S [] v with
      |.obj j' nT=>
       bif Nat.beq nT (S.ver j')&&mg (S.o j')&&Nat.beq inf.size 1&&Nat.blt off shs.length then
              some (S.setO j (.box ag (shs.set off (.obj j' nT))),[.setO j (.setc (.o j) off (.con .none))])
       else Option.none
      |.agg l=>
       bif Nat.beq inf.size l.length&&Nat.ble (off+l.length) shs.length&&l.all (PR S) then
              some (S.setO j (.box ag (shs.take off++l.map AgC.sh++shs.drop (off+l.length))),[.setO j (.setc (.o j) off (rz v))])
       else Option.none
      |_=>Option.none
    |_=>Option.none
   else Option.none
  |.eptr j ver size off=>
   bif Nat.beq ver (S.ver j) then
    match S.o j,use C S [] v with
    |.row _ (.agg ts),some (t,e)=>
     bif Nat.beq inf.size t.size&&(t.rowT||t.one)&&Nat.beq size ts.length&&Nat.ble (off+t.size) ts.length&&Ty.subs t.flat ((ts.drop off).take t.size) then
         some (S,[.setO j (.setn (.o j) (rz x) off e)])
     else Option.none
    |.row _ e0,some (t,e)=>
     bif Nat.beq inf.size 1&&Nat.beq size 1&&Nat.beq off 0&&e0.one&&Ty.sub t e0 then some (S,[.setO j (.setn (.o j) (rz x) 0 e)]) else Option.none
    |_,_=>Option.none
   else Option.none
  |_=>Option.none
 |Option.none=>Option.none
def tQ (C:Ctx)(S:St)(T:TypeId)(m k v:Operand):lS:=
 match C.P.underlying T,fO S [] m with
 |some (.map K _),.obj j ver=>
  bif Nat.beq ver (S.ver j) then
   match S.o j,use C S [] k,use C S [] v with
   |.mp kt et,some (tk,ek),some (tv,ev)=>
    bif Ty.beq tk kt&&wA C.P K kt&&Ty.sub tv et then some (S,[.chk (.ci .lss (.mlen (.o j)) (.con (.int oL))),.setO j (.put (.o j) ek ev)]) else Option.none
   |_,_,_=>Option.none
  else Option.none
 |_,_=>Option.none
def Lm (x y:PE):PE:=.ci .leq (.llen (.app x y)) (.con (.int oL))
def Nk:Ty->Ty->Bool
 |.slice e',e=>Ty.beq e'.unf e
 |.nils _,_=>true
 |_,_=>false
def DS (C:Ctx)(S:St)(dst:Nat)(T:TypeId)(s x:Operand):lS:=
 match C.P.underlying T with
 |some (.slice E)=>
  (qf C.P E).bind λe=>
    match view C S [] x with
    |some (tx,ex)=>
     bif rW C.P E e&&Nk tx e then
        match use C S [] s with
        |some (.nils _,_)=>some (mkObj S dst (.row E e),[.chk (Lm (.con (.list [])) ex),.setO dst (.app (.con (.list [])) ex),.setR dst (.con .none)])
        |some _=>Option.none
        |Option.none=>
         match fO S [] s with
         |.obj j ver=>
          bif Nat.beq ver (S.ver j) then
             match S.o j with
             |.row E' e'=>
              bif Nat.beq E' E&&Ty.beq e' e then
                some ((S.newO j (.row E e)).setR dst (.obj j (S.ver j+1)),[.chk (Lm (.o j) ex),.setO j (.app (.o j) ex),.setR dst (.con .none)])
              else Option.none
             |_=>Option.none
          else Option.none
         |_=>Option.none
     else Option.none
    |Option.none=>Option.none
 |_=>Option.none
def Pu {P:Program}{T:TypeId}{e:Ty}(h:rW P T e=true):∃inf z,P.info? T=some inf/\inf.size=e.size/\inf.bytes<=yW/\1<=e.size/\inf.zero=some z/\kC e z=true:=by
 unfold rW at h;split at h
 .rename_i i hi;simp only[aq] at h;have h4:=h.2;unfold vg at h4;split at h4
  .rename_i z hz;exact⟨i,z,hi,aA h.1.1.1,lg h.1.1.2,lg h.1.2,hz,h4⟩
  .cases h4
 .cases h
def Xs {e:Ty}{z:Value}(h:kC e z=true):z.cells.size=e.size:=by
 cases e with
 |agg ts=>
  cases z with
  |agg vs=>simp only[kC] at h;have:=(Xt ts vs.toList h).1;simpa [Value.cells,Ty.size] using this
  |_=>simp[kC] at h
 |_=>cases z<;>simp_all [kC,zF,Value.cells,Ty.size]
def aiZ {O:Env}{x y:PE}(h:((PE.ci .lss x y).ev O).b=true):(x.ev O).i<(y.ev O).i:=by
 simpa [PE.ev,D.b_bool,j5] using h
def YC {O:Env}{x y:PE}(h:((PE.ci .leq x y).ev O).b=true):(x.ev O).i<=(y.ev O).i:=by
 simpa [PE.ev,D.b_bool,j5] using h
def apt {n:Nat}(h:(n:Int)<oL):n<4294967296:=by unfold oL at h;omega
def abM {n:Nat}(h:(n:Int)<=oL):n<=4294967296:=by unfold oL at h;omega
def St.setO_self {S:St}{j:Nat}{ob:Ob}(h:S.o j=ob):S.setO j ob=S:=by
 have:cv S.o j ob=S.o:=by
  funext i;rw[gm];split
  .rename_i e;subst e;exact h.symm
  .rfl
 cases S;simp only[St.setO] at this ⊢;rw[this]
section
variable {C:Ctx} {S:St} {O:Env} {V:Im} {own:Nat->Option Nat} {hv:Nat->Value} {w0:World} {σ0:Base} {A:Nat->Prop} {a:Act} {w:World} {gs:List (Nat×Bool)} {Z:aV} {dst:Nat}
def Inv.updO (h:Inv C S O V own hv w0 σ0 A a w)(j:Nat)(ob:Ob)(d:D)(v:Value)(nb:Nat->Bool){w':World}(hw:Below w0.heap.size w w')
 (ud:∀k,k<w.heap.size->own k≠some j->w'.heap[k]?=w.heap[k]?) (dN:∀k,nb k=true->(own k=some j\/w.heap.size<=k)/\k<w'.heap.size)
 (de:cR C (S.newO j ob) (O.setO j d) V (gC own j nb) (cv hv j v) w' w0.heap.size j ob) (oD:ob≠.tr:=by intro h;cases h):Inv C (S.newO j ob) (O.setO j d) V (gC own j nb) (cv hv j v) w0 σ0 A a w':=by
 have aH:w0.heap.size<=w.heap.size:=h.below.size;have be:∀k i,i≠j->own k=some i->gC own j nb k=some i:=by
  intro k i hi hk;have h1:=h.owns k i hk;have h2:nb k=false:=by
   cases hn:nb k with
   |false=>rfl
   |true=>
    rcases(dN k hn).1 with e|e
    .rw[hk] at e;simp at e;exact absurd e hi
    .omega
  simp[gC,h2,hk,hi]
 have az:V.ok w':=by
  refine⟨λk o u hc=>?_,λk es hc=>?_⟩
  .have aB:own k≠some j:=λe=>by rw[(h.owns k j e).2.2.1 o] at hc;cases hc
   rw[World.cell?_of_block (ud k (h.lt hc) aB)];exact h.ok.c k o u hc
  .have aB:own k≠some j:=λe=>by rw[(h.owns k j e).2.2.2] at hc;cases hc
   exact(h.ok.m k es hc).keep (ud k (h.ltm hc) aB)
 refine h.step (λi=>i=j) rfl (.refl V) az (λ_ _ _ hx=>.inl hx) (λ_ _ hx=>.inl hx) hw ⟨λi=>?_,λi e=>?_⟩ (λi hi=>⟨?_,?_,?_,λk hk=>⟨be k i hi hk,?_⟩⟩) (λi hi=>?_) (λk i hk=>?_) (λ_=>id) (λt=>.inl ⟨rfl,rfl,rfl⟩) (λ_ _=>rfl) (λk hk e=>ud k hk (by rw[e];simp)) (λk i hk=>by
  unfold gC at hk;split at hk
  .rename_i hn;rcases(dN k hn).1 with e|e
   .exact .inl ⟨j,e⟩
   .exact .inr e
  .split at hk
   .cases hk
   .exact .inl ⟨i,hk⟩) (λi hi=>by subst hi;simpa only[St.newO,aO] using oD)
 .simp only[St.newO,gm];split<;>rename_i e
  .subst e;omega
  .omega
 .simp only[St.newO,gm] at e;split at e
  .rename_i e';subst e';omega
  .rename_i aB;exact bt _ _ aB
 .simp[St.newO,bt _ _ hi]
 .simp[Env.setO,bt _ _ hi]
 .exact bt _ _ hi
 .exact ud k (h.owns k i hk).2.1 (by rw[hk];simpa using hi)
 .subst hi;simp only[St.newO,aO];exact de
 .unfold gC at hk;split at hk
  .rename_i hn;obtain⟨g1,g2⟩:=dN k hn;rcases g1 with e|e
   .obtain⟨f1,f2,f3,f4⟩:=h.owns k j e;exact⟨f1,g2,f3,f4⟩
   .refine⟨by omega,g2,λo=>?_,?_⟩
    .cases hc:V.c k o with
     |none=>rfl
     |some u=>have:=h.lt hc;omega
    .cases hc:V.m k with
     |none=>rfl
     |some u=>have:=h.ltm hc;omega
  .split at hk
   .cases hk
   .obtain⟨g1,g2,g3,g4⟩:=h.owns k i hk;exact⟨g1,by have:=hw.size;omega,g3,g4⟩
def Inv.updB (h:Inv C S O V own hv w0 σ0 A a w)(j:Nat)(ob:Ob)(d:D){w':World}(hw:Below w0.heap.size w w')
 (ud:∀k,k<w.heap.size->own k≠some j->w'.heap[k]?=w.heap[k]?)
 (de:cR C (S.setO j ob) (O.setO j d) V own hv w' w0.heap.size j ob) (oD:ob≠.tr:=by intro h;cases h):Inv C (S.setO j ob) (O.setO j d) V own hv w0 σ0 A a w':=by
 have az:V.ok w':=by
  refine⟨λk o u hc=>?_,λk es hc=>?_⟩
  .have aB:own k≠some j:=λe=>by rw[(h.owns k j e).2.2.1 o] at hc;cases hc
   rw[World.cell?_of_block (ud k (h.lt hc) aB)];exact h.ok.c k o u hc
  .have aB:own k≠some j:=λe=>by rw[(h.owns k j e).2.2.2] at hc;cases hc
   exact(h.ok.m k es hc).keep (ud k (h.ltm hc) aB)
 refine h.step (λi=>i=j) rfl (.refl V) az (λ_ _ _ hx=>.inl hx) (λ_ _ hx=>.inl hx) hw (Compat.setO _ _ _ _) (λi hi=>⟨by simp[St.setO,bt _ _ hi],by simp[Env.setO,bt _ _ hi],rfl,λk hk=>⟨hk,ud k (h.owns k i hk).2.1 (by rw[hk];simpa using hi)⟩⟩) (λi hi=>?_) (λk i hk=>?_) (λ_=>id) (λt=>.inl ⟨rfl,rfl,rfl⟩) (λ_ _=>rfl) (λk hk e=>ud k hk (by rw[e];simp)) (λk i hk=>.inl ⟨i,hk⟩) (λi hi=>by subst hi;rw[St.setO_o];exact oD)
 .subst hi;rw[St.setO_o];exact de
 .obtain⟨g1,g2,g3,g4⟩:=h.owns k i hk;exact⟨g1,by have:=hw.size;omega,g3,g4⟩
def ZC {B:Nat}{w w':World}{row:Option Nat}(hg:w.grownBy w' row)(hB:B<=w.heap.size)(hr:∀k,row=some k->B<=k):Below B w w':=(Below.refl B w).grown hg hB hr
def ab9 {z:Array Value}{n i q:Nat}(hz:0<z.size)(hi:i<n)(hq:q<z.size):(madeCells z (n*z.size))[i*z.size+q]?=z[q]?:=by
 have ah:i*z.size+q<n*z.size:=by
  have:(i+1)*z.size<=n*z.size:=nY _ hi;rw[qm] at this;omega
 have hm:(i*z.size+q)%z.size=q:=by rw[Dl,ahN,Nat.mod_eq_of_lt hq]
 simp[madeCells,Array.getElem?_range,ah,hm,hq]
def aj0 (h:Inv C S O V own hv w0 σ0 A a w)(hC:CtxOK C σ0)(ht:¬A dst)(ah:dst<a.tmps.size){T:TypeId}{l c:Operand}{r:St×List PI}(hr:DZ C S dst T l c=some r){o:Oper}(hd:o.dst=some dst)(ho:o.op=.makeSlice T l c):cw C w0 σ0 Z S O A a w o r:=by
 unfold DZ at hr;split at hr
 case h_2=>cases hr
 rename_i E k1 n k2 m hT hl hc;simp only[aw] at hr;obtain⟨e,he,hr⟩:=hr;cases hf:rW C.P E e<;>simp only[hf,zyx,zyw] at hr
 .cases hr
 obtain⟨inf,z0,hi,hs,hb,h1,hz,nE⟩:=Pu hf;simp only[aw] at hr;obtain⟨z,hzt,hr⟩:=hr;cases bU:Ty.sub z.1 e<;>simp only[bU,zyx,zyw] at hr
 .cases hr
 cases hr;obtain⟨n1,aQ,bm,b1,b2⟩:=(cQ h hC rfl hl).int_inv;obtain⟨n2,jk,dZ,b3,b4⟩:=(cQ h hC rfl hc).int_inv;simp only at bm dZ;have Fx:=((zG (cap:=C.cap) (V:=V) hzt nE).1).sub bU;refine cw.value hd λO' ao=>?_;simp only[PI.runs,PI.run,aw] at ao;obtain⟨ρ1,g1,ρ2,g2,ao⟩:=ao;cases c1:((RP n).ev O).b<;>simp only[c1,zyx,zyw] at g1
 .cases g1
 cases g1;cases c2:((PE.ci BinOp.eql n m).ev O).b<;>simp only[c2,zyx,zyw] at g2
 .cases g2
 cases g2;have anS:n1=n2:=by simpa [PE.ev,bm,dZ,D.i_int,D.b_bool,j5] using c2
 subst anS;have hb:0<=n1/\n1<=oL:=by simpa [RP,PE.ev,bm,D.i_int,D.b_bool,j5,D.int] using c1
 obtain⟨nn,rfl⟩:=vl hb.1;have yD:nn<=4294967296:=by have:=hb.2;unfold oL at this;omega
 have uA:z0.cells.size=e.size:=Xs nE;obtain⟨w',r1,r2,r3⟩:=run_make_full (P:=C.P) w w0.heap.size T E inf z0 e.size hT hi hz hs k1 k2 nn (by
  have:inf.bytes*nn<=yW*4294967296:=Nat.mul_le_mul (by assumption) yD;unfold yW at this;omega) (by unfold maxLen;omega) h.below.size
 refine⟨.slice (some ⟨w.heap.size,0,none⟩) nn nn,w',by simp[execOp,ho,aQ,jk,r1],?_⟩;obtain⟨ρ3,g3,ρ4,g4,g5⟩:=ao;cases g3;cases g4;cases g5;simp only[PE.ev,bm,D.i_int,xD];have hlen:(List.replicate nn z.2).length=nn:=by simp
 refine h.mkObj ht ah (.row E e) _ _ (λk=>Nat.beq k w.heap.size) (ZC r3 (aY _) (by simp)) (λk hk=>?_) ⟨_,List.replicate nn z.2,by simp[Env.setO,aO],by rw[aO,hlen];exact r2,⟨λ_=>z0,λi x hx=>?_,λi j u hi hj=>?_⟩,λk hk=>?_⟩
 .have bM:k=w.heap.size:=aA hk;have:=(r2.lt _ rfl).2;subst bM;exact⟨aY _,this⟩
 .have:=(eV.1 hx)
  obtain⟨q1,q2⟩:=this;simp at q2;subst q2;exact Fx
 .rw[hlen] at hi;have bh:j<z0.cells.size:=(dV.1 hj).1;rw[zH,<-uA];rw[ab9 (by omega) hi bh];exact hj
 .rw[aO] at hk;simp[Value.ownBlock] at hk;simp[gC,hk]
def nW.push {arr:Array MapEntry}{clock:Nat}(h:nW arr clock)(k v:Value):nW (arr.push {key:=k,val:=v,born:=clock}) (clock+1):=by
 have key:∀(i:Nat) (e:MapEntry),(arr.push {key:=k,val:=v,born:=clock})[i]?=some e->(arr[i]?=some e/\e.born<clock)\/(i=arr.size/\e.born=clock):=by
  intro i e he;rw[Array.getElem?_push] at he;split at he
  .rename_i hi;cases he;exact .inr ⟨hi,rfl⟩
  .exact .inl ⟨he,h.1 i e he⟩
 refine⟨λi e he=>?_,λi j e f he hf hb=>?_⟩
 .rcases key i e he with⟨_,h1⟩|⟨_,h1⟩<;>omega
 .rcases key i e he with⟨h1,h2⟩|⟨h1,h2⟩<;>rcases key j f hf with⟨h3,h4⟩|⟨h3,h4⟩
  .exact h.2 i j e f h1 h3 hb
  .omega
  .omega
  .omega
def nW.modify {arr:Array MapEntry}{clock:Nat}(h:nW arr clock)(i0:Nat)(k v:Value):nW (arr.modify i0 λe=>{e with key:=k,val:=v}) clock:=by
 have key:∀(i:Nat) (e:MapEntry),(arr.modify i0 λe=>{e with key:=k,val:=v})[i]?=some e->∃e',arr[i]?=some e'/\e'.born=e.born:=by
  intro i e he;rw[dH] at he;split at he
  .simp only[aC] at he;obtain⟨e',h1,rfl⟩:=he;exact⟨e',h1,rfl⟩
  .exact⟨e,he,rfl⟩
 refine⟨λi e he=>?_,λi j e f he hf hb=>?_⟩
 .obtain⟨e',h1,h2⟩:=key i e he;rw[<-h2];exact h.1 i e' h1
 .obtain⟨e',h1,h2⟩:=key i e he;obtain⟨f',h3,h4⟩:=key j f hf;exact h.2 i j e' f' h1 h3 (by rw[h2,h4,hb])
def YT (h:Inv C S O V own hv w0 σ0 A a w)(hC:CtxOK C σ0){T:TypeId}{m k v:Operand}{r:St×List PI}(hr:tQ C S T m k v=some r){o:Oper}(hd:o.dst=none)(ho:o.op=.mapUpdate T m k v\/o.op=.insert T m k v):cw C w0 σ0 Z S O A a w o r:=by
 unfold tQ at hr;split at hr
 case h_2=>cases hr
 rename_i K E j ver hT es;obtain⟨eM,_⟩:=s9 h (gs:=[]) rfl m;rw[es] at eM;cases hb:Nat.beq ver (S.ver j)<;>simp only[hb,zyx,zyw] at hr
 .cases hr
 have cO:=eM.2 (aA hb);have ba:=h.objs j;split at hr
 case h_2=>cases hr
 rename_i kt et tk ek tv ev eo hk yP;rw[eo] at ba;cases hc:(Ty.beq tk kt&&wA C.P K kt&&Ty.sub tv et)<;>simp only[hc,zyx,zyw] at hr
 .cases hr
 cases hr;simp only[aq] at hc;obtain⟨⟨KO,EV⟩,bU⟩:=hc;obtain⟨g,arr,clock,ds,h1,h2,h3,h4,h5,⟨h6,sf⟩,h7⟩:=ba;have bM:=cQ h hC rfl hk;rw[Ty.beq_eq _ _ KO] at bM;have hv':=(cQ h hC rfl yP).sub bU;refine cw.skip hd λO' ao=>?_;simp only[PI.runs,PI.run,aw] at ao;obtain⟨ρ1,g1,ρ2,g2,g3⟩:=ao;cases c1:((PE.ci BinOp.lss (.mlen (.o j)) (.con (.int oL))).ev O).b<;>simp only[c1,zyx,zyw] at g1
 .cases g1
 cases g1;cases g2;cases g3;have anG:ds.length<4294967296:=by
  have h8:=aiZ c1;simp only[PE.ev,h4,D.m,D.i_int,D.int] at h8;exact apt h8
 have ls:(Instr.checkKey false 10000 K (a.eval k)).run C.P w=.ok () w:=YA (cap:=C.cap) (V:=V) EV bM;have fu:∃vD A0 ds',(Instr.mapUpdate T (a.eval m) (a.eval k) (a.eval v)).run C.P w=.ok () {w with heap:=w.heap.setIfInBounds g (.map vD A0)}/\ml (ek.ev O) (ev.ev O) ds=ds'/\ds'.length=vD.size/\(ds'.length<=maxLen/\nW vD A0)/\
  ∀(i:Nat) (e:MapEntry) (p:D×D),vD[i]?=some e->ds'[i]?=some p->Rep C.cap V kt e.key p.1/\Rep C.cap V et e.val p.2:=by
  rcases run_findKey EV bM arr ds h5 h7 w with⟨f1,f2,f3⟩|⟨i,e,p,f1,f2,f3,f4,f5,f6⟩
  .refine⟨arr.push {key:=a.eval k,val:=a.eval v,born:=clock},clock+1,ds++[(ek.ev O,ev.ev O)],?_,f3 _,by simp[h5],⟨by simp;unfold maxLen;omega,sf.push _ _⟩,λq e p he hp=>?_⟩
   .rw[cO,h1];simp[Instr.mapUpdate,run_underlying hT,getObj,Sem.run,h3,ls,f1,setObj]
   .rw[Array.getElem?_push] at he;rw[ni] at hp;by_cases hq:q=arr.size
    .subst hq;simp at he;rw[if_neg (by omega)] at hp;simp[h5] at hp;subst he;subst hp;exact⟨bM,hv'⟩
    .rw[if_neg hq] at he;have K5:q<arr.size:=(dV.1 he).1;rw[if_pos (by omega)] at hp;exact h7 q e p he hp
  .refine⟨arr.modify i λe=>{e with key:=a.eval k,val:=a.eval v},clock,ds.set i (ek.ev O,ev.ev O),?_,f5 _,by simp[h5],⟨by simp;exact h6,sf.modify _ _ _⟩,λq e' p' he hp=>?_⟩
   .rw[cO,h1];have bZ:(Instr.keyThatStays e.key (a.eval k)).run C.P w=.ok (a.eval k) w:=by simp[Instr.keyThatStays,f6]
    simp[Instr.mapUpdate,run_underlying hT,getObj,Sem.run,h3,ls,f3,f1,bZ,setObj]
   .rw[dH] at he;rw[vn] at hp;by_cases hq:i=q
    .subst hq;simp only[if_true] at he hp;rw[f1] at he;simp at he;split at hp
     .cases hp;subst he;exact⟨bM,hv'⟩
     .cases hp
    .rw[if_neg hq] at he hp;exact h7 q e' p' he hp
 obtain⟨vD,A0,ds',r1,r2,r3,r4,r5⟩:=fu;refine⟨{w with heap:=w.heap.setIfInBounds g (.map vD A0)},by rcases ho with ho|ho<;>simp[execOp,ho,r1],?_⟩;have hgl:g<w.heap.size:=(dV.1 h3).1;have hgB:w0.heap.size<=g:=(h.owns g j h2).1;have bX:(PE.put (.o j) ek ev).ev O=.map ds':=by simp only[PE.ev,h4,D.m,r2]
 rw[bX]
 have:=h.updB j (.mp kt et) (.map ds') (w':={w with heap:=w.heap.setIfInBounds g (.map vD A0)}) ⟨rfl,rfl,rfl,by simp,λk hk=>by simp;rw[Xw (by omega)]⟩
  (λk hk aB=>by simp;rw[Xw (λe=>aB (by rw[<-e];exact h2))])
  ⟨g,vD,A0,ds',h1,h2,by simp[hgl],by simp[Env.setO,aO],r3,r4,r5⟩
 have eS:S.setO j (.mp kt et)=S:=St.setO_self eo;rw[eS] at this;exact⟨_,_,_,this⟩
end
def axM {e:Ty}{z:Value}(h:kC e z=true):e.rowT=true\/e.one=true:=by
 cases e<;>first|exact .inl rfl|exact .inr rfl|(cases z<;>simp[kC,zF] at h)
def Rep.cellsOne {cap:Nat->Option CSig}{V:Im}{t:Ty}{v:Value}{d:D}(h:Rep cap V t v d)(ht:t.rowT=true\/t.one=true){m:Nat}{u:Value}(hu:v.cells[m]?=some u):u.oneCell'=true:=by
 obtain⟨f1,f2,f3⟩:=h.flat ht;have ah:m<v.cells.size:=(dV.1 hu).1;rw[h.size] at ah;obtain⟨g1,g2⟩:=f3 m _ (bE (by omega:m<t.flat.length));have:=(g2.oneCell g1).2;rw[fb,hu] at this;exact this
def akl {cap:Nat->Option CSig}{V:Im}{e:Ty}{cells:List Value}{xs:List D}(h:fl cap V e cells xs)(hl:cells.length=xs.length*e.size)(jj:e.rowT=true\/e.one=true):∀u∈cells,u.oneCell'=true:=by
 obtain⟨vs,h1,h2⟩:=h;intro u hu;obtain⟨p,hp,rfl⟩:=gn hu;rw[hl] at hp;have hs:0<e.size:=Nat.pos_of_ne_zero λe0=>by rw[e0] at hp;simp at hp
 have hi:p/e.size<xs.length:=(Nat.div_lt_iff_lt_mul hs).2 hp;have hq:p%e.size<e.size:=Nat.mod_lt _ hs;have bY:=h1 _ _ (bE hi);have aH:=bY.size;have fp:(vs (p/e.size)).cells[p%e.size]?=some (vs (p/e.size)).cells[p%e.size]:=eT (by omega);have:=h2 _ _ _ hi fp;rw[N2,Nat.div_add_mod] at this;have h3:cells[p]=(vs (p/e.size)).cells[p%e.size]:=by
  have h4:=bE (show p<cells.length by omega);rw[h4] at this;exact H4 this
 rw[h3];exact bY.cellsOne jj fp
def akk {cap:Nat->Option CSig}{V:Im}{e:Ty}{c1 c2:List Value}{xs ys:List D}(h:fl cap V e c1 xs)(k:fl cap V e c2 ys)(hl:c1.length=xs.length*e.size):fl cap V e (c1++c2) (xs++ys):=by
 obtain⟨vs,h1,h2⟩:=h;obtain⟨us,k1,k2⟩:=k;refine⟨λi=>if i<xs.length then vs i else us (i-xs.length),λi x hx=>?_,λi j u hi hj=>?_⟩
 .rw[ni] at hx;split at hx
  .rename_i ah;simp only[ah,if_true];exact h1 i x hx
  .rename_i ah;simp only[ah,if_false];exact k1 _ x hx
 .by_cases ah:i<xs.length
  .simp only[ah,if_true] at hj;have:=h2 i j u ah hj;rw[lT (eV.1 this).1];exact this
  .simp only[ah,if_false] at hj;have cN:i-xs.length<ys.length:=by simp at hi;omega
   have:=k2 _ j u cN hj;have e1:i*e.size=c1.length+(i-xs.length)*e.size:=by rw[hl,<-qm];congr 1;omega
   rw[jX (by omega)];rw[show i*e.size+j-c1.length=(i-xs.length)*e.size+j by omega];exact this
section
variable {C:Ctx} {S:St} {O:Env} {V:Im} {own:Nat->Option Nat} {hv:Nat->Value} {w0:World} {σ0:Base} {A:Nat->Prop} {a:Act} {w:World} {gs:List (Nat×Bool)} {Z:aV} {dst:Nat}
def axv (h:Inv C S O V own hv w0 σ0 A a w){B:Nat}{e f:Ty}{v:Value}{d:D}(hs:0<e.size)(jj:e.rowT=true\/e.one=true)(hf:f.unf=e)(Rv:N9 C V w B (.slice f) v d):
 ∃ys,d=.list ys/\ys.length<=maxLen/\((v=.slice none 0 0/\ys=[])\/∃(ad:Addr) (c:Nat) (news:List Value),v=.slice (some ad) ys.length c/\news.length=ys.length*e.size/\
  (∀j u,news[j]?=some u->w.cell? (ad.add j)=some u)/\fl C.cap V e news ys):=by
 rcases Rv with hr|⟨T,e',cells,xs,ht,hd,be,jL⟩|⟨k,arr,clock,es,kt,et,ht,_⟩
 .obtain⟨xs,hd,sk⟩:=hr.slice_inv;rw[<-f.unf_size,hf] at sk;rcases sk with⟨⟨p0,aQ⟩,rfl⟩|⟨k,o,c,aQ,h1,h2,vs,h3,h4⟩
  .cases p0 with
   |none=>exact⟨[],hd,by simp,.inl ⟨aQ,rfl⟩⟩
   |some a0=>exact⟨[],hd,by simp,.inr ⟨a0,0,[],aQ,by simp,λj u hu=>by simp at hu,λ_=>undef,λi x hx=>by simp at hx,λi j u hi=>by simp at hi⟩⟩
  .refine⟨xs,hd,by omega,.inr ⟨⟨k,o,none⟩,c,(List.range (xs.length*e.size)).map λp=>(vs (p/e.size)).cells.getD (p%e.size) undef,aQ,by simp,λj u hu=>?_,vs,h3,λi j u hi hj=>?_⟩⟩
   .simp only[cV,aC] at hu;obtain⟨p,hp,rfl⟩:=hu;have fX:j<xs.length*e.size:=by have:=(eV.1 hp).1;simpa using this
    rw[rH fX] at hp;cases hp;have hi:j/e.size<xs.length:=(Nat.div_lt_iff_lt_mul hs).2 fX;have hq:j%e.size<e.size:=Nat.mod_lt _ hs;have bY:=h3 _ _ (bE hi);have aH:=bY.size;have fp:(vs (j/e.size)).cells[j%e.size]?=some ((vs (j/e.size)).cells.getD (j%e.size) undef):=by
     rw[fb,eT (by omega)];rfl
    have:=h.cell (h4 _ _ _ hi fp);rw[tJ]
    rwa [show o+j/e.size*e.size+j%e.size=o+j by rw[vu,N2,Nat.div_add_mod]] at this
   .have bY:=h3 _ _ (bE hi);have bh:j<e.size:=by rw[<-bY.size];exact(dV.1 hj).1
    have ah:i*e.size+j<xs.length*e.size:=by
     have:(i+1)*e.size<=xs.length*e.size:=nY _ hi;rw[qm] at this;omega
    have e1:(i*e.size+j)/e.size=i:=by rw[N2,Nat.mul_add_div hs,Nat.div_eq_of_lt bh];omega
    have e2:(i*e.size+j)%e.size=j:=by rw[Dl,ahN,Nat.mod_eq_of_lt bh]
    simp only[cV,rH ah,lU,e1,e2];rw[fb,hj];rfl
 .cases ht;rw[Ty.unf_rol] at hf;obtain⟨b,c,aQ,hm,_⟩:=zb be;have jL:fl C.cap V e cells xs:=by
   obtain⟨us,u1,u2⟩:=jL;refine⟨us,λi x hx=>hf▸(u1 i x hx).unf,λi j u hi hu=>?_⟩;rw[<-hf,Ty.unf_size];exact u2 i j u hi hu
  have be:w.ownsRow B T e.size v xs.length cells:=by rw[<-hf,Ty.unf_size];exact be
  rcases be.2 with⟨e1,e2⟩|⟨g,cap,cur,e1,e2⟩
  .have:xs=[]:=NR e2;subst this;exact⟨[],hd,by simp,.inl ⟨e1,rfl⟩⟩
  .exact⟨xs,hd,hm,.inr ⟨⟨g,0,none⟩,cap,cells,e1,be.1,be.cells (by rw[e1];rfl),jL⟩⟩
 .cases ht
def at1 {P:Program}{B:Nat}{T E ty:TypeId}{inf:TypeInfo}{z:Value}{size:Nat}{v x:Value}{n m:Nat}{xs news:List Value}(hT:P.underlying T=some (.slice E))(hi:P.info? E=some inf)(hz:inf.zero=some z)
 (hs:inf.size=size) (uA:z.cells.size=size) (aH:0<size) (l0:inf.bytes<=yW) (be:w.ownsRow B E size v n xs) (hB:B<=w.heap.size) (dp:n+m<=4294967296)
 (hx:(x=.slice none 0 0/\m=0/\news=[])\/∃(ad:Addr) (c:Nat),x=.slice (some ad) m c/\news.length=m*size/\(∀j u,news[j]?=some u->w.cell? (ad.add j)=some u)/\∀u∈news,u.oneCell'=true):
 ∃v' w',(Builtin.append_ #[T,T] ty #[v,x]).run P w=.ok v' w'/\w'.ownsRow B E size v' (n+m) (xs++news)/\w.grownBy w' v.ownBlock/\∀k,v'.ownBlock=some k->v.ownBlock=some k\/(w.heap.size<=k/\k<w'.heap.size):=by
 rcases hx with⟨rfl,rfl,rfl⟩|⟨ad,c,rfl,hl,KX,h1⟩
 .refine⟨v,w,run_append_owned_none w B T ty E inf size hT hi v n xs be,by simpa using be,⟨rfl,rfl,rfl,aY _,λ_ _ _=>rfl⟩,λk hk=>.inl hk⟩
 .have Qh:(n+m)*inf.bytes<=140737488355328:=by
   have:(n+m)*inf.bytes<=4294967296*yW:=Nat.mul_le_mul dp l0;unfold yW at this;omega
  obtain⟨v',w',r1,r2,r3,r4⟩:=run_append_own (P:=P) w B T ty E inf z size inf.bytes hT hi hz hs rfl uA aH v n xs be ad m c news hl KX h1 (by unfold maxLen;omega) Qh hB;refine⟨v',w',r1,r2,r3,λk hk=>?_⟩;have ah:=(r2.lt k hk).2;subst hs;rcases be.2 with⟨rfl,rfl⟩|⟨g,cap,cur,rfl,hbg,hg,dD,Bv,dY,aa6⟩
  .by_cases hm:m=0
   .subst hm;have:=r4.2 ⟨rfl,rfl⟩;subst this;simp[Value.ownBlock] at hk
   .have hr:=run_append_nil (P:=P) w T ty E inf z hT hi hz ad m c news hl KX (by omega) (by omega) (by have hb:=Qh;simp only[fR] at hb;omega);rw[hr] at r1;cases r1;simp[Value.ownBlock] at hk;subst hk;exact .inr ⟨aY _,ah⟩
  .by_cases Fe:n+m<=cap
   .have Bz:n*inf.size+news.length<=cur.size:=by rw[hl,dY,<-qm];exact nY _ Fe
    have hr:=run_append_room (P:=P) w T ty E inf hT hi g n cap cur hg ad m c news hl KX h1 Fe Bz;rw[hr] at r1;cases r1;exact .inl hk
   .have hr:=run_append_grow (P:=P) w T ty E inf z hT hi hz ⟨g,0,none⟩ n cap xs be.1 (be.cells (g:=g) rfl) ad m c news hl KX (by omega) (by omega) (growslice_fits (by omega) Qh);rw[hr] at r1;cases r1;simp[Value.ownBlock] at hk;subst hk;exact .inr ⟨aY _,ah⟩
def ajC (h:Inv C S O V own hv w0 σ0 A a w)(hC:CtxOK C σ0)(ht:¬A dst)(ah:dst<a.tmps.size){T:TypeId}{s x:Operand}{r:St×List PI}(hr:DS C S dst T s x=some r){o:Oper}(hd:o.dst=some dst)
 (ho:o.op=.call {callee:=.builtin .append,args:=#[s,x],argTypes:=#[T,T]}):cw C w0 σ0 Z S O A a w o r:=by
 unfold DS at hr;split at hr
 case h_2=>cases hr
 rename_i E hT;simp only[aw] at hr;obtain⟨e,he,hr⟩:=hr;split at hr
 case h_2=>cases hr
 rename_i tx ex Rv;have hv':=Xo h hC (gs:=[]) rfl Rv;obtain⟨cs,ao⟩:=UI (C:=C) (w:=w) (a:=a) ho;cases hc:(rW C.P E e&&Nk tx e)<;>simp only[hc,zyx,zyw] at hr
 .cases hr
 simp only[aq] at hc;obtain⟨inf,z,hi,hs,l0,h1,hz,nE⟩:=Pu hc.1;have uA:=Xs nE;have jj:=axM nE;have wu:∃f:Ty,f.unf=e/\N9 C V w w0.heap.size (.slice f) (a.eval x) (ex.ev O):=by
  have bZ:=hc.2;unfold Nk at bZ;split at bZ
  .exact⟨_,Ty.beq_eq _ _ bZ,hv'⟩
  .refine⟨e,Ty.unf_ro jj,?_⟩;rcases hv' with hr|⟨_,_,_,_,ht,_⟩|⟨_,_,_,_,_,_,ht,_⟩
   .exact .inl (hr.sub (by simp[Ty.sub]))
   .cases ht
   .cases ht
  .cases bZ
 obtain⟨fv,fJ,wu⟩:=wu;obtain⟨ys,KC,nD,Fj⟩:=axv h h1 jj fJ wu;have hx:∃news,fl C.cap V e news ys/\news.length=ys.length*e.size/\((a.eval x=.slice none 0 0/\ys.length=0/\news=[])\/∃(ad:Addr) (c:Nat),a.eval x=.slice (some ad) ys.length c/\news.length=ys.length*e.size/\(∀j u,news[j]?=some u->w.cell? (ad.add j)=some u)/\∀u∈news,u.oneCell'=true):=by
  rcases Fj with⟨e1,rfl⟩|⟨ad,c,news,e1,e2,e3,e4⟩
  .exact⟨[],⟨λ_=>undef,by simp,by simp⟩,by simp,.inl ⟨e1,rfl,rfl⟩⟩
  .exact⟨news,e4,e2,.inr ⟨ad,c,e1,e2,e3,akl e4 e2 jj⟩⟩
 obtain⟨news,aB,QQ,hx⟩:=hx;have main:∀(j:Nat) (v:Value) (xs:List D) (cells:List Value),a.eval s=v->w.ownsRow w0.heap.size E e.size v xs.length cells->fl C.cap V e cells xs->xs.length+ys.length<=4294967296->
  (∀k,v.ownBlock=some k->own k=some j)->
  ∃v' w',(execOp a.eval o).run C.P w=.ok (.value v') w'/\Good C w0 σ0 ((S.newO j (.row E e)).setR dst (.obj j (S.ver j+1))) ((O.setO j (.list (xs++ys))).setR dst .none) (λu=>A u\/u=dst) (a.put (some dst) v') w':=by
  intro j v xs cells Rk be jL hlen de;obtain⟨v',w',r1,r2,r3,r4⟩:=at1 (P:=C.P) (ty:=o.type) hT hi hz hs uA h1 l0 be h.below.size hlen hx;refine⟨v',w',by rw[ao];simp[builtin,Rk,r1],?_⟩
  have Rs:=h.updO j (.row E e) (.list (xs++ys)) v' (λk=>decide (v'.ownBlock=some k)) (w':=w') (ZC r3 h.below.size (λk hk=>(h.owns k j (de k hk)).1)) (λk hk aB=>r3.block k hk (λe=>aB (de k e.symm))) (λk hk=>by
        have bM:v'.ownBlock=some k:=by simpa using hk
        rcases r4 k bM with e|e
        .exact⟨.inl (de k e),(r2.lt k bM).2⟩
        .exact⟨.inr e.1,e.2⟩)
   ⟨cells++news,xs++ys,by simp[Env.setO,aO],by rw[aO,jY];exact r2,akk jL aB be.1,λk hk=>by rw[aO] at hk;simp[gC,hk]⟩
  have h2:=Rs.setObj ht (j:=j) (v:=v') (aO _ _ _) ah;have e:(S.newO j (.row E e)).ver j=S.ver j+1:=aO _ _ _;rw[e] at h2;exact⟨_,_,_,h2⟩
 split at hr
 .rename_i e0 pe0 hu;cases hr;refine cw.value hd λO' pJ=>?_;have Rl:=cQ h hC rfl hu;have Rk:a.eval s=.slice none 0 0:=by
   generalize a.eval s=v at Rl;generalize pe0.ev O=d at Rl;cases Rl;rfl
  simp only[PI.runs,PI.run,aw] at pJ;obtain⟨ρ1,g1,ρ2,g2,ρ3,g3,g4⟩:=pJ;cases c1:((Lm (.con (.list [])) ex).ev O).b<;>simp only[c1,zyx,zyw] at g1
  .cases g1
  cases g1;cases g2;cases g3;cases g4;have hlen:=YC c1;simp only[PE.ev,D.l_list,KC,tG,D.i_int,D.int] at hlen;have:=main dst (.slice none 0 0) [] [] Rk (World.ownsRow_nil _ _ _ _) ⟨λ_=>undef,by simp,by simp⟩ (by simpa using abM hlen) (by simp[Value.ownBlock]);simpa [PE.ev,D.l_list,KC,mkObj] using this
 .cases hr
 .obtain⟨eM,_⟩:=s9 h (gs:=[]) rfl s;split at hr
  case h_2=>cases hr
  rename_i j ver es;rw[es] at eM;cases hb:Nat.beq ver (S.ver j)<;>simp only[hb,zyx,zyw] at hr
  .cases hr
  have cO:=eM.2 (aA hb);have ba:=h.objs j;split at hr
  case h_2=>cases hr
  rename_i E' e' eo;rw[eo] at ba;cases iP:(Nat.beq E' E&&Ty.beq e' e)<;>simp only[iP,zyx,zyw] at hr
  .cases hr
  cases hr;simp only[aq] at iP;have e1:=aA iP.1;have e2:=Ty.beq_eq _ _ iP.2;subst e1;subst e2;obtain⟨cells,xs,k1,k2,k3,k4⟩:=ba;refine cw.value hd λO' pJ=>?_;simp only[PI.runs,PI.run,aw] at pJ;obtain⟨ρ1,g1,ρ2,g2,ρ3,g3,g4⟩:=pJ;cases c1:((Lm (.o j) ex).ev O).b<;>simp only[c1,zyx,zyw] at g1
  .cases g1
  cases g1;cases g2;cases g3;cases g4;have hlen:=YC c1;simp only[PE.ev,D.l_list,KC,k1,D.i_int,D.int] at hlen;have:=main j (hv j) xs cells cO k2 k3 (by have:=abM hlen;simpa using this) k4;simpa [PE.ev,D.l_list,KC,k1] using this
end
def Hd {P:Program}{a:Act}{w:World}{o:Oper}{T:TypeId}{x v:Operand}{inf:TypeInfo}{k off:Nat}{cs:Array Value}{E:TypeId}(ho:o.op=.store T x v)(hi:P.info? T=some inf)(hx:a.eval x=.pointer (some ⟨k,off,none⟩))
 (hs:(a.eval v).cells.size=inf.size) (df:∀u∈(a.eval v).cells.toList,u.oneCell'=true) (hb:w.heap[k]?=some (.cells cs E (0,0))) (hle:off+inf.size<=cs.size):
 (execOp a.eval o).run P w=.ok .skip (w.setRow k (cs.toList.take off++(a.eval v).cells.toList++cs.toList.drop (off+inf.size)).toArray):=by
 have:=run_storeCells_at P k off E (a.eval v).cells.toList 0 cs w hb (by simp[hs];exact hle) df;simp only[iZ,tu,hs] at this;simp[execOp,ho,Instr.storeAt,hx,Instr.sureAddr,storeVar,Go.sizeOf,run_typeInfo w hi,hs,this]
def agd {w:World}{B k:Nat}{cs:Array Value}(hB:B<=k):Below B w (w.setRow k cs)/\∀i,i≠k->(w.setRow k cs).heap[i]?=w.heap[i]?:=
 ⟨⟨rfl,rfl,rfl,by simp[World.setRow],λi hi=>setRow_other w k i cs (by omega)⟩,λi hi=>setRow_other w k i cs hi⟩
def J6 {α:Type}(xs ys:List α)(off:Nat)(d:α)(hle:off+ys.length<=xs.length)(i:Nat):(xs.take off++ys++xs.drop (off+ys.length)).getD i d=if off<=i/\i<off+ys.length then ys.getD (i-off) d else xs.getD i d:=by
 simp only[aN,kD];rw[ni,dv,jZ (by omega)];split
 .rename_i h;rw[if_neg (by omega),dJ,if_pos h]
 .rename_i h;rw[ni];split
  .rename_i h2;rw[if_pos (by omega)]
  .rename_i h2;rw[if_neg (by omega),eH];congr 2;omega
section
variable {C:Ctx} {S:St} {O:Env} {V:Im} {own:Nat->Option Nat} {hv:Nat->Value} {w0:World} {σ0:Base} {A:Nat->Prop} {a:Act} {w:World} {gs:List (Nat×Bool)} {Z:aV} {dst:Nat}
def Inv.storeBox (h:Inv C S O V own hv w0 σ0 A a w){j k off:Nat}{ag:Bool}{shs news:List Sh}{cs:Array Value}{E:TypeId}{ds dn:List D}{vs:List Value}(eo:S.o j=.box ag shs)
 (h1:hv j=.pointer (some ⟨k,0,none⟩)) (h2:own k=some j) (h3:w.heap[k]?=some (.cells cs E (0,0))) (h4:cs.size=shs.length) (h5:O.o j=.agg ds) (h6:ds.length=shs.length)
 (h7:∀i s,shs[i]?=some s->(∀gs s',s≠.opt gs s')/\aK C S O V hv s (cs.getD i undef) (ds.getD i .none))
 (l1:news.length=vs.length) (l2:dn.length=vs.length) (hle:off+vs.length<=shs.length)
 (mS:∀i s,news[i]?=some s->(∀gs s',s≠.opt gs s')/\aK C S O V hv s (vs.getD i undef) (dn.getD i .none)):
 Inv C (S.setO j (.box ag (shs.take off++news++shs.drop (off+vs.length)))) (O.setO j (.agg (eh ds off dn))) V own hv w0 σ0 A a (w.setRow k (cs.toList.take off++vs++cs.toList.drop (off+vs.length)).toArray):=by
 have hkB:w0.heap.size<=k:=(h.owns k j h2).1;obtain⟨b1,b2⟩:=agd (w:=w) (B:=w0.heap.size) (k:=k) (cs:=(cs.toList.take off++vs++cs.toList.drop (off+vs.length)).toArray) hkB;refine h.updB j _ _ b1 (λi hi aB=>b2 i λe=>aB (e▸h2)) ⟨k,_,E,eh ds off dn,h1,h2,setRow_heap w k cs _ E _ h3,?_,by simp[Env.setO,aO],?_,λi s hi=>?_⟩
 .simp[l1];omega
 .simp[eh,l2,l1];omega
 .have dY:(cs.toList.take off++vs++cs.toList.drop (off+vs.length)).toArray.getD i undef=if off<=i/\i<off+vs.length then vs.getD (i-off) undef else cs.getD i undef:=by
   have e0:∀l:List Value,l.toArray.getD i undef=l.getD i undef:=λl=>by simp[fb,aN]
   rw[e0,J6 cs.toList vs off undef (by simp;omega),Bk cs i]
  have yj:(eh ds off dn).getD i .none=if off<=i/\i<off+vs.length then dn.getD (i-off) .none else ds.getD i .none:=by
   rw[eh,J6 ds dn off .none (by omega),l2]
  rw[dY,yj];have aaC:∀s v d,(∀gs s',s≠.opt gs s')->aK C S O V hv s v d->aK C (S.setO j (.box ag (shs.take off++news++shs.drop (off+vs.length)))) (O.setO j (.agg (eh ds off dn))) V hv s v d:=
   λs v d hn hk=>aK.mono' (.refl V) (Compat.setO _ _ _ _) hn hk
  have ff:(shs.take off++news++shs.drop (off+vs.length))[i]?=if off<=i/\i<off+vs.length then news[i-off]? else shs[i]?:=by
   rw[kD,ni,dv,jZ (by omega)];split
   .rename_i h;rw[if_neg (by omega),dJ,if_pos h]
   .rename_i h;rw[ni,l1];split
    .rename_i h2;rw[if_pos (by omega)]
    .rename_i h2;rw[if_neg (by omega),eH];congr 1;omega
  rw[ff] at hi;split
  .rename_i hc;rw[if_pos hc] at hi;obtain⟨g1,g2⟩:=mS _ s hi;exact⟨g1,aaC _ _ _ g1 g2⟩
  .rename_i hc;rw[if_neg hc] at hi;obtain⟨g1,g2⟩:=h7 _ s hi;exact⟨g1,aaC _ _ _ g1 g2⟩
def af0 (h:Inv C S O V own hv w0 σ0 A a w){j:Nat}(hr:mg (S.o j)=true):(hv j).cells=#[hv j]/\(hv j).oneCell'=true:=by
 have ba:=h.objs j;cases de:S.o j with
 |row T e=>
  rw[de] at ba;obtain⟨cells,xs,h1,h2,h3,h4⟩:=ba;obtain⟨b,c,e1,_⟩:=zb h2;rw[e1];exact⟨rfl,rfl⟩
 |mp kt et=>
  rw[de] at ba;obtain⟨k0,arr,clock,es,h1,_⟩:=ba;rw[h1];exact⟨rfl,rfl⟩
 |_=>rw[de] at hr;simp[mg] at hr
def Inv.storeRow (h:Inv C S O V own hv w0 σ0 A a w){j k n c i p:Nat}{T:TypeId}{e:Ty}{cells vs:List Value}{xs:List D}{v':Value}{d':D}(eo:S.o j=.row T e)(fK:hv j=.slice (some ⟨k,0,none⟩) n c)
 (h1:O.o j=.list xs) (h2:w.ownsRow w0.heap.size T e.size (hv j) xs.length cells) (h3:fl C.cap V e cells xs) (h4:∀k,(hv j).ownBlock=some k->own k=some j) (hi:i<xs.length)
 (E6:i*e.size<=p) (gy:p+vs.length<=i*e.size+e.size) (hr:Rep C.cap V e v' d')
 (hv':∀q u,v'.cells[q]?=some u->(cells.take p++vs++cells.drop (p+vs.length))[i*e.size+q]?=some u):
 ∃cur,w.heap[k]?=some (.cells cur T (0,0))/\p+vs.length<=cur.size/\Inv C S (O.setO j (.list (xs.set i d'))) V own hv w0 σ0 A a (w.setRow k (cur.toList.take p++vs++cur.toList.drop (p+vs.length)).toArray):=by
 have aR:=h2.1;rcases h2.2 with⟨e0,e1⟩|⟨g,cap,cur,e1,e2,e3,e4,e5,e6,e7⟩
 .omega
 rw[fK] at e1;cases e1;have anu:i*e.size+e.size<=xs.length*e.size:=by
  have:(i+1)*e.size<=xs.length*e.size:=nY _ hi;rw[qm] at this;omega
 have aBX:xs.length*e.size<=c*e.size:=nY _ e4;have aof:p+vs.length<=cur.size:=by omega
 refine⟨cur,e3,aof,?_⟩;have be:own k=some j:=h4 k (by rw[fK];rfl);obtain⟨b1,b2⟩:=agd (w:=w) (B:=w0.heap.size) (k:=k) (cs:=(cur.toList.take p++vs++cur.toList.drop (p+vs.length)).toArray) e2;have aa6:(cur.toList.take p++vs++cur.toList.drop (p+vs.length)).take (xs.length*e.size)=cells.take p++vs++cells.drop (p+vs.length):=by
  rw[<-e7];apply NS;intro q;simp only[kD,dJ,ni,dv,eH,tu];by_cases hq:q<xs.length*e.size
  .rw[if_pos hq];by_cases hq1:q<p
   .simp[hq1,Nat.lt_min,show q<cur.size by omega,hq]
   .by_cases kg:q-p<vs.length
    .rw[if_neg (by omega),jZ (by omega),if_pos kg,if_neg (by omega),jZ (by omega),if_pos kg]
    .rw[if_neg (by omega),jZ (by omega),if_neg kg,if_neg (by omega),jZ (by omega),if_neg kg,if_pos (by omega)]
  .rw[if_neg hq];have:¬q<p:=by omega
   rw[if_neg (by omega),jZ (by omega),if_neg (by omega),if_neg (by omega)]
 have:=h.updB j (.row T e) (.list (xs.set i d')) b1 (λq hq aB=>b2 q λe=>aB (e▸be))
  ⟨cells.take p++vs++cells.drop (p+vs.length),xs.set i d',by simp[Env.setO,aO],⟨by simp;omega,.inr ⟨k,c,_,by rw[fK];simp,e2,setRow_heap w k cur _ T _ e3,by simpa using e4,e5,by simp;omega,by simpa using aa6⟩⟩,?_,h4⟩
 .rw[St.setO_self eo] at this;exact this
 .obtain⟨us,u1,u2⟩:=h3;refine⟨λq=>if q=i then v' else us q,λq x hx=>?_,λq m u hq hm=>?_⟩
  .rw[vn] at hx;by_cases BM:i=q
   .subst BM;simp only[if_true] at hx ⊢;rw[if_pos hi] at hx;cases hx;exact hr
   .rw[if_neg BM] at hx;simp only[show ¬q=i from λe=>BM e.symm,if_false];exact u1 q x hx
  .by_cases BM:q=i
   .subst BM;simp only[if_true] at hm;exact hv' m u hm
   .simp only[BM,if_false] at hm;simp only[NW] at hq;have h9:=u2 q m u hq hm;have aCa:m<e.size:=by rw[<-(u1 q _ (bE hq)).size];exact(dV.1 hm).1
    have lx:q*e.size+m<p\/p+vs.length<=q*e.size+m:=by
     rcases H2 q i with ah|gx
     .left;have:(q+1)*e.size<=i*e.size:=nY _ ah;rw[qm] at this;omega
     .right;have:(i+1)*e.size<=q*e.size:=nY _ (by omega);rw[qm] at this;omega
    rw[kD,ni,dv,jZ (by omega)];rcases lx with ho|ho
    .rw[if_pos ho,dJ,if_pos ho];exact h9
    .rw[if_neg (by omega),jX (by omega),eH];rw[show p+vs.length+(q*e.size+m-p-vs.length)=q*e.size+m by omega];exact h9
def aj8 (h:Inv C S O V own hv w0 σ0 A a w)(hC:CtxOK C σ0){T:TypeId}{x v:Operand}{r:St×List PI}(hr:vG C S T x v=some r){o:Oper}(hd:o.dst=none)(ho:o.op=.store T x v):cw C w0 σ0 Z S O A a w o r:=by
 unfold vG at hr;split at hr
 case h_2=>cases hr
 rename_i inf hi;obtain⟨eM,_⟩:=s9 h (gs:=[]) rfl x;split at hr
 case h_3=>cases hr
 .rename_i j ver off es;rw[es] at eM;cases hb:Nat.beq ver (S.ver j)<;>simp only[hb,zyx,zyw] at hr
  .cases hr
  obtain⟨k,fK,gK⟩:=eM.2 (aA hb);have ba:=h.objs j;split at hr
  case h_2=>cases hr
  rename_i ag shs eo;rw[eo] at ba;obtain⟨k',cs,E,ds,h1,h2,h3,h4,h5,h6,h7⟩:=ba;have da:=h1;rw[fK] at h1;cases h1;split at hr
  .rename_i t e hu;have hv':=cQ h hC rfl hu;cases hc:(Nat.beq inf.size t.size&&(t.rowT||t.one)&&Nat.ble (off+t.size) shs.length)<;>simp only[hc,zyx,zyw] at hr
   .cases hr
   cases hr;simp only[aq,fQ] at hc;obtain⟨⟨aH,jj⟩,hle⟩:=hc;have aH:=aA aH;have hle:=lg hle;obtain⟨f1,f2,f3⟩:=hv'.flat jj;have cS:=hv'.size;refine cw.skip hd λO' ao=>?_;rw[sY ao]
   refine⟨_,Hd ho hi gK (by rw[cS,aH]) (λu hu=>by
        obtain⟨m,hm,rfl⟩:=gn hu;exact hv'.cellsOne jj (m:=m) (by simp at hm ⊢)) h3 (by omega),?_⟩
   have bZ:=h.storeBox (off:=off) (news:=t.flat.map .dat) (vs:=(a.eval v).cells.toList) (dn:=(e.ev O).cells) eo da h2 h3 h4 h5 h6 h7 (by simp[f1,cS]) (by simp[f2,cS]) (by simp[cS];omega) (λi s hi=>by
        simp only[cV,aC] at hi;obtain⟨ti,yM,rfl⟩:=hi;refine⟨λ_ _ e=>(by cases e),?_⟩;rw[Bk];exact(f3 i ti yM).2)
   have e1:(a.eval v).cells.toList.length=t.size:=by simp[cS]
   rw[e1] at bZ;rw[aH];refine⟨V,own,hv,?_⟩;simpa [PE.ev,h5,D.cells] using bZ
  .split at hr
   case h_3=>cases hr
   case h_2=>
        rename_i l gI;obtain⟨BO,_⟩:=s9 h (gs:=[]) rfl v;rw[gI] at BO;obtain⟨vs,ds',q1,q2,q3,q4,q5⟩:=BO;cases hc:(Nat.beq inf.size l.length&&Nat.ble (off+l.length) shs.length&&l.all (PR S))<;>simp only[hc,zyx,zyw] at hr
        .cases hr
        cases hr;simp only[aq] at hc;obtain⟨⟨aH,hle⟩,dC⟩:=hc;have aH:=aA aH;have hle:=lg hle;have jK:(a.eval v).cells.toList=vs:=by rw[q1];simp[Value.cells]
        have dY:(a.eval v).cells.size=vs.length:=by rw[<-jK];simp
        have df:∀u∈(a.eval v).cells.toList,u.oneCell'=true:=λu hu=>by
         rw[jK] at hu;obtain⟨i,hi,rfl⟩:=gn hu;have yr:i<l.length:=by omega
         have g:=q5 i l[i] (bE yr);have hf:=bJ.1 dC l[i] (cY yr);have Qt:vs.getD i undef=vs[i]:=by simp[aN,hi]
         rw[Qt] at g;generalize l[i]=c at g hf;cases c with
         |dat t=>exact(g.2.oneCell g.1).2
         |obj j' nT=>
          simp only[PR,aq] at hf;rw[g.2 (aA hf.1)];exact(af0 h hf.2).2
        refine cw.skip hd λO' ao=>?_;rw[sY ao];refine⟨_,Hd ho hi gK (by omega) df h3 (by omega),?_⟩
        have bZ:=h.storeBox (off:=off) (news:=l.map AgC.sh) (vs:=vs) (dn:=ds') eo da h2 h3 h4 h5 h6 h7 (by simp[q3]) (by omega) (by omega) (λi s hi=>by
         simp only[cV,aC] at hi;obtain⟨c,hc,rfl⟩:=hi;have g:=q5 i c hc;cases c with
         |dat t=>exact⟨λ_ _ e=>(by cases e),g.2⟩
         |obj j' nT=>exact⟨λ_ _ e=>(by cases e),g⟩)
        rw[jK,aH];have e1:vs.length=l.length:=q3;rw[e1] at bZ;refine⟨V,own,hv,?_⟩;simpa [PE.ev,h5,q2,D.cells] using bZ
   rename_i j' nT gI;obtain⟨BO,_⟩:=s9 h (gs:=[]) rfl v;rw[gI] at BO;cases hc:(Nat.beq nT (S.ver j')&&mg (S.o j')&&Nat.beq inf.size 1&&Nat.blt off shs.length)<;>simp only[hc,zyx,zyw] at hr
   .cases hr
   cases hr;simp only[aq] at hc;obtain⟨⟨⟨aoT,iw⟩,aH⟩,ah⟩:=hc;have aH:=aA aH;have ah:off<shs.length:=by simpa [jB] using ah
   have cO:=BO.2 (aA aoT);obtain⟨c1,c2⟩:=af0 h iw;have jK:(a.eval v).cells=#[a.eval v]:=by rw[cO];exact c1
   refine cw.skip hd λO' ao=>?_;rw[sY ao];refine⟨_,Hd ho hi gK (by rw[jK,aH];rfl) (λu hu=>by rw[jK] at hu;simp at hu;subst hu;rw[cO];exact c2) h3 (by omega),?_⟩
   have bZ:=h.storeBox (off:=off) (news:=[.obj j' nT]) (vs:=[a.eval v]) (dn:=[.none]) eo da h2 h3 h4 h5 h6 h7 rfl rfl (by simp;omega) (λi s hi=>by
        match i,hi with
        |0,hi=>simp at hi;subst hi;exact⟨λ_ _ e=>(by cases e),BO.1,λ_=>by simpa using cO⟩
        |i+1,hi=>simp at hi)
   rw[jK,aH];have e2:shs.take off++[Sh.obj j' nT]++shs.drop (off+[a.eval v].length)=shs.set off (.obj j' nT):=by
        rw[List.set_eq_take_append_cons_drop,if_pos ah];simp
   rw[e2] at bZ;refine⟨V,own,hv,?_⟩;simpa [PE.ev,h5,D.cells] using bZ
 .rename_i j ver size off es;rw[es] at eM;cases hb:Nat.beq ver (S.ver j)<;>simp only[hb,zyx,zyw] at hr
  .cases hr
  obtain⟨k,n,c,ik,i,fK,vR,bp,gK⟩:=eM.2 (aA hb);have ba:=h.objs j;split at hr
  .rename_i T' ts t e eo hu;rw[eo] at ba;have hv':=cQ h hC rfl hu;cases hc:(Nat.beq inf.size t.size&&(t.rowT||t.one)&&Nat.beq size ts.length&&Nat.ble (off+t.size) ts.length&&Ty.subs t.flat ((ts.drop off).take t.size))<;>simp only[hc,zyx,zyw] at hr
   .cases hr
   cases hr;simp only[aq,fQ] at hc;obtain⟨⟨⟨⟨aH,jj⟩,yK⟩,hle⟩,bU⟩:=hc;have aH:=aA aH;have yK:=aA yK;have hle:=lg hle;obtain⟨f1,f2,f3⟩:=hv'.flat jj;have cS:=hv'.size;have f1:t.flat.length=t.size:=f1;have f2:(e.ev O).cells.length=t.size:=f2;have cS:(a.eval v).cells.size=t.size:=cS;obtain⟨cells,xs,k1,k2,k3,k4⟩:=ba;obtain⟨b,c',e1,EX,yB⟩:=zb k2;rw[fK] at e1;cases e1;obtain⟨us,u1,u2⟩:=k3;obtain⟨y,hy⟩:∃y,xs[i]?=some y:=⟨_,bE bp⟩
   obtain⟨os,ds,wq,hd0,l1,l2,aI,df⟩:=(u1 i y hy).agg_inv;have Fs:(a.eval v).cells.toList.length=t.size:=by simp[cS]
   have mS:Rep C.cap V (.agg ts) (.agg (os.take off++(a.eval v).cells.toList++os.drop (off+(a.eval v).cells.toList.length)).toArray) (.agg (eh ds off (e.ev O).cells)):=by
        refine .agg _ _ _ (by simp[cS];omega) (by simp[eh,f2];omega) (λm tm hm=>?_) df;rw[J6 os _ off undef (by rw[Fs];omega),eh,J6 ds _ off .none (by rw[f2];omega),Fs,f2];split
        .rename_i hc;have aoG:=Ty.subs_get _ _ bU (m-off) tm (by
          rw[dJ,if_pos (by omega),eH,show off+(m-off)=m by omega];exact hm)
         obtain⟨tf,htf,bZ⟩:=aoG;rw[Bk];exact((f3 _ tf htf).2).sub bZ
        .exact aI m tm hm
   have aR:=k2.1;have anu:i*(Ty.agg ts).size+(Ty.agg ts).size<=xs.length*(Ty.agg ts).size:=by
        have:(i+1)*(Ty.agg ts).size<=xs.length*(Ty.agg ts).size:=nY _ bp;rw[qm] at this;omega
   have aa7:(Ty.agg ts).size=ts.length:=rfl
   obtain⟨cur,q1,q2,q3⟩:=h.storeRow (i:=i) (p:=i*(Ty.agg ts).size+off) (vs:=(a.eval v).cells.toList) eo fK k1 k2 ⟨us,u1,u2⟩ k4 bp (by omega) (by rw[Fs];omega) mS (λq u hq=>by
        have eD:(os.take off++(a.eval v).cells.toList++os.drop (off+(a.eval v).cells.toList.length))[q]?=some u:=by simpa [Value.cells] using hq
        have aCh:q<ts.length:=by have:=(eV.1 eD).1;simp[cS] at this;omega
        rw[kD,ni,dv,jZ (by omega)] at eD;rw[kD,ni,dv,jZ (by omega)];by_cases su:q<off
        .rw[if_pos su,dJ,if_pos su] at eD;rw[if_pos (by omega),dJ,if_pos (by omega)];exact u2 i q u bp (by rw[wq];simpa [Value.cells] using eD)
        .rw[if_neg su,ni] at eD;rw[if_neg (by omega),ni];rw[show i*(Ty.agg ts).size+q-(i*(Ty.agg ts).size+off)=q-off by omega];by_cases Q9:q-off<(a.eval v).cells.toList.length
         .rw[if_pos Q9] at eD ⊢;exact eD
         .rw[if_neg Q9,eH] at eD;rw[if_neg Q9,eH];rw[show off+(a.eval v).cells.toList.length+(q-off-(a.eval v).cells.toList.length)=q by omega] at eD;rw[show i*(Ty.agg ts).size+off+(a.eval v).cells.toList.length+(q-off-(a.eval v).cells.toList.length)=i*(Ty.agg ts).size+q by omega];exact u2 i q u bp (by rw[wq];simpa [Value.cells] using eD))
   refine cw.skip hd λO' ao=>?_;rw[sY ao]
   refine⟨_,Hd ho hi (cs:=cur) (by rw[gK,yK]) (by rw[cS,aH]) (λu hu=>by
        obtain⟨m,hm,rfl⟩:=gn hu;exact hv'.cellsOne jj (m:=m) (by simp at hm ⊢)) q1 (by rw[Fs] at q2;rw[aH,<-aa7];exact q2),V,own,hv,?_⟩
   rw[Fs] at q3;simp only[PE.ev,k1,D.l_list,vR,D.i_int,xD,tY hy,hd0,va];rw[aH,<-aa7];exact q3
  .rename_i T' e0 t e aB eo hu;rw[eo] at ba;have hv':=cQ h hC rfl hu;cases hc:(Nat.beq inf.size 1&&Nat.beq size 1&&Nat.beq off 0&&e0.one&&Ty.sub t e0)<;>simp only[hc,zyx,zyw] at hr
   .cases hr
   cases hr;simp only[aq] at hc;obtain⟨⟨⟨⟨aH,yK⟩,kf⟩,df⟩,bU⟩:=hc;have aH:=aA aH;have yK:=aA yK;have kf:=aA kf;subst kf;subst yK;have hve:=hv'.sub bU;obtain⟨c1,c2⟩:=hve.oneCell df;have EI:e0.size=1:=by cases e0<;>simp_all [Ty.size,Ty.one]
   obtain⟨cells,xs,k1,k2,k3,k4⟩:=ba;obtain⟨b,c',e1,EX,yB⟩:=zb k2;rw[fK] at e1;cases e1;obtain⟨y,hy⟩:∃y,xs[i]?=some y:=⟨_,bE bp⟩
   have aR:=k2.1
   obtain⟨cur,q1,q2,q3⟩:=h.storeRow (i:=i) (p:=i*e0.size) (vs:=[a.eval v]) eo fK k1 k2 k3 k4 bp (aY _) (by rw[EI];simp) hve (λq u hq=>by
        rw[c1] at hq;have we:q=0:=by have:=(dV.1 hq).1;simpa using this
        subst we;simp at hq;subst hq;have:i*e0.size<=cells.length:=by rw[aR];exact nY _ (by omega)
        rw[kD,jX (by simp;omega)];simp[jZ this])
   refine cw.skip hd λO' ao=>?_;rw[sY ao];refine⟨_,Hd ho hi (cs:=cur) (by rw[gK]) (by rw[c1,aH];rfl) (λu hu=>by rw[c1] at hu;simp at hu;subst hu;exact c2) q1 (by rw[EI] at q2;rw[aH];simpa using q2),V,own,hv,?_⟩;rw[c1,aH];have RE:va y 0 (e.ev O)=e.ev O:=by
        obtain⟨us,u1,u2⟩:=k3;have:=(u1 i y hy).dcells df;cases y with
        |agg ds=>have h8:=u1 i _ hy;generalize us i=vv at h8;cases h8;simp[Ty.one] at df
        |_=>rfl
   simp only[PE.ev,k1,D.l_list,vR,D.i_int,xD,tY hy,RE];rw[EI] at q3;simpa using q3
  .cases hr
def akt {O:Env}{es:List PE}{i:Nat}{e:PE}(h:es[i]?=some e):(PE.evs O es)[i]?=some (e.ev O):=by
 rw[PE.evs_eq,cV,h];rfl
def YN (h:Inv C S O V own hv w0 σ0 A a w)(hC:CtxOK C σ0)(hg:holds gs O=true){T:TypeId}{len:Nat}{ps:Array (Nat×Operand)}{r:St×List PI}(hr:xU C S gs dst T len ps.toList=some r){o:Oper}
 (ho:o.op=.buildSlice T len ps):∃(E:TypeId) (e:Ty) (es:List PE) (v:Value) (w':World),C.P.underlying T=some (.slice E)/\qf C.P E=some e/\r=(mkObj S dst (.row E e),[.setO dst (.lst es),.setR dst (.con .none)])/\
   (execOp a.eval o).run C.P w=.ok (.value v) w'/\Below w.heap.size w w'/\(∀k,Nat.beq k w.heap.size=true->w.heap.size<=k/\k<w'.heap.size)/\
   cR C (S.newO dst (.row E e)) (O.setO dst (.list (PE.evs O es))) V (gC own dst (λk=>Nat.beq k w.heap.size)) (cv hv dst v) w' w0.heap.size dst (.row E e):=by
 unfold xU at hr;split at hr
 case h_2=>cases hr
 rename_i E hT;simp only[aw] at hr;obtain⟨e,he,z,hz,hr⟩:=hr;cases hc:(rW C.P E e&&Ty.sub z.1 e&&iy (ps.toList.map (·.1))&&ps.toList.all (λp=>Nat.blt p.1 len)&&Nat.ble (len*e.size) 16777216)<;>simp only[hc,zyx,zyw] at hr
 .cases hr
 simp only[aq] at hc;obtain⟨⟨⟨⟨hef,bU⟩,bn⟩,dO⟩,hle⟩:=hc;have hle:=lg hle;obtain⟨inf,zv,hi,hs,l0,h1,hzv,nE⟩:=Pu hef;have uA:=Xs nE;have kP:=nJ bn;have Fx:=((zG (cap:=C.cap) (V:=V) hz nE).1).sub bU;simp only[aC] at hr;obtain⟨es,ke,rfl⟩:=hr;obtain⟨YW,el2⟩:=mapM_some _ _ _ ke;simp only[HU] at YW;have aae:∀i,i<len->∃pe,es[i]?=some pe/\JV C S gs e z.2 ps.toList i=some pe:=by
  intro i hi;obtain⟨y,hy1,ux⟩:=el2 i i (by rw[rH hi]);exact⟨y,hy1,ux⟩
 have pH:∀x,x∈ps.toList->x.1<len/\∃t pe,use C S gs x.2=some (t,pe)/\Ty.sub t e=true/\es[x.1]?=some pe:=by
  intro x hx;have yS:x.1<len:=by
   have:=bJ.1 dO x hx;simpa [jB] using this
  refine⟨yS,?_⟩;obtain⟨pe,E6,gy⟩:=aae x.1 yS;have EL:=Zi kP (i:=x.1) (x:=x.2) hx;simp only[JV,EL,aw] at gy;obtain⟨y,hy,gy⟩:=gy;cases hs:Ty.sub y.1 e<;>simp only[hs,zyx,zyw] at gy
  .cases gy
  cases gy;exact⟨y.1,y.2,hy,hs,E6⟩
 let c0:Array Value:=madeCells zv.cells (len*e.size)
 have qD:c0.size=len*e.size:=size_madeCells _ _
 have kR:∀p,p∈(ps.toList.map λ(x:Nat×Operand)=>(x.1,a.eval x.2))->∃o,(λi=>some (i*e.size,e.size)) p.1=some (o,p.2.cells.size)/\o+p.2.cells.size<=c0.size:=by
  intro p hp;obtain⟨x,hx,rfl⟩:=dX.1 hp;obtain⟨yS,t,pe,hu,bZ,_⟩:=pH x hx;have wj:=((cQ h hC hg hu).sub bZ).size;simp only;refine⟨x.1*e.size,by rw[wj],?_⟩;rw[wj,qD];have:(x.1+1)*e.size<=len*e.size:=nY _ yS;rw[qm] at this;omega
 have By:∀(i j oi si oj sj:Nat),i≠j->(λi=>some (i*e.size,e.size)) i=some (oi,si)->(λi=>some (i*e.size,e.size)) j=some (oj,sj)->oi+si<=oj\/oj+sj<=oi:=by
  intro i j oi si oj sj aB hi hj;simp only[aS,pg] at hi hj;obtain⟨rfl,rfl⟩:=hi;obtain⟨rfl,rfl⟩:=hj;rcases H2 i j with ah|gx
  .left;have:(i+1)*e.size<=j*e.size:=nY _ ah;rw[qm] at this;omega
  .right;have:(j+1)*e.size<=i*e.size:=nY _ (by omega);rw[qm] at this;omega
 obtain⟨dK,f1,f2,f3,f4⟩:=PF (λi=>some (i*e.size,e.size)) (ps.toList.map λ(x:Nat×Operand)=>(x.1,a.eval x.2)) c0 kR By (by simpa [HL] using kP);have ao:(execOp a.eval o).run C.P w=.ok (.value (.slice (some ⟨w.heap.size,0,none⟩) len len)) (w.alloc (.cells dK E)):=by
  have n1:¬(len*inf.size>2^24):=by rw[hs];omega
  have JY:Instr.fill (λi=>some (i*inf.size,inf.size)) c0 (ps.toList.map λ(x:Nat×Operand)=>(x.1,a.eval x.2))=some dK:=by rw[hs];exact f1
  by_cases h0:len*inf.size=0
  .have Bt:c0=#[]:=by
        apply NM;rw[qD,<-hs];exact h0
   rw[Bt] at JY
   have akv:Instr.fill (λi=>some (i*inf.size,inf.size)) (Array.map (λ_=>default) (Array.range 0)) (ps.toList.map λ(x:Nat×Operand)=>(x.1,a.eval x.2))=some dK:=by
        have:(Array.map (λ_=>(default:Value)) (Array.range 0))=#[]:=by simp
        rw[this];exact JY
   simp[execOp,ho,Instr.buildSlice,run_underlying hT,Go.sizeOf,run_typeInfo w hi,n1,h0,akv,newRow]
  .have Bt:c0=(Array.range (len*inf.size)).map (λx=>zv.cells[x%zv.cells.size]!):=by simp only[c0,madeCells,hs]
   rw[Bt] at JY;have h00:¬(len=0\/inf.size=0):=by rw[<-Nat.mul_eq_zero];exact h0
   simp[execOp,ho,Instr.buildSlice,run_underlying hT,Go.sizeOf,run_typeInfo w hi,n1,h0,h00,zeroValue,hzv,JY,newRow]
 refine⟨E,e,es,_,_,hT,he,rfl,ao,(Below.refl _ _).alloc (aY _) _,λk hk=>by simp at hk;simp;omega,?_⟩;have jL:(PE.evs O es).length=len:=by rw[PE.evs_eq,gp,YW]
 have ank:∀(i:Nat) (x:D),(PE.evs O es)[i]?=some x->∃v,Rep C.cap V e v x/\∀q u,v.cells[q]?=some u->dK.toList[i*e.size+q]?=some u:=by
  intro i x hx;have yr:i<len:=by have:=(eV.1 hx).1;omega
  obtain⟨pe,E6,gy⟩:=aae i yr;rw[akt E6] at hx;cases hx;unfold JV at gy;split at gy
  .rename_i p hp;have hpm:=rI hp;have K4:p.1=i:=by have:=HP hp;simpa using this
   obtain⟨_,t,pe',hu,bZ,v8⟩:=pH p hpm;rw[K4,E6] at v8;cases v8;have bY:=(cQ h hC hg hu).sub bZ;refine⟨_,bY,λq u hq=>?_⟩;have K5:q<(a.eval p.2).cells.size:=(dV.1 hq).1;have:=f3 p.1 (a.eval p.2) (p.1*e.size) (dX.2 ⟨p,hpm,rfl⟩) (by simp[bY.size]) q K5;rw[K4] at this;simp[this,hq]
  .rename_i hp;cases gy;refine⟨zv,Fx,λq u hq=>?_⟩;have K5:q<zv.cells.size:=(dV.1 hq).1
   have yC:i∉(ps.toList.map λ(x:Nat×Operand)=>(x.1,a.eval x.2)).map (·.1):=by
        intro cL;simp only[NY,dX,HL] at cL;obtain⟨x,yT,e⟩:=cL;have:=qk.1 hp x yT;simp[e] at this
   have:=f4 i (i*e.size) e.size yC rfl q (by omega);have h9:c0[i*e.size+q]?=zv.cells[q]?:=by
        simp only[c0];rw[<-uA];exact ab9 (by omega) yr K5
   simp[this,h9,hq]
 have cS:∃vs:Nat->Value,∀(i:Nat) (x:D),(PE.evs O es)[i]?=some x->Rep C.cap V e (vs i) x/\∀q u,(vs i).cells[q]?=some u->dK.toList[i*e.size+q]?=some u:=by
  have l6:∀i,∃v,∀x,(PE.evs O es)[i]?=some x->Rep C.cap V e v x/\∀q u,v.cells[q]?=some u->dK.toList[i*e.size+q]?=some u:=by
   intro i;cases hx:(PE.evs O es)[i]? with
   |none=>exact⟨undef,λx dz=>by cases dz⟩
   |some x=>
    obtain⟨v,hv⟩:=ank i x hx;exact⟨v,λy hy=>by cases hy;exact hv⟩
  exact⟨λi=>Classical.choose (l6 i),λi x hx=>XC (l6 i) x hx⟩
 obtain⟨vs,cS⟩:=cS;have dY:dK.size=len*e.size:=by rw[f2,qD]
 refine⟨dK.toList,PE.evs O es,by simp[Env.setO,aO],?_,⟨vs,λi x hx=>(cS i x hx).1,λi j u hi hj=>(cS i _ (bE hi)).2 j u hj⟩,λk hk=>by rw[aO] at hk;simp[Value.ownBlock] at hk;simp[gC,hk]⟩;rw[aO,jL];have qK:len<=maxLen:=by
  have:len*1<=len*e.size:=Nat.mul_le_mul_left _ h1;unfold maxLen;omega
 exact⟨by simp[dY],.inr ⟨w.heap.size,len,dK,rfl,h.below.size,heap_alloc_new w _,aY _,qK,dY,by rw[vt (by simp[dY])]⟩⟩
def ajG (h:Inv C S O V own hv w0 σ0 A a w)(hC:CtxOK C σ0)(ht:¬A dst)(ah:dst<a.tmps.size){T:TypeId}{len:Nat}{ps:Array (Nat×Operand)}{r:St×List PI}(hr:xU C S [] dst T len ps.toList=some r){o:Oper}(hd:o.dst=some dst)
 (ho:o.op=.buildSlice T len ps):cw C w0 σ0 Z S O A a w o r:=by
 obtain⟨E,e,es,v,w',_,_,rfl,ao,hb,dN,de⟩:=YN h hC rfl hr ho;refine cw.value hd λO' pJ=>⟨_,_,ao,?_⟩
 rw[CV pJ];exact h.mkObj ht ah (.row E e) _ _ (λk=>Nat.beq k w.heap.size) hb dN de
def Inv.kill (h:Inv C S O V own hv w0 σ0 A a w)(j:Nat):Inv C (S.newO j .dead) O V own hv w0 σ0 A a w:=by
 have ed:∀i,S.ver i<=(S.newO j .dead).ver i:=by
  intro i;show S.ver i<=cv S.ver j (S.ver j+1) i;rw[gm];by_cases e:i=j
  .subst e;simp
  .simp[e]
 have hc:Compat S hv (S.newO j .dead) hv:=⟨ed,λ_ _=>rfl⟩
 refine h.step (·=j) rfl (.refl V) h.ok (λ_ _ _ hx=>.inl hx) (λ_ _ hx=>.inl hx) (.refl _ _) hc (λi hi=>⟨by simp[St.newO,bt _ _ hi],rfl,rfl,λk hk=>⟨hk,rfl⟩⟩) (λi hi=>?_) h.owns (λ_=>id) (λt=>.inl ⟨rfl,rfl,rfl⟩) (λ_ _=>rfl) (λ_ _ _=>rfl) (λk i hk=>.inl ⟨i,hk⟩) (λi hi=>by subst hi;simp[St.newO,aO]);subst hi;simp only[St.newO,aO];trivial
def ajW (h:Inv C S O V own hv w0 σ0 A a w)(hC:CtxOK C σ0)(ht:¬A dst)(ah:dst<a.tmps.size)(eK:∀g,g∈gs->A g.1)(hg:holds gs O=true){T:TypeId}{len:Nat}{ps:Array (Nat×Operand)}{r:St×List PI}(hr:Bb C S gs dst T len ps.toList=some r){o:Oper}(hd:o.dst=some dst)
 (ho:o.op=.buildSlice T len ps):cw C w0 σ0 Z S O A a w o r:=by
 unfold Bb at hr;split at hr
 case h_2=>cases hr
 rename_i E q hT hq;simp only[aw] at hr;obtain⟨e,he,hr⟩:=hr;obtain⟨E',e',es,v,w',Bo,qF,rfl,ao,hb,dN,de⟩:=YN h hC hg hq ho;rw[hT] at Bo;cases Bo;rw[he] at qF;cases qF;cases hr;refine cw.value hd λO' pJ=>⟨_,_,ao,?_⟩
 have hρ:O'=O.setR dst (.list (PE.evs O es)):=by simp[PI.runs,PI.run,PE.ev] at pJ;exact pJ.symm
 subst hρ;have h1:=h.newO dst (.row E e) (.list (PE.evs O es)) v (λk=>Nat.beq k w.heap.size) hb dN de;obtain⟨σ2,jS,_,h2⟩:=h1.fz dst;have ui:(S.newO dst (.row E e)).fz dst=(S.newO dst (.row E e)).setO dst (.fz (.slice e.rol)):=by
  have:(S.newO dst (.row E e)).o dst=.row E e:=aO _ _ _;unfold St.fz;rw[this]
 rw[ui] at h2;have ba:=h2.objs dst;have e1:((S.newO dst (.row E e)).setO dst (.fz (.slice e.rol))).o dst=.fz (.slice e.rol):=aO _ _ _;rw[e1] at ba;have bY:Rep C.cap σ2 (.slice e.rol) v (.list (PE.evs O es)):=by
  have:=ba.2
  rwa [aO,show(O.setO dst (.list (PE.evs O es))).o dst=.list (PE.evs O es) from aO _ _ _] at this
 have h3:Inv C (S.newO dst .dead) O σ2 jS (cv hv dst v) w0 σ0 A a w':=by
  refine h2.step (·=dst) rfl (.refl σ2) h2.ok (λ_ _ _ hx=>.inl hx) (λ_ _ hx=>.inl hx) (.refl _ _) ⟨λi=>aY _,λ_ _=>rfl⟩ (λi hi=>⟨?_,?_,rfl,λk hk=>⟨hk,rfl⟩⟩) (λi hi=>?_) h2.owns (λ_=>id) (λt=>.inl ⟨rfl,rfl,rfl⟩) (λ_ _=>rfl) (λ_ _ _=>rfl) (λk i hk=>.inl ⟨i,hk⟩) (λi hi=>by subst hi;simp[St.newO,aO])
  .simp[St.newO,St.setO,bt _ _ hi]
  .simp[Env.setO,bt _ _ hi]
  .subst hi;simp only[St.newO,aO];trivial
 have hh:holds gs (O.setR dst (.list (PE.evs O es)))=true:=by rw[E4 (t:=dst) λg hm e=>ht (by rw[<-e];exact eK g hm)];exact hg
 cases gs with
 |nil=>exact⟨_,_,_,h3.setReg ht (s:=.dat (.slice e.rol)) bY ah (λ_ _ e=>by cases e)⟩
 |cons g cd=>
  refine⟨_,_,_,h3.setReg ht (s:=.opt (g::cd) (.dat (.slice e.rol))) ⟨λ_=>bY,λe=>absurd (hh.symm.trans e) (by decide)⟩ ah (λgs s e=>?_)⟩;cases e;exact⟨eK,λ_ _ e=>by cases e⟩
end
end Cx
