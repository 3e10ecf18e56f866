/-
  Shared texts of this claim.
-/
import Derived.Test.YtmnnipoiigfapaaGreatDoorKAB
import Derived.Laws.OwnMore
import Derived.Lib.ConvBytes
set_option linter.unusedSimpArgs false
set_option linter.unusedVariables false
namespace Cx
open Go Go.RowKit
def gj (b i:Nat):Nat:=4096*(i+1)+b
def St.fz (S:St)(j:Nat):St:=
 match S.o j with
 |.row _ e=>S.setO j (.fz (.slice e.rol))
 |.mp k e=>S.setO j (.fz (.map k e))
 |_=>S
def BW (S:St)(b:Nat):Option (St×List PI):=
 match S.o b with
 |.box ag shs=>
  (p5 S (.o b) shs 0).bind fun x=>
    bif ag then some (S.setO b (.fbox (.agg x.1)),[.setO b (.mk x.2)])
    else match x.1,x.2 with
     |[t],[e]=>some (S.setO b (.fbox t),[.setO b e])
     |_,_=>Option.none
 |_=>Option.none
def St.mv (S:St)(j j':Nat):St:=
 {S with o:=bQ (bQ S.o j' (S.o j)) j .dead,ver:=bQ (bQ S.ver j' (S.ver j'+1)) j (S.ver j+1)}
def kG:Ob→Bool
 |.row ..=>true
 |.mp ..=>true
 |_=>false
def wW (S:St)(t j':Nat):Option (St×List PI):=
 match S.r t with
 |.obj j ver=>
  bif Nat.beq ver (S.ver j)&&kG (S.o j)&& !Nat.beq j j' then some ((S.mv j j').setR t (.obj j' (S.ver j'+1)),[.setO j' (.o j)])
  else some (S,[])
 |_=>some (S,[])
def Eu (S:St)(b i j':Nat):Option (St×List PI):=
 match S.o b with
 |.box ag shs=>
  match shs[i]? with
  |some (.obj j ver)=>
   bif Nat.beq ver (S.ver j)&&kG (S.o j)&& !Nat.beq j j'&& !Nat.beq b j'&& !Nat.beq b j then
    some ((S.mv j j').setO b (.box ag (shs.set i (.obj j' (S.ver j'+1)))),[.setO j' (.o j)])
   else some (S,[])
  |_=>some (S,[])
 |_=>some (S,[])
def CH (C:Ctx)(S:St)(b i j:Nat)(T:TypeId):Option (St×List PI):=
 match S.o b with
 |.box ag shs=>
  match shs[i]?,oc C.P T with
  |some (.dat (.nils _)),some e=>
   bif !Nat.beq b j then some ((S.newO j (.row T e)).setO b (.box ag (shs.set i (.obj j (S.ver j+1)))),[.setO j (.con (.list []))])
   else some (S,[])
  |_,_=>some (S,[])
 |_=>some (S,[])
section
variable {C:Ctx} {S:St} {ρ:Env} {σ:Im} {own:Nat→Option Nat} {hv:Nat→Value} {w0:World} {σ0:Base} {A:Nat→Prop} {a:Act} {w:World} {gs:List (Nat×Bool)} {Φ:aP} {dst:Nat}
theorem Inv.lt (h:Inv C S ρ σ own hv w0 σ0 A a w){k o:Nat}{u:Value}(hc:σ.c k o=some u):k<w.heap.size:=World.block_lt_of_cell? w (a:=⟨k,o,none⟩) (h.ok.c _ _ _ hc)
theorem Inv.ltm (h:Inv C S ρ σ own hv w0 σ0 A a w){k:Nat}{es:List (Value×Value)}(hc:σ.m k=some es):k<w.heap.size:=by
 exact(h.ok.m _ _ hc).lt
theorem Im.ok.below {σ:Im}{w w':World}(h:σ.ok w)(hb:Below w.heap.size w w'):σ.ok w':=by
 refine⟨fun k o v hc=>?_,fun k es hc=>?_⟩
 ·have h1:=h.c k o v hc;rw[hb.cell (World.block_lt_of_cell? w (a:=⟨k,o,none⟩) h1)];exact h1
 ·exact(h.m k es hc).keep (hb.block k (h.m k es hc).lt)
def fc (own:Nat→Option Nat)(j:Nat)(nb:Nat→Bool):Nat→Option Nat:=fun k=>if nb k then some j else if own k=some j then none else own k
theorem Inv.newOσ (h:Inv C S ρ σ own hv w0 σ0 A a w)(j:Nat)(ob:Ob)(d:D)(v:Value)(nb:Nat→Bool){σ':Im}{w':World}(hle:σ.le σ')(aA:σ'.ok w')(cP:∀k o x,σ'.c k o=some x→σ.c k o=some x∨w.heap.size≤k)(cI:∀k x,σ'.m k=some x→σ.m k=some x∨w.heap.size≤k)
 (hw:Below w.heap.size w w') (dm:∀k,nb k=true→w.heap.size≤k∧k<w'.heap.size) (cS:∀k,nb k=true→(∀o,σ'.c k o=none)∧σ'.m k=none)
 (cJ:cd C (S.newO j ob) (ρ.setO j d) σ' (fc own j nb) (bQ hv j v) w' w0.heap.size j ob) (mJ:ob≠.tr:=by intro h;cases h):Inv C (S.newO j ob) (ρ.setO j d) σ' (fc own j nb) (bQ hv j v) w0 σ0 A a w':=by
 have aJ:w0.heap.size≤w.heap.size:=h.below.size;have bY:∀k i,i≠j→own k=some i→fc own j nb k=some i:=by
  intro k i hi hk;have h1:=h.owns k i hk;have h2:nb k=false:=by
   cases hn:nb k with
   |false=>rfl
   |true=>have:=dm k hn;omega
  simp[fc,h2,hk,hi]
 refine h.step (fun i=>i=j) rfl hle aA (fun k o x hx=>(cP k o x hx).imp id fun e=>⟨by omega,.inr e⟩) (fun k x hx=>(cI k x hx).imp id fun e=>⟨by omega,.inr e⟩) (hw.mono aJ) ⟨fun i=>?_,fun i e=>?_⟩ (fun i hi=>⟨?_,?_,?_,fun k hk=>⟨bY k i hi hk,?_⟩⟩) (fun i hi=>?_) (fun k i hk=>?_) (fun _=>id) (fun t=>.inl ⟨rfl,rfl,rfl⟩) (fun _ _=>rfl) (fun k hk _=>hw.block k hk) (fun k i hk=>by
  unfold fc at hk;split at hk
  ·rename_i hn;exact .inr (dm k hn).1
  ·split at hk
   ·cases hk
   ·exact .inl ⟨i,hk⟩) (fun i hi=>by subst hi;simpa only[St.newO,aL] using mJ)
 ·simp only[St.newO,eN];split<;>rename_i e
  ·subst e;omega
  ·omega
 ·simp only[St.newO,eN] at e;split at e
  ·rename_i e';subst e';omega
  ·rename_i aB;exact bl _ _ aB
 ·simp[St.newO,bl _ _ hi]
 ·simp[Env.setO,bl _ _ hi]
 ·exact bl _ _ hi
 ·exact hw.block k (h.owns k i hk).2.1
 ·subst hi;simp only[St.newO,aL];exact cJ
 ·unfold fc at hk;split at hk
  ·rename_i hn;obtain⟨g1,g2⟩:=dm k hn;exact⟨by omega,g2,(cS k hn).1,(cS k hn).2⟩
  ·split at hk
   ·cases hk
   ·obtain⟨g1,g2,g3,g4⟩:=h.owns k i hk;refine⟨g1,by have:=hw.size;omega,fun o=>?_,?_⟩
    ·cases hc:σ'.c k o with
     |none=>rfl
     |some u=>
      rcases cP k o u hc with e|e
      ·rw[g3 o] at e;cases e
      ·omega
    ·cases hc:σ'.m k with
     |none=>rfl
     |some u=>
      rcases cI k u hc with e|e
      ·rw[g4] at e;cases e
      ·omega
theorem Inv.newO (h:Inv C S ρ σ own hv w0 σ0 A a w)(j:Nat)(ob:Ob)(d:D)(v:Value)(nb:Nat→Bool){w':World}(hw:Below w.heap.size w w')(dm:∀k,nb k=true→w.heap.size≤k∧k<w'.heap.size)
 (cJ:cd C (S.newO j ob) (ρ.setO j d) σ (fc own j nb) (bQ hv j v) w' w0.heap.size j ob) (mJ:ob≠.tr:=by intro h;cases h):Inv C (S.newO j ob) (ρ.setO j d) σ (fc own j nb) (bQ hv j v) w0 σ0 A a w':=by
 refine h.newOσ j ob d v nb (.refl σ) (h.ok.below hw) (fun _ _ _ hx=>.inl hx) (fun _ _ hx=>.inl hx) hw dm (fun k hn=>⟨fun o=>?_,?_⟩) cJ mJ
 ·cases hc:σ.c k o with
  |none=>rfl
  |some u=>have:=h.lt hc;have:=(dm k hn).1;omega
 ·cases hc:σ.m k with
  |none=>rfl
  |some u=>have:=h.ltm hc;have:=(dm k hn).1;omega
theorem Inv.setObj (h:Inv C S ρ σ own hv w0 σ0 A a w){t j:Nat}(ht:¬A t){v:Value}(eA:hv j=v)(af:t<a.tmps.size):
 Inv C (S.setR t (.obj j (S.ver j))) (ρ.setR t .none) σ own hv w0 σ0 (fun u=>A u∨u=t) (a.put (some t) v) w:=
 h.setReg ht (s:=.obj j (S.ver j)) (v:=v) (d:=.none) ⟨bf _,fun _=>eA.symm⟩ af (fun _ _ e=>by cases e)
theorem GK (S:St)(j:Nat):(S.fz j).ver=S.ver∧(S.fz j).r=S.r:=by
 unfold St.fz;split<;>exact⟨rfl,rfl⟩
theorem Inv.fz (h:Inv C S ρ σ own hv w0 σ0 A a w)(j:Nat):∃σ' own',σ.le σ'∧Inv C (S.fz j) ρ σ' own' hv w0 σ0 A a w:=by
 have aV:=h.objs j;unfold St.fz;split
 ·rename_i T e eo;rw[eo] at aV;obtain⟨cells,xs,h1,h2,⟨vs,h3,h4⟩,h5⟩:=aV;have aJ:w0.heap.size≤w.heap.size:=h.below.size
  let nb:Nat→Bool:=fun k=>decide ((hv j).ownBlock=some k)
  let σ':Im:={c:=fun k o=>if nb k then cells[o]? else σ.c k o,m:=σ.m}
  have dm:∀k,nb k=true→own k=some j:=fun k hk=>h5 k (by simpa [nb] using hk);have hle:σ.le σ':=by
   refine⟨fun k o v hc=>?_,fun k es hc=>hc⟩;have:nb k=false:=by
        cases hn:nb k with
        |false=>rfl
        |true=>have:=(h.owns k j (dm k hn)).2.2.1 o;rw[this] at hc;cases hc
   simp[σ',this,hc]
  refine⟨σ',fun k=>if nb k then none else own k,hle,h.step (fun i=>i=j) rfl hle ?_ (fun k o x hx=>?_) (fun _ _ hx=>.inl hx) (.refl _ _) ⟨fun _=>bf _,fun _ _=>rfl⟩ (fun i hi=>⟨?_,rfl,rfl,fun k hk=>⟨?_,rfl⟩⟩) (fun i hi=>?_) (fun k i hk=>?_) (fun _=>id) (fun t=>.inl ⟨rfl,rfl,rfl⟩) (fun _ _=>rfl) (fun _ _ _=>rfl) (fun k i hk=>by
        split at hk
        ·cases hk
        ·exact .inl ⟨i,hk⟩) (fun i hi=>by subst hi;simp[St.setO,aL])⟩
  ·refine⟨fun k o v hc=>?_,h.ok.m⟩;simp only[σ'] at hc;split at hc
   ·rename_i hn;have cJ:(hv j).ownBlock=some k:=by simpa [nb] using hn
    have:=h2.cells cJ o v hc;rw[rq] at this;simpa using this
   ·exact h.ok.c k o v hc
  ·simp only[σ'] at hx;split at hx
   ·rename_i hn;exact .inr ⟨(h.owns k j (dm k hn)).1,.inl ⟨j,dm k hn⟩⟩
   ·exact .inl hx
  ·simp[St.setO,bl _ _ hi]
  ·have:nb k=false:=by
        cases hn:nb k with
        |false=>rfl
        |true=>rw[dm k hn] at hk;simp at hk;exact absurd hk.symm hi
   simp[this,hk]
  ·subst hi;simp only[St.setO,aL];refine⟨rfl,?_⟩;rw[h1];rcases h2.2 with⟨e1,e2⟩|⟨g,cap,cur,e1,e2,e3,e4,e5,e6,e7⟩
   ·rw[e1];have:xs=[]:=JV e2;subst this;exact .nil _
   ·rw[e1];refine .slice e.rol g 0 xs.length cap xs vs rfl e4 e5 (fun i x hx=>((h3 i x hx).mono hle).unf_rol) (fun i m u hi hu=>?_);rw[Ty.rol_size];have hn:nb g=true:=by simp[nb,e1,Value.ownBlock]
    simp only[σ',hn,if_true,gz];exact h4 i m u hi hu
  ·split at hk
   ·cases hk
   ·rename_i hn;obtain⟨g1,g2,g3,g4⟩:=h.owns k i hk;exact⟨g1,g2,fun o=>by simp[σ',hn,g3 o],g4⟩
 ·rename_i kt et eo;rw[eo] at aV;obtain⟨k0,arr,clock,fp,h1,h2,h3,h4,h5,⟨hx,_⟩,h6⟩:=aV;have aJ:w0.heap.size≤w.heap.size:=h.below.size
  let σ':Im:={c:=σ.c,m:=fun k=>if k=k0 then some (entriesOf arr) else σ.m k}
  have hle:σ.le σ':=by
   refine⟨fun k o v hc=>hc,fun k es hc=>?_⟩;have:k≠k0:=fun e=>by subst e;rw[(h.owns k j h2).2.2.2] at hc;cases hc
   simp[σ',this,hc]
  refine⟨σ',fun k=>if k=k0 then none else own k,hle,h.step (fun i=>i=j) rfl hle ?_ (fun k o x hx=>.inl hx) (fun k x hx=>?_) (.refl _ _) ⟨fun _=>bf _,fun _ _=>rfl⟩ (fun i hi=>⟨?_,rfl,rfl,fun k hk=>⟨?_,rfl⟩⟩) (fun i hi=>?_) (fun k i hk=>?_) (fun _=>id) (fun t=>.inl ⟨rfl,rfl,rfl⟩) (fun _ _=>rfl) (fun _ _ _=>rfl) (fun k i hk=>by
        split at hk
        ·cases hk
        ·exact .inl ⟨i,hk⟩) (fun i hi=>by subst hi;simp[St.setO,aL])⟩
  ·refine⟨h.ok.c,fun k es hc=>?_⟩;simp only[σ'] at hc;split at hc
   ·rename_i e;subst e;cases hc;refine .inl ⟨fun e=>?_,arr,clock,h3,rfl⟩;refine Di (cap:=C.cap) (σ:=σ) (kt:=kt) (es:=fp) (by simp[entriesOf,h5]) (fun i p q hp hq=>?_) e;simp only[entriesOf,cw,az] at hp;obtain⟨x,da,rfl⟩:=hp;exact(h6 i x q (by simpa using da) hq).1
   ·exact h.ok.m k es hc
  ·simp only[σ'] at hx;split at hx
   ·rename_i e;subst e;exact .inr ⟨(h.owns k j h2).1,.inl ⟨j,h2⟩⟩
   ·exact .inl hx
  ·simp[St.setO,bl _ _ hi]
  ·have:k≠k0:=fun e=>by subst e;rw[h2] at hk;simp at hk;exact hi hk.symm
   simp[this,hk]
  ·subst hi;simp only[St.setO,aL];refine⟨rfl,?_⟩;rw[h1,h4];refine .map kt et k0 (entriesOf arr) fp (by simp[σ']) (by simp[entriesOf,h5]) hx (fun i p q hp hq=>?_) (fun i p q hp hq=>?_)
   ·simp only[entriesOf,cw,az] at hp;obtain⟨e,he,rfl⟩:=hp;exact((h6 i e q (by simpa using he) hq).1).mono hle
   ·simp only[entriesOf,cw,az] at hp;obtain⟨e,he,rfl⟩:=hp;exact((h6 i e q (by simpa using he) hq).2).mono hle
  ·split at hk
   ·cases hk
   ·rename_i hn;obtain⟨g1,g2,g3,g4⟩:=h.owns k i hk;exact⟨g1,g2,g3,by simp[σ',hn,g4]⟩
 ·exact⟨σ,own,.refl σ,h⟩
end
end Cx
namespace Cx
open Go Go.RowKit
section
variable {C:Ctx} {S:St} {ρ:Env} {σ:Im} {own:Nat→Option Nat} {hv:Nat→Value} {w0:World} {σ0:Base} {A:Nat→Prop} {a:Act} {w:World} {gs:List (Nat×Bool)} {Φ:aP} {dst:Nat}
theorem qO {j:Nat}{e:PE}{ρ':Env}(h:PI.runs Φ [.setO j e] ρ=some ρ'):ρ'=ρ.setO j (e.ev ρ):=by
 simp[PI.runs,PI.run] at h;exact h.symm
theorem mZ {ρ':Env}(h:PI.runs Φ [] ρ=some ρ'):ρ'=ρ:=by
 simp[PI.runs] at h;exact h.symm
def AT (C:Ctx)(w0:World)(σ0:Base)(Φ:aP)(S:St)(ρ:Env)(A:Nat→Prop)(a:Act)(w:World)(r:St×List PI):Prop:=
 ∀ρ',PI.runs Φ r.2 ρ=some ρ'→Good C w0 σ0 r.1 ρ' A a w
theorem agb (h:Inv C S ρ σ own hv w0 σ0 A a w){b:Nat}{r:St×List PI}(hr:BW S b=some r):AT C w0 σ0 Φ S ρ A a w r:=by
 unfold BW at hr;split at hr
 case h_2=>cases hr
 rename_i ag shs eo;simp only[au] at hr;obtain⟨x,hx,hr⟩:=hr;have aV:=h.objs b;rw[eo] at aV;obtain⟨k,cs,T,ds,h1,h2,h3,h4,h5,h6,h7⟩:=aV;obtain⟨l1,es,⟨he,oQ⟩,l2,bM⟩:=K9 (b:=.o b) h (cs:=cs.toList) h5 shs 0 x (fun m s hm=>by rw[yR,gz];exact(h7 m s hm).2) hx
 let σ':Im:={c:=fun k' o=>if k'=k then cs[o]? else σ.c k' o,m:=σ.m}
 have hle:σ.le σ':=by
  refine⟨fun k' o v hc=>?_,fun k es hc=>hc⟩;have:k'≠k:=fun e=>by subst e;rw[(h.owns k' b h2).2.2.1 o] at hc;cases hc
  simp[σ',this,hc]
 have key:∀(t:Ty) (v:Value) (d:D),Rep C.cap σ' t v d→(∀(i:Nat) (u:Value),v.cells[i]?=some u→cs[i]?=some u)→
  Inv C (S.setO b (.fbox t)) (ρ.setO b d) σ' (fun k'=>if k'=k then none else own k') hv w0 σ0 A a w:=by
  intro t v d hrv aW
  refine h.step (fun i=>i=b) rfl hle ?_ (fun k' o x hx=>?_) (fun _ _ hx=>.inl hx) (.refl _ _) ⟨fun _=>bf _,fun _ _=>rfl⟩ (fun i hi=>⟨?_,?_,rfl,fun k' hk=>⟨?_,rfl⟩⟩) (fun i hi=>?_) (fun k' i hk=>?_) (fun _=>id) (fun t=>.inl ⟨rfl,rfl,rfl⟩) (fun _ _=>rfl) (fun _ _ _=>rfl) (fun k' i hk=>by
        split at hk
        ·cases hk
        ·exact .inl ⟨i,hk⟩) (fun i hi=>by subst hi;simp[St.setO,aL])
  ·refine⟨fun k' o v hc=>?_,h.ok.m⟩;simp only[σ'] at hc;split at hc
   ·rename_i e;subst e;simp[World.cell?,h3,hc]
   ·exact h.ok.c k' o v hc
  ·simp only[σ'] at hx;split at hx
   ·rename_i e;subst e;exact .inr ⟨(h.owns k' b h2).1,.inl ⟨b,h2⟩⟩
   ·exact .inl hx
  ·simp[St.setO,bl _ _ hi]
  ·simp[Env.setO,bl _ _ hi]
  ·have:k'≠k:=fun e=>by subst e;rw[h2] at hk;simp at hk;exact hi hk.symm
   simp[this,hk]
  ·subst hi;simp only[St.setO,aL];exact⟨k,v,h1,by simp only[Env.setO,aL];exact hrv,fun i u hu=>by simp[σ',aW i u hu]⟩
  ·split at hk
   ·cases hk
   ·rename_i hn;obtain⟨g1,g2,g3,g4⟩:=h.owns k' i hk;exact⟨g1,g2,fun o=>by simp[σ',hn,g3 o],g4⟩
 have ic:∀(m:Nat) (t:Ty),x.1[m]?=some t→t.one=true∧Rep C.cap σ' t (cs.toList.getD m undef) (es.getD m .none):=fun m t hm=>by
  obtain⟨g1,g2⟩:=bM m t hm;rw[gz] at g2;exact⟨g1,g2.mono hle⟩
 intro ρ' ah;cases ag with
 |true=>
  simp only[cond_true] at hr;cases hr;have:=qO ah;subst this;refine⟨_,_,_,key (.agg x.1) (.agg cs.toList.toArray) _ ?_ (fun i u hu=>by simpa [Value.cells] using hu)⟩;simp only[PE.ev,he];exact .agg _ _ _ (by simp;omega) (by omega) (fun m t hm=>(ic m t hm).2) (fun m t hm=>(ic m t hm).1)
 |false=>
  simp only[cond_false] at hr;split at hr
  ·rename_i t e et ee;cases hr;have:=qO ah;subst this;obtain⟨g1,g2⟩:=ic 0 t (by rw[et];rfl);have iQ:es=[e.ev ρ]:=by rw[←oQ,ee];rfl
   subst iQ;refine⟨_,_,_,key t (cs.toList.getD 0 undef) _ (by simpa using g2) (fun i u hu=>?_)⟩;rw[(g2.oneCell g1).1] at hu;have hi:i=0:=by
        have:=(ga.1 hu).1;simpa using this
   subst hi;simp at hu;subst hu;have:0<cs.size:=by rw[h4];rw[et] at l1;simp at l1;omega
   rw[fi this];simp[aK,fi this]
  ·cases hr
theorem Inv.mv (h:Inv C S ρ σ own hv w0 σ0 A a w){j j':Nat}(aB:j≠j')(hk:kG (S.o j)=true):
 Inv C (S.mv j j') (ρ.setO j' (ρ.o j)) σ (fun k=>if own k=some j then some j' else if own k=some j' then none else own k) (bQ hv j' (hv j)) w0 σ0 A a w:=by
 have aV:=h.objs j
 refine h.step (fun i=>i=j∨i=j') rfl (.refl σ) h.ok (fun _ _ _ hx=>.inl hx) (fun _ _ hx=>.inl hx) (.refl _ _) ⟨fun i=>?_,fun i e=>?_⟩ (fun i hi=>?_) (fun i hi=>?_) (fun k i hk=>?_) (fun _=>id) (fun t=>.inl ⟨rfl,rfl,rfl⟩) (fun _ _=>rfl) (fun _ _ _=>rfl) (fun k i hk=>by
        split at hk
        ·rename_i e;exact .inl ⟨j,e⟩
        ·split at hk
         ·cases hk
         ·exact .inl ⟨i,hk⟩) (fun i hi=>by
        rcases hi with rfl|rfl
        ·simp[St.mv,aL]
        ·simp only[St.mv,bl _ _ (sX aB),aL];intro e;rw[e] at hk;cases hk)
 ·simp only[St.mv,eN];split
  ·rename_i e;subst e;omega
  ·split
   ·rename_i e;subst e;omega
   ·omega
 ·simp only[St.mv,eN] at e;split at e
  ·rename_i e';subst e';omega
  ·split at e
   ·rename_i e';subst e';omega
   ·rename_i MB;exact bl _ _ MB
 ·simp only[not_or] at hi;refine⟨by simp[St.mv,bl _ _ hi.1,bl _ _ hi.2],by simp[Env.setO,bl _ _ hi.2],bl _ _ hi.2,fun k hk=>⟨?_,rfl⟩⟩;have e1:i≠j:=hi.1;have e2:i≠j':=hi.2;simp[hk,e1,e2]
 ·rcases hi with rfl|rfl
  ·simp only[St.mv,aL];trivial
  ·simp only[St.mv,bl _ _ (sX aB),aL];cases cJ:S.o j with
   |row T e=>
    rw[cJ] at aV;obtain⟨cells,xs,h1,h2,h3,h4⟩:=aV;refine⟨cells,xs,by simp only[Env.setO,aL];exact h1,by rw[aL];exact h2,h3,fun k hk=>?_⟩;rw[aL] at hk;simp[h4 k hk]
   |mp kt et=>
    rw[cJ] at aV;obtain⟨k0,arr,clock,es,h1,h2,h3,h4,h5,h6⟩:=aV;exact⟨k0,arr,clock,es,by rw[aL];exact h1,by simp[h2],h3,by simp only[Env.setO,aL];exact h4,h5,h6⟩
   |_=>rw[cJ] at hk;simp[kG] at hk
 ·split at hk
  ·rename_i e;exact h.owns k j e
  ·split at hk
   ·cases hk
   ·exact h.owns k i hk
theorem anO (h:Inv C S ρ σ own hv w0 σ0 A a w){t j':Nat}{r:St×List PI}(hr:wW S t j'=some r):AT C w0 σ0 Φ S ρ A a w r:=by
 intro ρ' ah;unfold wW at hr;split at hr
 ·rename_i j ver es;cases hb:(Nat.beq ver (S.ver j)&&kG (S.o j)&& !Nat.beq j j')<;>simp only[hb,cond_true,cond_false] at hr
  ·cases hr;rw[mZ ah];exact⟨_,_,_,h⟩
  ·cases hr;simp only[ak,gd] at hb;have dH:=ay hb.1.1;have aB:j≠j':=fun e=>by subst e;simp at hb
   have kS:=h.mv aB hb.1.2;have fP:=h.regs t;rw[es] at fP;have bZ:=fP.2 dH;rw[qO ah];refine⟨_,_,_,kS.step (S':=(S.mv j j').setR t (.obj j' (S.ver j'+1))) (fun _=>False) rfl (.refl σ) kS.ok (fun _ _ _ hx=>.inl hx) (fun _ _ hx=>.inl hx) (.refl _ _) ⟨fun _=>bf _,fun _ _=>rfl⟩ (fun i _=>⟨rfl,rfl,rfl,fun k hk=>⟨hk,rfl⟩⟩) (fun _ hf=>hf.elim) kS.owns (fun _=>id) (fun u=>?_) (fun _ _=>rfl) (fun _ _ _=>rfl) (fun k i hk=>.inl ⟨i,hk⟩) (fun _ hf=>hf.elim)⟩;by_cases hu:u=t
   ·subst hu;refine .inr ⟨?_,fun gs s e=>by simp[St.setR,aL] at e⟩;simp only[St.setR,aL];refine⟨?_,fun _=>?_⟩
    ·simp[St.mv,bl _ _ (sX aB),aL]
    ·rw[aL];exact bZ
   ·exact .inl ⟨by simp[St.setR,bl _ _ hu],rfl,rfl⟩
 ·cases hr;rw[mZ ah];exact⟨_,_,_,h⟩
theorem anN (h:Inv C S ρ σ own hv w0 σ0 A a w){b i j':Nat}{r:St×List PI}(hr:Eu S b i j'=some r):AT C w0 σ0 Φ S ρ A a w r:=by
 intro ρ' ah;unfold Eu at hr;split at hr
 ·rename_i ag shs eo;split at hr
  ·rename_i j ver es;cases hb:(Nat.beq ver (S.ver j)&&kG (S.o j)&& !Nat.beq j j'&& !Nat.beq b j'&& !Nat.beq b j)<;>simp only[hb,cond_true,cond_false] at hr
   ·cases hr;rw[mZ ah];exact⟨_,_,_,h⟩
   ·cases hr;simp only[ak,gd] at hb;have dH:=ay hb.1.1.1.1;have aB:j≠j':=fun e=>by subst e;simp at hb
    have gP:b≠j':=fun e=>by subst e;simp at hb
    have cY:b≠j:=fun e=>by subst e;simp at hb
    have aV:=h.objs b;rw[eo] at aV;obtain⟨k,cs,T,ds,h1,h2,h3,h4,h5,h6,h7⟩:=aV;have bZ:=(h7 i _ es).2.2 dH;have kS:=h.mv aB hb.1.1.1.2;rw[qO ah];have Lx:(S.mv j j').o b=.box ag shs:=by simp[St.mv,bl _ _ gP,bl _ _ cY,eo]
    have CF:=kS.objs b;rw[Lx] at CF;refine⟨_,_,_,kS.step (S':=(S.mv j j').setO b (.box ag (shs.set i (.obj j' (S.ver j'+1))))) (fun m=>m=b) rfl (.refl σ) kS.ok (fun _ _ _ hx=>.inl hx) (fun _ _ hx=>.inl hx) (.refl _ _) ⟨fun _=>bf _,fun _ _=>rfl⟩ (fun m hm=>⟨by simp[St.setO,bl _ _ hm],rfl,rfl,fun k hk=>⟨hk,rfl⟩⟩) (fun m hm=>?_) kS.owns (fun _=>id) (fun t=>.inl ⟨rfl,rfl,rfl⟩) (fun _ _=>rfl) (fun _ _ _=>rfl) (fun k i hk=>.inl ⟨i,hk⟩) (fun m hm=>by subst hm;simp[St.setO,aL])⟩;subst hm;rw[St.setO_o];obtain⟨k1,Br,T1,Bv,g1,g2,g3,g4,g5,g6,g7⟩:=CF;have e1:Br=cs:=by
     rw[bl _ _ gP,h1] at g1;cases g1;rw[h3] at g3;cases g3;rfl
    refine⟨k1,Br,T1,Bv,g1,g2,g3,by simpa using g4,g5,by simpa using g6,fun q x hq=>?_⟩;rw[AV] at hq;split at hq
    ·rename_i e;subst e;split at hq
     ·cases hq;refine⟨(fun _ _ e=>by cases e),?_,fun _=>?_⟩
      ·simp[St.setO,St.mv,bl _ _ (sX aB),aL]
      ·rw[aL,e1];exact bZ
     ·cases hq
    ·obtain⟨f1,f2⟩:=g7 q x hq;exact⟨f1,f2.mono' (.refl σ) (Compat.setO _ _ _ _) f1⟩
  ·cases hr;rw[mZ ah];exact⟨_,_,_,h⟩
 ·cases hr;rw[mZ ah];exact⟨_,_,_,h⟩
theorem aip (h:Inv C S ρ σ own hv w0 σ0 A a w){b i j:Nat}{T:TypeId}{r:St×List PI}(hr:CH C S b i j T=some r):AT C w0 σ0 Φ S ρ A a w r:=by
 intro ρ' ah;unfold CH at hr;split at hr
 ·rename_i ag shs eo;split at hr
  ·rename_i e0 e es et;cases hb:(!Nat.beq b j)<;>simp only[hb,cond_true,cond_false] at hr
   ·cases hr;rw[mZ ah];exact⟨_,_,_,h⟩
   ·cases hr;have aB:b≠j:=fun e=>by subst e;simp at hb
    have aV:=h.objs b;rw[eo] at aV;obtain⟨k,cs,T0,ds,h1,h2,h3,h4,h5,h6,h7⟩:=aV;have bZ:cs.getD i undef=.slice none 0 0:=by
     have:=(h7 i _ es).2;generalize cs.getD i undef=v at this;generalize ds.getD i .none=d at this;cases this;rfl
    have kU:=h.newO j (.row T e) (.list []) (.slice none 0 0) (fun _=>false) (.refl _ _) (by simp) ⟨[],[],by simp[Env.setO,aL],by rw[aL];exact World.ownsRow_nil _ _ _ _,⟨fun _=>undef,by simp,by simp⟩,by rw[aL];simp[Value.ownBlock]⟩;rw[qO ah];have Lx:(S.newO j (.row T e)).o b=.box ag shs:=by simp[St.newO,bl _ _ aB,eo]
    have CF:=kU.objs b;rw[Lx] at CF;refine⟨_,_,_,kU.step (S':=(S.newO j (.row T e)).setO b (.box ag (shs.set i (.obj j (S.ver j+1))))) (fun m=>m=b) rfl (.refl σ) kU.ok (fun _ _ _ hx=>.inl hx) (fun _ _ hx=>.inl hx) (.refl _ _) ⟨fun _=>bf _,fun _ _=>rfl⟩ (fun m hm=>⟨by simp[St.setO,bl _ _ hm],rfl,rfl,fun k hk=>⟨hk,rfl⟩⟩) (fun m hm=>?_) kU.owns (fun _=>id) (fun t=>.inl ⟨rfl,rfl,rfl⟩) (fun _ _=>rfl) (fun _ _ _=>rfl) (fun k i hk=>.inl ⟨i,hk⟩) (fun m hm=>by subst hm;simp[St.setO,aL])⟩;subst hm;rw[St.setO_o];obtain⟨k1,Br,T1,Bv,g1,g2,g3,g4,g5,g6,g7⟩:=CF;have e1:Br=cs:=by
     rw[bl _ _ aB,h1] at g1;cases g1;rw[h3] at g3;cases g3;rfl
    refine⟨k1,Br,T1,Bv,g1,g2,g3,by simpa using g4,g5,by simpa using g6,fun q x hq=>?_⟩;rw[AV] at hq;split at hq
    ·rename_i e';subst e';split at hq
     ·cases hq;refine⟨(fun _ _ e=>by cases e),?_,fun _=>?_⟩
      ·simp[St.setO,St.newO,aL]
      ·rw[aL,e1];exact bZ
     ·cases hq
    ·obtain⟨f1,f2⟩:=g7 q x hq;exact⟨f1,f2.mono' (.refl σ) (Compat.setO _ _ _ _) f1⟩
  ·cases hr;rw[mZ ah];exact⟨_,_,_,h⟩
 ·cases hr;rw[mZ ah];exact⟨_,_,_,h⟩
end
end Cx
namespace Cx
open Go Go.RowKit
def mkObj (S:St)(dst:Nat)(ob:Ob):St:=(S.newO dst ob).setR dst (.obj dst (S.ver dst+1))
def mkPtr (S:St)(dst:Nat)(ob:Ob):St:=(S.newO dst ob).setR dst (.ptr dst (S.ver dst+1) 0)
abbrev kj:=Option (St×List PI)
def BG (C:Ctx)(S:St)(dst:Nat)(T:TypeId)(x:Operand):kj:=
 match use C S [] x,C.P.underlying T with
 |some (.nils _,_),some (.slice E)=>(oc C.P E).map fun e=>(mkObj S dst (.row E e),[.setO dst (.con (.list [])),.setR dst (.con .none)])
 |_,_=>Option.none
def Bw (C:Ctx)(S:St)(dst:Nat)(T:TypeId):kj:=
 match oc C.P T,C.P.info? T,pf C.P T with
 |some t,some inf,some ag=>
  bif sM inf t&&(t.rowT||t.one) then
   (od t).map fun z=>(mkPtr S dst (.box ag (z.1.flat.map .dat)),[.setO dst (.con (.agg z.2.cells)),.setR dst (.con .none)])
  else Option.none
 |_,_,_=>Option.none
def By (C:Ctx)(S:St)(dst:Nat)(T:TypeId)(x:Operand):kj:=
 match use C S [] x,pf C.P T with
 |some (t,e),some ag=>
  bif t.rowT||t.one then some (mkPtr S dst (.box ag (t.flat.map .dat)),[.setO dst (.mk [e]),.setR dst (.con .none)]) else Option.none
 |Option.none,some true=>
  match ff S [] x with
  |.agg l=>some (mkPtr S dst (.box true (l.map AgC.sh)),[.setO dst (qM x),.setR dst (.con .none)])
  |_=>Option.none
 |_,_=>Option.none
def BD (C:Ctx)(S:St)(dst:Nat)(T:TypeId)(r:Option Operand):kj:=
 match C.P.underlying T,r with
 |some (.map K E),Option.none=>
  (oc C.P K).bind fun kt=>(oc C.P E).map fun et=>(mkObj S dst (.mp kt et),[.setO dst (.con (.map [])),.setR dst (.con .none)])
 |_,_=>Option.none
def BE (C:Ctx)(S:St)(dst:Nat)(T:TypeId)(l c:Operand):kj:=
 match C.P.underlying T,use C S [] l,use C S [] c with
 |some (.slice E),some (.int _,n),some (.int _,m)=>
  (oc C.P E).bind fun e=>
    bif p9 C.P E e then
     (od e).bind fun z=>
        bif Ty.sub z.1 e then some (mkObj S dst (.row E e),[.chk (Ny n),.chk (.ci .eql n m),.setO dst (.rep n (.con z.2)),.setR dst (.con .none)]) else Option.none
    else Option.none
 |_,_,_=>Option.none
def BH (C:Ctx)(S:St)(dst:Nat)(T:TypeId)(x:Operand):kj:=
 match C.P.underlying T,ff S [] x with
 |some (.map _ _),.obj j ver=>
  bif Nat.beq ver (S.ver j)&& !Nat.beq j dst then
   match S.o j with
   |.mp kt et=>some (mkObj (S.mv j dst) dst (.it kt et),[.setO dst (.tup [.lst [],.o j]),.setR dst (.con .none)])
   |_=>Option.none
  else Option.none
 |_,_=>Option.none
def Bz (C:Ctx)(S:St)(dst:Nat)(s d:TypeId)(x:Operand):kj:=
 match use C S [] x,C.P.underlying s,C.P.underlying d with
 |some (.str,e),some .string,some (.slice E)=>
  (match C.P.underlying E with
   |some (.int .u8)=>some (S.setR dst (.dat (.slice (.int .u8))),[.chk (.ci .leq (.slen e) (.con (.int mQ))),.setR dst (.bytes e)])
   |_=>Option.none)
 |_,_,_=>Option.none
section
variable {C:Ctx} {S:St} {ρ:Env} {σ:Im} {own:Nat→Option Nat} {hv:Nat→Value} {w0:World} {σ0:Base} {A:Nat→Prop} {a:Act} {w:World} {gs:List (Nat×Bool)} {Φ:aP} {dst:Nat}
def bR (C:Ctx)(w0:World)(σ0:Base)(Φ:aP)(S:St)(ρ:Env)(A:Nat→Prop)(a:Act)(w:World)(o:Oper)(r:St×List PI):Prop:=
 ∀ρ',PI.runs Φ r.2 ρ=some ρ'→∀(K:Act→World→Prop) (Q:Exit→Act→World→Prop),(∀a' w',Good C w0 σ0 r.1 ρ' (fun u=>A u∨o.dst=some u) a' w'→a'.tmps.size=a.tmps.size→K a' w')→o.wp C.P a w K Q
theorem size_put (a:Act)(d:Option Tmp)(v:Value):(a.put d v).tmps.size=a.tmps.size:=by
 cases d<;>simp[Act.put]
theorem bR.value {o:Oper}{r:St×List PI}(hd:o.dst=some dst)(hx:∀ρ',PI.runs Φ r.2 ρ=some ρ'→∃v w',(execOp a.eval o).run C.P w=.ok (.value v) w'∧Good C w0 σ0 r.1 ρ' (fun u=>A u∨u=dst) (a.put (some dst) v) w'):bR C w0 σ0 Φ S ρ A a w o r:=by
 intro ρ' ah K Q hK;obtain⟨v,w',h1,h2⟩:=hx ρ' ah;simp only[Oper.wp,h1,Oper.upon,hd];refine hK _ _ ?_ (size_put _ _ _)
 have:(fun u=>A u∨o.dst=some u)=(fun u=>A u∨u=dst):=by
  funext u;rw[hd];simp[eq_comm]
 rw[this];exact h2
theorem bR.skip {o:Oper}{r:St×List PI}(hd:o.dst=none)(hx:∀ρ',PI.runs Φ r.2 ρ=some ρ'→∃w',(execOp a.eval o).run C.P w=.ok .skip w'∧Good C w0 σ0 r.1 ρ' A a w'):bR C w0 σ0 Φ S ρ A a w o r:=by
 intro ρ' ah K Q hK;obtain⟨w',h1,h2⟩:=hx ρ' ah;simp only[Oper.wp,h1,Oper.upon,hd]
 have:(fun u=>A u∨o.dst=some u)=A:=by
  funext u;rw[hd];simp
 rw[this] at hK;exact hK _ _ h2 (size_put _ _ _)
theorem dX.eff (h:Inv C S ρ σ own hv w0 σ0 A a w)(ht:¬A dst)(af:dst<a.tmps.size){o:Oper}(hd:o.dst=some dst){s:Sh}{Dq:List PI}(hq:dX C S ρ σ hv Φ dst a w o (s,Dq)):bR C w0 σ0 Φ S ρ A a w o (S.setR dst s,Dq):=by
 refine bR.value hd fun ρ' ah=>?_;obtain⟨v,d,rfl,h1,h2,h3⟩:=hq ρ' ah;exact⟨v,w,h1,σ,own,hv,h.setReg ht (aH.mono' (.refl σ) (.refl S hv) h3 h2) af (fun gs s' e=>absurd e (h3 gs s'))⟩
theorem dX.effG (h:Inv C S ρ σ own hv w0 σ0 A a w)(ht:¬A dst)(af:dst<a.tmps.size)(dF:∀g,g∈gs→A g.1)(hg:holds gs ρ=true){o:Oper}(hd:o.dst=some dst){s:Sh}{Dq:List PI}(hq:dX C S ρ σ hv Φ dst a w o (s,Dq)):bR C w0 σ0 Φ S ρ A a w o (S.setR dst (.opt gs s),Dq):=by
 refine bR.value hd fun ρ' ah=>?_;obtain⟨v,d,rfl,h1,h2,h3⟩:=hq ρ' ah;have hh:holds gs (ρ.setR dst d)=true:=by rw[CG (t:=dst) (d:=d) fun g hm e=>ht (by rw[←e];exact dF g hm)];exact hg
 refine⟨v,w,h1,σ,own,hv,h.setReg ht ⟨fun _=>aH.mono' (.refl σ) (.refl S hv) h3 h2,fun e=>absurd (hh.symm.trans e) (by decide)⟩ af (fun bI s' e=>?_)⟩;cases e;exact⟨dF,h3⟩
theorem Inv.passed (h:Inv C S ρ σ own hv w0 σ0 A a w)(ht:¬A dst)(af:dst<a.tmps.size)(dF:∀g,g∈gs→A g.1)(hg:holds gs ρ=false){s:Sh}(hs:∀bI s',s≠.opt bI s')(d:D):Inv C (S.setR dst (.opt gs s)) (ρ.setR dst d) σ own hv w0 σ0 (fun u=>A u∨u=dst) (a.put (some dst) undef) w:=by
 have hh:holds gs (ρ.setR dst d)=false:=by rw[CG (t:=dst) (d:=d) fun g hm e=>ht (by rw[←e];exact dF g hm)];exact hg
 refine h.setReg ht (s:=.opt gs s) (v:=undef) (d:=d) ⟨fun e=>absurd (hh.symm.trans e) (by decide),fun _=>rfl⟩ af (fun bI s' e=>?_);cases e;exact⟨dF,hs⟩
theorem Inv.mkObj (h:Inv C S ρ σ own hv w0 σ0 A a w)(ht:¬A dst)(af:dst<a.tmps.size)(ob:Ob)(d:D)(v:Value)(nb:Nat→Bool){w':World}(hw:Below w.heap.size w w')(dm:∀k,nb k=true→w.heap.size≤k∧k<w'.heap.size)
 (cJ:cd C (S.newO dst ob) (ρ.setO dst d) σ (fc own dst nb) (bQ hv dst v) w' w0.heap.size dst ob) (mJ:ob≠.tr:=by intro h;cases h):
 Good C w0 σ0 (Cx.mkObj S dst ob) ((ρ.setO dst d).setR dst .none) (fun u=>A u∨u=dst) (a.put (some dst) v) w':=by
 have h1:=h.newO dst ob d v nb hw dm cJ mJ;have h2:=h1.setObj ht (j:=dst) (v:=v) (aL _ _ _) af;have e:(S.newO dst ob).ver dst=S.ver dst+1:=aL _ _ _;rw[e] at h2;exact⟨_,_,_,h2⟩
theorem Inv.mkPtr (h:Inv C S ρ σ own hv w0 σ0 A a w)(ht:¬A dst)(af:dst<a.tmps.size)(ob:Ob)(d:D)(k:Nat)(nb:Nat→Bool){w':World}(hw:Below w.heap.size w w')(dm:∀k,nb k=true→w.heap.size≤k∧k<w'.heap.size)
 (cJ:cd C (S.newO dst ob) (ρ.setO dst d) σ (fc own dst nb) (bQ hv dst (.pointer (some ⟨k,0,none⟩))) w' w0.heap.size dst ob) (mJ:ob≠.tr:=by intro h;cases h):
 Good C w0 σ0 (Cx.mkPtr S dst ob) ((ρ.setO dst d).setR dst .none) (fun u=>A u∨u=dst) (a.put (some dst) (.pointer (some ⟨k,0,none⟩))) w':=by
 have h1:=h.newO dst ob d _ nb hw dm cJ mJ;have e:(S.newO dst ob).ver dst=S.ver dst+1:=aL _ _ _;have h2:=h1.setReg ht (s:=.ptr dst (S.ver dst+1) 0) (v:=.pointer (some ⟨k,0,none⟩)) (d:=.none) ⟨Nat.le_of_eq e.symm,fun _=>⟨k,aL _ _ _,rfl⟩⟩ af (fun _ _ e=>by cases e);exact⟨_,_,_,h2⟩
theorem Ax {e:PE}{ρ':Env}(h:PI.runs Φ [.setO dst e,.setR dst (.con .none)] ρ=some ρ'):ρ'=(ρ.setO dst (e.ev ρ)).setR dst .none:=by
 simp[PI.runs,PI.run,PE.ev] at h;exact h.symm
theorem T7 (h:Inv C S ρ σ own hv w0 σ0 A a w){t:Ty}{v:Value}{d:D}(hr:Rep C.cap σ t v d)(ho:t.rowT=true∨t.one=true)(ag:Bool)(T:TypeId):
 cd C (S.newO dst (.box ag (t.flat.map .dat))) (ρ.setO dst (.agg d.cells)) σ (fc own dst (fun k=>Nat.beq k w.heap.size)) (bQ hv dst (.pointer (some ⟨w.heap.size,0,none⟩))) (w.alloc (.cells v.cells T)) w0.heap.size dst (.box ag (t.flat.map .dat)):=by
 obtain⟨f1,f2,f3⟩:=hr.flat ho;refine⟨w.heap.size,v.cells,T,d.cells,aL _ _ _,by simp[fc],heap_alloc_new w _,by rw[hr.size];simp[f1],by simp[Env.setO,aL],by simp[f1,f2],fun i s hi=>?_⟩;simp only[cw,az] at hi;obtain⟨ti,M6,rfl⟩:=hi;exact⟨fun _ _ e=>(by cases e),(f3 i ti M6).2⟩
theorem aer (h:Inv C S ρ σ own hv w0 σ0 A a w)(hC:CtxOK C σ0)(ht:¬A dst)(af:dst<a.tmps.size){T:TypeId}{x:Operand}{r:St×List PI}(hr:BG C S dst T x=some r){o:Oper}(hd:o.dst=some dst)(ho:o.op=.assign x):bR C w0 σ0 Φ S ρ A a w o r:=by
 unfold BG at hr;split at hr
 case h_2=>cases hr
 rename_i e0 e1 E hu hT;simp only[az] at hr;obtain⟨e,he,rfl⟩:=hr;have hx:=cg h hC rfl hu;have bZ:a.eval x=.slice none 0 0:=by
  generalize a.eval x=v at hx;generalize e1.ev ρ=d at hx;cases hx;rfl
 refine bR.value hd fun ρ' ah=>⟨.slice none 0 0,w,by simp[execOp,ho,bZ],?_⟩
 rw[Ax ah];exact h.mkObj ht af (.row E e) _ _ (fun _=>false) (.refl _ _) (by simp) ⟨[],[],by simp[Env.setO,aL,PE.ev],by rw[aL];exact World.ownsRow_nil _ _ _ _,⟨fun _=>undef,by simp,by simp⟩,by rw[aL];simp[Value.ownBlock]⟩
theorem adX (h:Inv C S ρ σ own hv w0 σ0 A a w)(ht:¬A dst)(af:dst<a.tmps.size){T:TypeId}{r:St×List PI}(hr:Bw C S dst T=some r){o:Oper}(hd:o.dst=some dst)(ho:o.op=.alloc T):bR C w0 σ0 Φ S ρ A a w o r:=by
 unfold Bw at hr;split at hr
 case h_2=>cases hr
 rename_i t inf ag M8 hi ha;cases hc:(sM inf t&&(t.rowT||t.one))<;>simp only[hc,cond_true,cond_false] at hr
 ·cases hr
 simp only[ak,gr] at hc;simp only[az] at hr;obtain⟨z,hz,rfl⟩:=hr;obtain⟨v0,rY,zq⟩:∃v0,inf.zero=some v0∧jf t v0=true:=by
  have:=hc.1;unfold sM at this;split at this
  ·exact⟨_,by assumption,this⟩
  ·cases this
 obtain⟨k1,k2,k3⟩:=xf (cap:=C.cap) (σ:=σ) hz zq;have vV:z.1.rowT=true∨z.1.one=true:=by
  rcases hc.2 with e|e
  ·left;cases t<;>simp[Ty.rowT] at e;simp[od] at hz;obtain⟨_,_,rfl⟩:=hz;rfl
  ·right;rw[k3];exact e
 refine bR.value hd fun ρ' ah=>⟨.pointer (some ⟨w.heap.size,0,none⟩),w.alloc (.cells v0.cells T),?_,?_⟩
 ·simp[execOp,ho,Instr.alloc,zeroValue,run_typeInfo w hi,rY,newVar,newRow]
 ·rw[Ax ah];exact h.mkPtr ht af _ _ _ (fun k=>Nat.beq k w.heap.size) ((Below.refl _ _).alloc (bf _) _) (fun k hk=>by simp at hk;simp;omega) (T7 h k1 vV ag T)
theorem Compat.newO (S:St)(hv:Nat→Value)(j:Nat)(ob:Ob)(v:Value):Compat S hv (S.newO j ob) (bQ hv j v):=by
 refine⟨fun i=>?_,fun i e=>?_⟩
 ·simp only[St.newO,eN];split<;>rename_i e
  ·subst e;omega
  ·omega
 ·simp only[St.newO,eN] at e;split at e
  ·rename_i e';subst e';omega
  ·rename_i aB;exact bl _ _ aB
theorem ad1 (h:Inv C S ρ σ own hv w0 σ0 A a w)(hC:CtxOK C σ0)(ht:¬A dst)(af:dst<a.tmps.size){T:TypeId}{x:Operand}{r:St×List PI}(hr:By C S dst T x=some r){o:Oper}(hd:o.dst=some dst)(ho:o.op=.box T x):bR C w0 σ0 Φ S ρ A a w o r:=by
 unfold By at hr;split at hr
 case h_3=>cases hr
 case h_2=>
  rename_i hu ha;split at hr
  case h_2=>cases hr
  rename_i l gD;cases hr;have fP:=(qQ h (gs:=[]) rfl x).1;rw[gD] at fP;obtain⟨vs,ds,e1,e2,e3,e4,e5⟩:=fP;refine bR.value hd fun ρ' ah=>⟨.pointer (some ⟨w.heap.size,0,none⟩),w.alloc (.cells (a.eval x).cells T),?_,?_⟩
  ·simp[execOp,ho,Instr.box,newVar,newRow]
  ·rw[Ax ah,e2];refine h.mkPtr ht af _ _ _ (fun k=>Nat.beq k w.heap.size) ((Below.refl _ _).alloc (bf _) _) (fun k hk=>by simp at hk;simp;omega) ⟨w.heap.size,(a.eval x).cells,T,ds,aL _ _ _,by simp[fc],heap_alloc_new w _,by rw[e1];simp[Value.cells,e3],by simp[Env.setO,aL],by simp[e4],fun i s hi=>?_⟩;simp only[cw,az] at hi;obtain⟨c,hc,rfl⟩:=hi;have bH:(a.eval x).cells.getD i undef=vs.getD i undef:=by rw[e1];simp[Value.cells,aK,dL]
   have h6:=(e5 i c hc).monoR (Im.le.leR (.refl σ)) (Compat.newO S hv dst (.box true (l.map AgC.sh)) (.pointer (some ⟨w.heap.size,0,none⟩)));rw[bH];cases c with
   |dat t=>exact⟨fun _ _ e=>(by cases e),h6.2⟩
   |obj j ver=>exact⟨fun _ _ e=>(by cases e),h6⟩
 rename_i t e ag hu ha;cases hc:(t.rowT||t.one)<;>simp only[hc,cond_true,cond_false] at hr
 ·cases hr
 cases hr;simp only[gr] at hc;have hx:=cg h hC rfl hu;refine bR.value hd fun ρ' ah=>⟨.pointer (some ⟨w.heap.size,0,none⟩),w.alloc (.cells (a.eval x).cells T),?_,?_⟩
 ·simp[execOp,ho,Instr.box,newVar,newRow]
 ·rw[Ax ah];have:(PE.mk [e]).ev ρ=.agg (e.ev ρ).cells:=by simp[PE.ev,PE.evc]
  rw[this];exact h.mkPtr ht af _ _ _ (fun k=>Nat.beq k w.heap.size) ((Below.refl _ _).alloc (bf _) _) (fun k hk=>by simp at hk;simp;omega) (T7 h hx hc ag T)
theorem ael (h:Inv C S ρ σ own hv w0 σ0 A a w)(ht:¬A dst)(af:dst<a.tmps.size){T:TypeId}{m:Option Operand}{r:St×List PI}(hr:BD C S dst T m=some r){o:Oper}(hd:o.dst=some dst)(ho:o.op=.makeMap T m):bR C w0 σ0 Φ S ρ A a w o r:=by
 unfold BD at hr;split at hr
 case h_2=>cases hr
 rename_i K E hT;simp only[au,az] at hr;obtain⟨kt,hk,et,he,rfl⟩:=hr;refine bR.value hd fun ρ' ah=>⟨.map (some w.heap.size),w.alloc (.map #[] 0),?_,?_⟩
 ·simp[execOp,ho,Instr.makeMap]
 ·rw[Ax ah]
  exact h.mkObj ht af (.mp kt et) _ _ (fun k=>Nat.beq k w.heap.size) ((Below.refl _ _).alloc (bf _) _) (fun k hk=>by simp at hk;simp;omega)
   ⟨w.heap.size,#[],0,[],aL _ _ _,by simp[fc],heap_alloc_new w _,by simp[Env.setO,aL,PE.ev],rfl,⟨by simp,by simp[my]⟩,by simp⟩
theorem aet (h:Inv C S ρ σ own hv w0 σ0 A a w)(ht:¬A dst)(af:dst<a.tmps.size){T:TypeId}{x:Operand}{r:St×List PI}(hr:BH C S dst T x=some r){o:Oper}(hd:o.dst=some dst)(ho:o.op=.range T x):bR C w0 σ0 Φ S ρ A a w o r:=by
 unfold BH at hr;split at hr
 case h_2=>cases hr
 rename_i K E j ver hT es;obtain⟨eu,_⟩:=qQ h (gs:=[]) rfl x;rw[es] at eu;cases hb:(Nat.beq ver (S.ver j)&& !Nat.beq j dst)<;>simp only[hb,cond_true,cond_false] at hr
 ·cases hr
 simp only[ak,gd] at hb;have bZ:=eu.2 (ay hb.1);have aB:j≠dst:=fun e=>by subst e;simp at hb
 have aV:=h.objs j;split at hr
 case h_2=>cases hr
 rename_i kt et eo;cases hr;rw[eo] at aV;obtain⟨m,arr,clock,ds,h1,h2,h3,h4,h5,⟨h6,qe⟩,h7⟩:=aV;have kS:=h.mv aB (by rw[eo];rfl);have oS:m<w.heap.size:=(ga.1 h3).1;have Mt:w0.heap.size≤m:=(h.owns m j h2).1;refine bR.value hd fun ρ' ah=>⟨.pointer (some ⟨w.heap.size,0,none⟩),w.alloc (.mapIter (some m) clock #[] clock),?_,?_⟩
 ·simp[execOp,ho,Instr.range,bZ,h1,run_underlying hT,getObj,Sem.run,h3]
 have hρ:ρ'=((ρ.setO dst (.tup [.list [],.map ds])).setR dst .none):=by
  simp[PI.runs,PI.run,PE.ev,PE.evs,h4] at ah;exact ah.symm
 subst hρ;have gi:Below w.heap.size w (w.alloc (.mapIter (some m) clock #[] clock)):=(Below.refl _ _).alloc (bf _) _;have M2:=kS.step (S':=(S.mv j dst).newO dst (.it kt et)) (ρ':=(ρ.setO dst (.tup [.list [],.map ds]))) (σ':=σ) (hv':=bQ (bQ hv dst (hv j)) dst (.pointer (some ⟨w.heap.size,0,none⟩)))
  (own':=fun k=>if k=w.heap.size then some dst else(if own k=some j then some dst else if own k=some dst then none else own k)) (a':=a) (A':=A) (w':=w.alloc (.mapIter (some m) clock #[] clock)) (fun i=>i=dst)
  rfl (.refl σ) (h.ok.below gi) (fun _ _ _ hx=>.inl hx) (fun _ _ hx=>.inl hx) (gi.mono h.below.size) ⟨fun i=>?_,fun i e=>?_⟩ (fun i hi=>⟨?_,?_,?_,fun k hk=>⟨?_,?_⟩⟩) (fun i hi=>?_) (fun k i hk=>?_) (fun _=>id) (fun t=>.inl ⟨rfl,rfl,rfl⟩) (fun _ _=>rfl) (fun k hk _=>gi.block k hk) (fun k i hk=>?_) (fun i hi=>by subst hi;simp[St.newO,aL])
 ·have jt:=M2.setObj ht (j:=dst) (v:=.pointer (some ⟨w.heap.size,0,none⟩)) (aL _ _ _) af;have e:((S.mv j dst).newO dst (.it kt et)).ver dst=(S.mv j dst).ver dst+1:=aL _ _ _;rw[e] at jt;exact⟨_,_,_,jt⟩
 ·simp only[St.newO,eN];split<;>rename_i e
  ·subst e;omega
  ·omega
 ·simp only[St.newO,eN] at e;split at e
  ·rename_i e';subst e';omega
  ·rename_i MB;exact bl _ _ MB
 ·simp[St.newO,bl _ _ hi]
 ·simp[Env.setO,bl _ _ hi]
 ·exact bl _ _ hi
 ·have av9:=(kS.owns k i hk).2.1;have bn:k≠w.heap.size:=by omega
  simp only[if_neg bn];exact hk
 ·exact gi.block k (kS.owns k i hk).2.1
 ·subst hi;simp only[St.newO,aL];have eV:m≠w.heap.size:=by omega
  refine⟨w.heap.size,m,arr,clock,ds,[],aL _ _ _,by simp,by simp[eV,h2],by omega,?_,heap_alloc_new w _,by simp[Env.setO,aL,gn],List.nodup_nil,by simp,h5,qe,h7⟩;rw[gi.block m oS];exact h3
 ·split at hk
  ·rename_i e;subst e;refine⟨h.below.size,by simp,fun o=>?_,?_⟩
   ·cases hc:σ.c w.heap.size o with
    |none=>rfl
    |some u=>have:=h.lt hc;omega
   ·cases hc:σ.m w.heap.size with
    |none=>rfl
    |some u=>have:=h.ltm hc;omega
  ·obtain⟨g1,g2,g3,g4⟩:=kS.owns k i hk;exact⟨g1,by simp;omega,g3,g4⟩
 ·split at hk
  ·rename_i e;subst e;exact .inr (bf _)
  ·exact .inl ⟨i,hk⟩
theorem ad5 (h:Inv C S ρ σ own hv w0 σ0 A a w)(hC:CtxOK C σ0)(ht:¬A dst)(af:dst<a.tmps.size){T U:TypeId}{x:Operand}{r:St×List PI}(hr:Bz C S dst T U x=some r){o:Oper}(hd:o.dst=some dst)(ho:o.op=.convert T U x):bR C w0 σ0 Φ S ρ A a w o r:=by
 unfold Bz at hr;split at hr
 case h_2=>cases hr
 rename_i e E hu hT hU;split at hr
 case h_2=>cases hr
 rename_i hE;cases hr;have hx:=cg h hC rfl hu;obtain⟨s,aQ,bj,hs⟩:=hx.str_inv;have nD:=Lib.run_convert_string_bytes (P:=C.P) w T U E s hT hU hE;refine bR.value hd fun ρ' ah=>⟨.slice (some ⟨w.heap.size,0,none⟩) s.size (grownCap w s.size 0 E),Lib.bytesWorld w E s,by simp[execOp,ho,aQ,nD],?_⟩
 simp only[PI.runs,PI.run,au] at ah;obtain⟨ρ1,g1,ρ2,g2,g3⟩:=ah;cases c1:((PE.ci BinOp.leq (.slen e) (.con (.int mQ))).ev ρ).b<;>simp only[c1,cond_true,cond_false] at g1
 ·cases g1
 cases g1;cases g2;cases g3;have ahY:s.size≤4294967296:=by
  simp[PE.ev,bj,D.s,D.i,D.b,iL,D.int,mQ] at c1;omega
 have gi:Below w.heap.size w (Lib.bytesWorld w E s):=⟨rfl,rfl,rfl,by rw[Lib.bytesWorld_size];omega,fun k hk=>Lib.bytesWorld_at_old w E s k hk⟩
 have aJ:(Lib.bytesWorld w E s).heap.size=w.heap.size+1:=Lib.bytesWorld_size w E s
 let σ':Im:={c:=fun k i=>if k=w.heap.size then(if i<s.size then some (.int .u8 (s.data.toList.getD i 0).toNat) else none) else σ.c k i,m:=σ.m}
 have hle:σ.le σ':=by
  refine⟨fun k o v hc=>?_,fun k es hc=>hc⟩;have:k≠w.heap.size:=by have:=h.lt hc;omega
  simp[σ',this,hc]
 have aA:σ'.ok (Lib.bytesWorld w E s):=by
  refine⟨fun k i v hc=>?_,(h.ok.below gi).m⟩;simp only[σ'] at hc;split at hc
  ·rename_i ek;subst ek;split at hc
   ·rename_i hi;cases hc;exact Lib.bytesWorld_cell w E s i hi
   ·cases hc
  ·exact(h.ok.below gi).c k i v hc
 have h1:=h.step (S':=S) (ρ':=ρ) (σ':=σ') (own':=own) (hv':=hv) (A':=A) (a':=a) (w':=Lib.bytesWorld w E s) (fun _=>False) rfl hle aA (fun k i v hc=>?_) (fun k es hc=>.inl hc) (gi.mono h.below.size) ⟨fun _=>bf _,fun _ _=>rfl⟩
  (fun j _=>⟨rfl,rfl,rfl,fun k hk=>⟨hk,gi.block k (h.owns k j hk).2.1⟩⟩) (fun j hj=>hj.elim) (fun k j hk=>?_) (fun _=>id) (fun t=>.inl ⟨rfl,rfl,rfl⟩) (fun _ _=>rfl) (fun k hk _=>gi.block k hk) (fun k i hk=>.inl ⟨i,hk⟩) (fun _ hf=>hf.elim)
 ·refine⟨_,_,_,h1.setReg ht (s:=.dat (.slice (.int .u8))) ?_ af (fun _ _ e=>by cases e)⟩;show Rep C.cap σ' _ _ _;simp only[PE.ev,bj,D.s];refine .slice (.int .u8) w.heap.size 0 s.size _ _ (fun i=>.int .u8 (s.data.toList.getD i 0).toNat) (by simp) (grownCap_ge w s.size 0 E) (grownCap_le_maxLen w s.size 0 E (by unfold maxLen;omega)) (fun i x hx=>?_) (fun i j u hi hu=>?_)
  ·simp only[cw,az] at hx;obtain⟨b,hb,rfl⟩:=hx;have:s.data.toList.getD i 0=b:=by simp[aK,hb]
   rw[this];have:=b.toNat_lt;exact .int .u8 _ (by show(0:Int)≤_;omega) (by show _≤(255:Int);omega)
  ·have hj:j=0:=by
        have:=(ga.1 hu).1;simp[Value.cells] at this;exact this
   subst hj;simp[Value.cells] at hu;subst hu;simp[σ',Ty.size,hi]
 ·simp only[σ'] at hc;split at hc
  ·rename_i ek;exact .inr ⟨by have:=h.below.size;omega,.inr (by omega)⟩
  ·exact .inl hc
 ·obtain⟨g1,g2,g3,g4⟩:=h.owns k j hk;refine⟨g1,by omega,fun i=>?_,g4⟩;have:k≠w.heap.size:=by omega
  simp[σ',this,g3 i]
end
end Cx
namespace Cx
open Go Go.RowKit
def Gy (C:Ctx)(S:St)(gs:List (Nat×Bool))(e:Ty)(z:D)(parts:List (Nat×Operand))(i:Nat):Option PE:=
 match parts.find? (fun p=>Nat.beq p.1 i) with
 |some p=>(use C S gs p.2).bind fun a=>bif Ty.sub a.1 e then some a.2 else Option.none
 |Option.none=>some (PE.con z)
def vq (C:Ctx)(S:St)(gs:List (Nat×Bool))(dst:Nat)(T:TypeId)(len:Nat)(parts:List (Nat×Operand)):kj:=
 match C.P.underlying T with
 |some (.slice E)=>
  (oc C.P E).bind fun e=>(od e).bind fun z=>
    bif p9 C.P E e&&Ty.sub z.1 e&&gl (parts.map (·.1))&&parts.all (fun p=>Nat.blt p.1 len)&&Nat.ble (len*e.size) 16777216 then
     ((List.range len).mapM (Gy C S gs e z.2 parts)).map fun es=>(mkObj S dst (.row E e),[.setO dst (.lst es),.setR dst (.con .none)])
    else Option.none
 |_=>Option.none
def yH (C:Ctx)(S:St)(gs:List (Nat×Bool))(dst:Nat)(T:TypeId)(len:Nat)(parts:List (Nat×Operand)):kj:=
 match C.P.underlying T,vq C S gs dst T len parts with
 |some (.slice E),some r=>
  (oc C.P E).bind fun e=>
    match r.2 with
    |.setO _ x::_=>some ((S.newO dst .dead).setR dst (match gs with|[]=>.dat (.slice e.rol)|_=>.opt gs (.dat (.slice e.rol))),[.setR dst x])
    |_=>Option.none
 |_,_=>Option.none
def LM (S:St):AgC→Bool
 |.dat _=>true
 |.obj j ver=>Nat.beq ver (S.ver j)&&kG (S.o j)
def tn (C:Ctx)(S:St)(T:TypeId)(x v:Operand):kj:=
 match C.P.info? T with
 |some inf=>
  match ff S [] x with
  |.ptr j ver off=>
   bif Nat.beq ver (S.ver j) then
    match S.o j with
    |.box ag shs=>
     match use C S [] v with
     |some (t,e)=>
      bif Nat.beq inf.size t.size&&(t.rowT||t.one)&&Nat.ble (off+t.size) shs.length then
             some (S.setO j (.box ag (shs.take off++t.flat.map .dat++shs.drop (off+t.size))),[.setO j (.setc (.o j) off e)])
      else Option.none
     |Option.none=>
      match ff S [] v with
      |.obj j' mm=>
       bif Nat.beq mm (S.ver j')&&kG (S.o j')&&Nat.beq inf.size 1&&Nat.blt off shs.length then
              some (S.setO j (.box ag (shs.set off (.obj j' mm))),[.setO j (.setc (.o j) off (.con .none))])
       else Option.none
      |.agg l=>
       bif Nat.beq inf.size l.length&&Nat.ble (off+l.length) shs.length&&l.all (LM S) then
              some (S.setO j (.box ag (shs.take off++l.map AgC.sh++shs.drop (off+l.length))),[.setO j (.setc (.o j) off (qM v))])
       else Option.none
      |_=>Option.none
    |_=>Option.none
   else Option.none
  |.eptr j ver size off=>
   bif Nat.beq ver (S.ver j) then
    match S.o j,use C S [] v with
    |.row _ (.agg ts),some (t,e)=>
     bif Nat.beq inf.size t.size&&(t.rowT||t.one)&&Nat.beq size ts.length&&Nat.ble (off+t.size) ts.length&&Ty.subs t.flat ((ts.drop off).take t.size) then
         some (S,[.setO j (.setn (.o j) (qM x) off e)])
     else Option.none
    |.row _ e0,some (t,e)=>
     bif Nat.beq inf.size 1&&Nat.beq size 1&&Nat.beq off 0&&e0.one&&Ty.sub t e0 then some (S,[.setO j (.setn (.o j) (qM x) 0 e)]) else Option.none
    |_,_=>Option.none
   else Option.none
  |_=>Option.none
 |Option.none=>Option.none
def rB (C:Ctx)(S:St)(T:TypeId)(m k v:Operand):kj:=
 match C.P.underlying T,ff S [] m with
 |some (.map K _),.obj j ver=>
  bif Nat.beq ver (S.ver j) then
   match S.o j,use C S [] k,use C S [] v with
   |.mp kt et,some (tk,ek),some (tv,ev)=>
    bif Ty.beq tk kt&&ub C.P K kt&&Ty.sub tv et then some (S,[.chk (.ci .lss (.mlen (.o j)) (.con (.int mQ))),.setO j (.put (.o j) ek ev)]) else Option.none
   |_,_,_=>Option.none
  else Option.none
 |_,_=>Option.none
def HS (x y:PE):PE:=.ci .leq (.llen (.app x y)) (.con (.int mQ))
def Jx:Ty→Ty→Bool
 |.slice e',e=>Ty.beq e'.unf e
 |.nils _,_=>true
 |_,_=>false
def Bx (C:Ctx)(S:St)(dst:Nat)(T:TypeId)(s x:Operand):kj:=
 match C.P.underlying T with
 |some (.slice E)=>
  (oc C.P E).bind fun e=>
    match view C S [] x with
    |some (tx,ex)=>
     bif p9 C.P E e&&Jx tx e then
        match use C S [] s with
        |some (.nils _,_)=>some (mkObj S dst (.row E e),[.chk (HS (.con (.list [])) ex),.setO dst (.app (.con (.list [])) ex),.setR dst (.con .none)])
        |some _=>Option.none
        |Option.none=>
         match ff S [] s with
         |.obj j ver=>
          bif Nat.beq ver (S.ver j) then
             match S.o j with
             |.row E' e'=>
              bif Nat.beq E' E&&Ty.beq e' e then
                some ((S.newO j (.row E e)).setR dst (.obj j (S.ver j+1)),[.chk (HS (.o j) ex),.setO j (.app (.o j) ex),.setR dst (.con .none)])
              else Option.none
             |_=>Option.none
          else Option.none
         |_=>Option.none
     else Option.none
    |Option.none=>Option.none
 |_=>Option.none
theorem Ls {P:Program}{T:TypeId}{e:Ty}(h:p9 P T e=true):∃inf z,P.info? T=some inf∧inf.size=e.size∧inf.bytes≤wh∧1≤e.size∧inf.zero=some z∧jf e z=true:=by
 unfold p9 at h;split at h
 ·rename_i i hi;simp only[ak] at h;have h4:=h.2;unfold sM at h4;split at h4
  ·rename_i z hz;exact⟨i,z,hi,ay h.1.1.1,ji h.1.1.2,ji h.1.2,hz,h4⟩
  ·cases h4
 ·cases h
theorem Tg {e:Ty}{z:Value}(h:jf e z=true):z.cells.size=e.size:=by
 cases e with
 |agg ts=>
  cases z with
  |agg vs=>simp only[jf] at h;have:=(Th ts vs.toList h).1;simpa [Value.cells,Ty.size] using this
  |_=>simp[jf] at h
 |_=>cases z<;>simp_all [jf,xe,Value.cells,Ty.size]
theorem ads {ρ:Env}{x y:PE}(h:((PE.ci .lss x y).ev ρ).b=true):(x.ev ρ).i<(y.ev ρ).i:=by
 simpa [PE.ev,D.b_bool,iL] using h
theorem Ul {ρ:Env}{x y:PE}(h:((PE.ci .leq x y).ev ρ).b=true):(x.ev ρ).i≤(y.ev ρ).i:=by
 simpa [PE.ev,D.b_bool,iL] using h
theorem ajE {n:Nat}(h:(n:Int)<mQ):n<4294967296:=by unfold mQ at h;omega
theorem W6 {n:Nat}(h:(n:Int)≤mQ):n≤4294967296:=by unfold mQ at h;omega
theorem St.setO_self {S:St}{j:Nat}{ob:Ob}(h:S.o j=ob):S.setO j ob=S:=by
 have:bQ S.o j ob=S.o:=by
  funext i;rw[eN];split
  ·rename_i e;subst e;exact h.symm
  ·rfl
 cases S;simp only[St.setO] at this ⊢;rw[this]
section
variable {C:Ctx} {S:St} {ρ:Env} {σ:Im} {own:Nat→Option Nat} {hv:Nat→Value} {w0:World} {σ0:Base} {A:Nat→Prop} {a:Act} {w:World} {gs:List (Nat×Bool)} {Φ:aP} {dst:Nat}
theorem Inv.updO (h:Inv C S ρ σ own hv w0 σ0 A a w)(j:Nat)(ob:Ob)(d:D)(v:Value)(nb:Nat→Bool){w':World}(hw:Below w0.heap.size w w')
 (rP:∀k,k<w.heap.size→own k≠some j→w'.heap[k]?=w.heap[k]?) (dm:∀k,nb k=true→(own k=some j∨w.heap.size≤k)∧k<w'.heap.size)
 (cJ:cd C (S.newO j ob) (ρ.setO j d) σ (fc own j nb) (bQ hv j v) w' w0.heap.size j ob) (mJ:ob≠.tr:=by intro h;cases h):Inv C (S.newO j ob) (ρ.setO j d) σ (fc own j nb) (bQ hv j v) w0 σ0 A a w':=by
 have aJ:w0.heap.size≤w.heap.size:=h.below.size;have bY:∀k i,i≠j→own k=some i→fc own j nb k=some i:=by
  intro k i hi hk;have h1:=h.owns k i hk;have h2:nb k=false:=by
   cases hn:nb k with
   |false=>rfl
   |true=>
    rcases(dm k hn).1 with e|e
    ·rw[hk] at e;simp at e;exact absurd e hi
    ·omega
  simp[fc,h2,hk,hi]
 have aA:σ.ok w':=by
  refine⟨fun k o u hc=>?_,fun k es hc=>?_⟩
  ·have aB:own k≠some j:=fun e=>by rw[(h.owns k j e).2.2.1 o] at hc;cases hc
   rw[World.cell?_of_block (rP k (h.lt hc) aB)];exact h.ok.c k o u hc
  ·have aB:own k≠some j:=fun e=>by rw[(h.owns k j e).2.2.2] at hc;cases hc
   exact(h.ok.m k es hc).keep (rP k (h.ltm hc) aB)
 refine h.step (fun i=>i=j) rfl (.refl σ) aA (fun _ _ _ hx=>.inl hx) (fun _ _ hx=>.inl hx) hw ⟨fun i=>?_,fun i e=>?_⟩ (fun i hi=>⟨?_,?_,?_,fun k hk=>⟨bY k i hi hk,?_⟩⟩) (fun i hi=>?_) (fun k i hk=>?_) (fun _=>id) (fun t=>.inl ⟨rfl,rfl,rfl⟩) (fun _ _=>rfl) (fun k hk e=>rP k hk (by rw[e];simp)) (fun k i hk=>by
  unfold fc at hk;split at hk
  ·rename_i hn;rcases(dm k hn).1 with e|e
   ·exact .inl ⟨j,e⟩
   ·exact .inr e
  ·split at hk
   ·cases hk
   ·exact .inl ⟨i,hk⟩) (fun i hi=>by subst hi;simpa only[St.newO,aL] using mJ)
 ·simp only[St.newO,eN];split<;>rename_i e
  ·subst e;omega
  ·omega
 ·simp only[St.newO,eN] at e;split at e
  ·rename_i e';subst e';omega
  ·rename_i aB;exact bl _ _ aB
 ·simp[St.newO,bl _ _ hi]
 ·simp[Env.setO,bl _ _ hi]
 ·exact bl _ _ hi
 ·exact rP k (h.owns k i hk).2.1 (by rw[hk];simpa using hi)
 ·subst hi;simp only[St.newO,aL];exact cJ
 ·unfold fc at hk;split at hk
  ·rename_i hn;obtain⟨g1,g2⟩:=dm k hn;rcases g1 with e|e
   ·obtain⟨f1,f2,f3,f4⟩:=h.owns k j e;exact⟨f1,g2,f3,f4⟩
   ·refine⟨by omega,g2,fun o=>?_,?_⟩
    ·cases hc:σ.c k o with
     |none=>rfl
     |some u=>have:=h.lt hc;omega
    ·cases hc:σ.m k with
     |none=>rfl
     |some u=>have:=h.ltm hc;omega
  ·split at hk
   ·cases hk
   ·obtain⟨g1,g2,g3,g4⟩:=h.owns k i hk;exact⟨g1,by have:=hw.size;omega,g3,g4⟩
theorem Inv.updB (h:Inv C S ρ σ own hv w0 σ0 A a w)(j:Nat)(ob:Ob)(d:D){w':World}(hw:Below w0.heap.size w w')
 (rP:∀k,k<w.heap.size→own k≠some j→w'.heap[k]?=w.heap[k]?)
 (cJ:cd C (S.setO j ob) (ρ.setO j d) σ own hv w' w0.heap.size j ob) (mJ:ob≠.tr:=by intro h;cases h):Inv C (S.setO j ob) (ρ.setO j d) σ own hv w0 σ0 A a w':=by
 have aA:σ.ok w':=by
  refine⟨fun k o u hc=>?_,fun k es hc=>?_⟩
  ·have aB:own k≠some j:=fun e=>by rw[(h.owns k j e).2.2.1 o] at hc;cases hc
   rw[World.cell?_of_block (rP k (h.lt hc) aB)];exact h.ok.c k o u hc
  ·have aB:own k≠some j:=fun e=>by rw[(h.owns k j e).2.2.2] at hc;cases hc
   exact(h.ok.m k es hc).keep (rP k (h.ltm hc) aB)
 refine h.step (fun i=>i=j) rfl (.refl σ) aA (fun _ _ _ hx=>.inl hx) (fun _ _ hx=>.inl hx) hw (Compat.setO _ _ _ _) (fun i hi=>⟨by simp[St.setO,bl _ _ hi],by simp[Env.setO,bl _ _ hi],rfl,fun k hk=>⟨hk,rP k (h.owns k i hk).2.1 (by rw[hk];simpa using hi)⟩⟩) (fun i hi=>?_) (fun k i hk=>?_) (fun _=>id) (fun t=>.inl ⟨rfl,rfl,rfl⟩) (fun _ _=>rfl) (fun k hk e=>rP k hk (by rw[e];simp)) (fun k i hk=>.inl ⟨i,hk⟩) (fun i hi=>by subst hi;rw[St.setO_o];exact mJ)
 ·subst hi;rw[St.setO_o];exact cJ
 ·obtain⟨g1,g2,g3,g4⟩:=h.owns k i hk;exact⟨g1,by have:=hw.size;omega,g3,g4⟩
theorem Vd {B:Nat}{w w':World}{row:Option Nat}(hg:w.grownBy w' row)(hB:B≤w.heap.size)(hr:∀k,row=some k→B≤k):Below B w w':=(Below.refl B w).grown hg hB hr
theorem XB {z:Array Value}{n i q:Nat}(hz:0<z.size)(hi:i<n)(hq:q<z.size):(madeCells z (n*z.size))[i*z.size+q]?=z[q]?:=by
 have af:i*z.size+q<n*z.size:=by
  have:(i+1)*z.size≤n*z.size:=oq _ hi;rw[om] at this;omega
 have hm:(i*z.size+q)%z.size=q:=by rw[AY,acb,Nat.mod_eq_of_lt hq]
 simp[madeCells,Array.getElem?_range,af,hm,hq]
theorem aen (h:Inv C S ρ σ own hv w0 σ0 A a w)(hC:CtxOK C σ0)(ht:¬A dst)(af:dst<a.tmps.size){T:TypeId}{l c:Operand}{r:St×List PI}(hr:BE C S dst T l c=some r){o:Oper}(hd:o.dst=some dst)(ho:o.op=.makeSlice T l c):bR C w0 σ0 Φ S ρ A a w o r:=by
 unfold BE at hr;split at hr
 case h_2=>cases hr
 rename_i E k1 n k2 m hT hl hc;simp only[au] at hr;obtain⟨e,he,hr⟩:=hr;cases hf:p9 C.P E e<;>simp only[hf,cond_true,cond_false] at hr
 ·cases hr
 obtain⟨inf,z0,hi,hs,hb,h1,hz,lV⟩:=Ls hf;simp only[au] at hr;obtain⟨z,hzt,hr⟩:=hr;cases bJ:Ty.sub z.1 e<;>simp only[bJ,cond_true,cond_false] at hr
 ·cases hr
 cases hr;obtain⟨n1,aQ,bj,b1,b2⟩:=(cg h hC rfl hl).int_inv;obtain⟨n2,gT,dN,b3,b4⟩:=(cg h hC rfl hc).int_inv;simp only at bj dN;have C4:=((xf (cap:=C.cap) (σ:=σ) hzt lV).1).sub bJ;refine bR.value hd fun ρ' ah=>?_;simp only[PI.runs,PI.run,au] at ah;obtain⟨ρ1,g1,ρ2,g2,ah⟩:=ah;cases c1:((Ny n).ev ρ).b<;>simp only[c1,cond_true,cond_false] at g1
 ·cases g1
 cases g1;cases c2:((PE.ci BinOp.eql n m).ev ρ).b<;>simp only[c2,cond_true,cond_false] at g2
 ·cases g2
 cases g2;have aib:n1=n2:=by simpa [PE.ev,bj,dN,D.i_int,D.b_bool,iL] using c2
 subst aib;have hb:0≤n1∧n1≤mQ:=by simpa [Ny,PE.ev,bj,D.i_int,D.b_bool,iL,D.int] using c1
 obtain⟨nn,rfl⟩:=q9 hb.1;have CC:nn≤4294967296:=by have:=hb.2;unfold mQ at this;omega
 have sd:z0.cells.size=e.size:=Tg lV;obtain⟨w',r1,r2,r3⟩:=run_make_full (P:=C.P) w w0.heap.size T E inf z0 e.size hT hi hz hs k1 k2 nn (by
  have:inf.bytes*nn≤wh*4294967296:=Nat.mul_le_mul (by assumption) CC;unfold wh at this;omega) (by unfold maxLen;omega) h.below.size
 refine⟨.slice (some ⟨w.heap.size,0,none⟩) nn nn,w',by simp[execOp,ho,aQ,gT,r1],?_⟩;obtain⟨ρ3,g3,ρ4,g4,g5⟩:=ah;cases g3;cases g4;cases g5;simp only[PE.ev,bj,D.i_int,sR];have hlen:(List.replicate nn z.2).length=nn:=by simp
 refine h.mkObj ht af (.row E e) _ _ (fun k=>Nat.beq k w.heap.size) (Vd r3 (bf _) (by simp)) (fun k hk=>?_) ⟨_,List.replicate nn z.2,by simp[Env.setO,aL],by rw[aL,hlen];exact r2,⟨fun _=>z0,fun i x hx=>?_,fun i j u hi hj=>?_⟩,fun k hk=>?_⟩
 ·have bn:k=w.heap.size:=ay hk;have:=(r2.lt _ rfl).2;subst bn;exact⟨bf _,this⟩
 ·have:=(eh.1 hx)
  obtain⟨q1,q2⟩:=this;simp at q2;subst q2;exact C4
 ·rw[hlen] at hi;have cE:j<z0.cells.size:=(ga.1 hj).1;rw[AN,←sd];rw[XB (by omega) hi cE];exact hj
 ·rw[aL] at hk;simp[Value.ownBlock] at hk;simp[fc,hk]
theorem my.push {arr:Array MapEntry}{clock:Nat}(h:my arr clock)(k v:Value):my (arr.push {key:=k,val:=v,born:=clock}) (clock+1):=by
 have key:∀(i:Nat) (e:MapEntry),(arr.push {key:=k,val:=v,born:=clock})[i]?=some e→(arr[i]?=some e∧e.born<clock)∨(i=arr.size∧e.born=clock):=by
  intro i e he;rw[Array.getElem?_push] at he;split at he
  ·rename_i hi;cases he;exact .inr ⟨hi,rfl⟩
  ·exact .inl ⟨he,h.1 i e he⟩
 refine⟨fun i e he=>?_,fun i j e f he hf hb=>?_⟩
 ·rcases key i e he with⟨_,h1⟩|⟨_,h1⟩<;>omega
 ·rcases key i e he with⟨h1,h2⟩|⟨h1,h2⟩<;>rcases key j f hf with⟨h3,h4⟩|⟨h3,h4⟩
  ·exact h.2 i j e f h1 h3 hb
  ·omega
  ·omega
  ·omega
theorem my.modify {arr:Array MapEntry}{clock:Nat}(h:my arr clock)(i0:Nat)(k v:Value):my (arr.modify i0 fun e=>{e with key:=k,val:=v}) clock:=by
 have key:∀(i:Nat) (e:MapEntry),(arr.modify i0 fun e=>{e with key:=k,val:=v})[i]?=some e→∃e',arr[i]?=some e'∧e'.born=e.born:=by
  intro i e he;rw[Array.getElem?_modify] at he;split at he
  ·simp only[az] at he;obtain⟨e',h1,rfl⟩:=he;exact⟨e',h1,rfl⟩
  ·exact⟨e,he,rfl⟩
 refine⟨fun i e he=>?_,fun i j e f he hf hb=>?_⟩
 ·obtain⟨e',h1,h2⟩:=key i e he;rw[←h2];exact h.1 i e' h1
 ·obtain⟨e',h1,h2⟩:=key i e he;obtain⟨f',h3,h4⟩:=key j f hf;exact h.2 i j e' f' h1 h3 (by rw[h2,h4,hb])
theorem UA (h:Inv C S ρ σ own hv w0 σ0 A a w)(hC:CtxOK C σ0){T:TypeId}{m k v:Operand}{r:St×List PI}(hr:rB C S T m k v=some r){o:Oper}(hd:o.dst=none)(ho:o.op=.mapUpdate T m k v∨o.op=.insert T m k v):bR C w0 σ0 Φ S ρ A a w o r:=by
 unfold rB at hr;split at hr
 case h_2=>cases hr
 rename_i K E j ver hT es;obtain⟨eu,_⟩:=qQ h (gs:=[]) rfl m;rw[es] at eu;cases hb:Nat.beq ver (S.ver j)<;>simp only[hb,cond_true,cond_false] at hr
 ·cases hr
 have bZ:=eu.2 (ay hb);have aV:=h.objs j;split at hr
 case h_2=>cases hr
 rename_i kt et tk ek tv ev eo hk v3;rw[eo] at aV;cases hc:(Ty.beq tk kt&&ub C.P K kt&&Ty.sub tv et)<;>simp only[hc,cond_true,cond_false] at hr
 ·cases hr
 cases hr;simp only[ak] at hc;obtain⟨⟨Ho,Cq⟩,bJ⟩:=hc;obtain⟨g,arr,clock,ds,h1,h2,h3,h4,h5,⟨h6,qe⟩,h7⟩:=aV;have bn:=cg h hC rfl hk;rw[Ty.beq_eq _ _ Ho] at bn;have hv':=(cg h hC rfl v3).sub bJ;refine bR.skip hd fun ρ' ah=>?_;simp only[PI.runs,PI.run,au] at ah;obtain⟨ρ1,g1,ρ2,g2,g3⟩:=ah;cases c1:((PE.ci BinOp.lss (.mlen (.o j)) (.con (.int mQ))).ev ρ).b<;>simp only[c1,cond_true,cond_false] at g1
 ·cases g1
 cases g1;cases g2;cases g3;have ahY:ds.length<4294967296:=by
  have h8:=ads c1;simp only[PE.ev,h4,D.m,D.i_int,D.int] at h8;exact ajE h8
 have rQ:(Instr.checkKey false 10000 K (a.eval k)).run C.P w=.ok () w:=Uk (cap:=C.cap) (σ:=σ) Cq bn;have fB:∃td yy ds',(Instr.mapUpdate T (a.eval m) (a.eval k) (a.eval v)).run C.P w=.ok () {w with heap:=w.heap.setIfInBounds g (.map td yy)}∧cQ (ek.ev ρ) (ev.ev ρ) ds=ds'∧ds'.length=td.size∧(ds'.length≤maxLen∧my td yy)∧
  ∀(i:Nat) (e:MapEntry) (p:D×D),td[i]?=some e→ds'[i]?=some p→Rep C.cap σ kt e.key p.1∧Rep C.cap σ et e.val p.2:=by
  rcases run_findKey Cq bn arr ds h5 h7 w with⟨f1,f2,f3⟩|⟨i,e,p,f1,f2,f3,f4,f5,f6⟩
  ·refine⟨arr.push {key:=a.eval k,val:=a.eval v,born:=clock},clock+1,ds++[(ek.ev ρ,ev.ev ρ)],?_,f3 _,by simp[h5],⟨by simp;unfold maxLen;omega,qe.push _ _⟩,fun q e p he hp=>?_⟩
   ·rw[bZ,h1];simp[Instr.mapUpdate,run_underlying hT,getObj,Sem.run,h3,rQ,f1,setObj]
   ·rw[Array.getElem?_push] at he;rw[lD] at hp;by_cases hq:q=arr.size
    ·subst hq;simp at he;rw[if_neg (by omega)] at hp;simp[h5] at hp;subst he;subst hp;exact⟨bn,hv'⟩
    ·rw[if_neg hq] at he;have HE:q<arr.size:=(ga.1 he).1;rw[if_pos (by omega)] at hp;exact h7 q e p he hp
  ·refine⟨arr.modify i fun e=>{e with key:=a.eval k,val:=a.eval v},clock,ds.set i (ek.ev ρ,ev.ev ρ),?_,f5 _,by simp[h5],⟨by simp;exact h6,qe.modify _ _ _⟩,fun q e' p' he hp=>?_⟩
   ·rw[bZ,h1];have cn:(Instr.keyThatStays e.key (a.eval k)).run C.P w=.ok (a.eval k) w:=by simp[Instr.keyThatStays,f6]
    simp[Instr.mapUpdate,run_underlying hT,getObj,Sem.run,h3,rQ,f3,f1,cn,setObj]
   ·rw[Array.getElem?_modify] at he;rw[AV] at hp;by_cases hq:i=q
    ·subst hq;simp only[if_true] at he hp;rw[f1] at he;simp at he;split at hp
     ·cases hp;subst he;exact⟨bn,hv'⟩
     ·cases hp
    ·rw[if_neg hq] at he hp;exact h7 q e' p' he hp
 obtain⟨td,yy,ds',r1,r2,r3,r4,r5⟩:=fB;refine⟨{w with heap:=w.heap.setIfInBounds g (.map td yy)},by rcases ho with ho|ho<;>simp[execOp,ho,r1],?_⟩;have hgl:g<w.heap.size:=(ga.1 h3).1;have hgB:w0.heap.size≤g:=(h.owns g j h2).1;have bH:(PE.put (.o j) ek ev).ev ρ=.map ds':=by simp only[PE.ev,h4,D.m,r2]
 rw[bH]
 have:=h.updB j (.mp kt et) (.map ds') (w':={w with heap:=w.heap.setIfInBounds g (.map td yy)}) ⟨rfl,rfl,rfl,by simp,fun k hk=>by simp;rw[Tk (by omega)]⟩
  (fun k hk aB=>by simp;rw[Tk (fun e=>aB (by rw[←e];exact h2))])
  ⟨g,td,yy,ds',h1,h2,by simp[hgl],by simp[Env.setO,aL],r3,r4,r5⟩
 have eS:S.setO j (.mp kt et)=S:=St.setO_self eo;rw[eS] at this;exact⟨_,_,_,this⟩
end
end Cx
namespace Cx
open Go Go.RowKit
theorem ari {e:Ty}{z:Value}(h:jf e z=true):e.rowT=true∨e.one=true:=by
 cases e<;>first|exact .inl rfl|exact .inr rfl|(cases z<;>simp[jf,xe] at h)
theorem Rep.cellsOne {cap:Nat→Option CSig}{σ:Im}{t:Ty}{v:Value}{d:D}(h:Rep cap σ t v d)(ht:t.rowT=true∨t.one=true){m:Nat}{u:Value}(hu:v.cells[m]?=some u):u.oneCell'=true:=by
 obtain⟨f1,f2,f3⟩:=h.flat ht;have af:m<v.cells.size:=(ga.1 hu).1;rw[h.size] at af;obtain⟨g1,g2⟩:=f3 m _ (bA (by omega:m<t.flat.length));have:=(g2.oneCell g1).2;rw[dL,hu] at this;exact this
theorem aeH {cap:Nat→Option CSig}{σ:Im}{e:Ty}{cells:List Value}{xs:List D}(h:dW cap σ e cells xs)(hl:cells.length=xs.length*e.size)(gS:e.rowT=true∨e.one=true):∀u∈cells,u.oneCell'=true:=by
 obtain⟨vs,h1,h2⟩:=h;intro u hu;obtain⟨p,hp,rfl⟩:=lE hu;rw[hl] at hp;have hs:0<e.size:=Nat.pos_of_ne_zero fun e0=>by rw[e0] at hp;simp at hp
 have hi:p/e.size<xs.length:=(Nat.div_lt_iff_lt_mul hs).2 hp;have hq:p%e.size<e.size:=Nat.mod_lt _ hs;have bM:=h1 _ _ (bA hi);have aJ:=bM.size;have oP:(vs (p/e.size)).cells[p%e.size]?=some (vs (p/e.size)).cells[p%e.size]:=fi (by omega);have:=h2 _ _ _ hi oP;rw[Nat.mul_comm,Nat.div_add_mod] at this;have h3:cells[p]=(vs (p/e.size)).cells[p%e.size]:=by
  have h4:=bA (show p<cells.length by omega);rw[h4] at this;exact u9 this
 rw[h3];exact bM.cellsOne gS oP
theorem aeG {cap:Nat→Option CSig}{σ:Im}{e:Ty}{c1 c2:List Value}{xs ys:List D}(h:dW cap σ e c1 xs)(k:dW cap σ e c2 ys)(hl:c1.length=xs.length*e.size):dW cap σ e (c1++c2) (xs++ys):=by
 obtain⟨vs,h1,h2⟩:=h;obtain⟨us,k1,k2⟩:=k;refine⟨fun i=>if i<xs.length then vs i else us (i-xs.length),fun i x hx=>?_,fun i j u hi hj=>?_⟩
 ·rw[lD] at hx;split at hx
  ·rename_i af;simp only[af,if_true];exact h1 i x hx
  ·rename_i af;simp only[af,if_false];exact k1 _ x hx
 ·by_cases af:i<xs.length
  ·simp only[af,if_true] at hj;have:=h2 i j u af hj;rw[kl (eh.1 this).1];exact this
  ·simp only[af,if_false] at hj;have cU:i-xs.length<ys.length:=by simp at hi;omega
   have:=k2 _ j u cU hj;have e1:i*e.size=c1.length+(i-xs.length)*e.size:=by rw[hl,←om];congr 1;omega
   rw[km (by omega)];rw[show i*e.size+j-c1.length=(i-xs.length)*e.size+j by omega];exact this
section
variable {C:Ctx} {S:St} {ρ:Env} {σ:Im} {own:Nat→Option Nat} {hv:Nat→Value} {w0:World} {σ0:Base} {A:Nat→Prop} {a:Act} {w:World} {gs:List (Nat×Bool)} {Φ:aP} {dst:Nat}
theorem aq3 (h:Inv C S ρ σ own hv w0 σ0 A a w){B:Nat}{e f:Ty}{v:Value}{d:D}(hs:0<e.size)(gS:e.rowT=true∨e.one=true)(hf:f.unf=e)(Nf:Kc C σ w B (.slice f) v d):
 ∃ys,d=.list ys∧ys.length≤maxLen∧((v=.slice none 0 0∧ys=[])∨∃(ad:Addr) (c:Nat) (news:List Value),v=.slice (some ad) ys.length c∧news.length=ys.length*e.size∧
  (∀j u,news[j]?=some u→w.cell? (ad.add j)=some u)∧dW C.cap σ e news ys):=by
 rcases Nf with hr|⟨T,e',cells,xs,ht,hd,bY,iP⟩|⟨k,arr,clock,es,kt,et,ht,_⟩
 ·obtain⟨xs,hd,y1⟩:=hr.slice_inv;rw[←f.unf_size,hf] at y1;rcases y1 with⟨⟨p0,aQ⟩,rfl⟩|⟨k,o,c,aQ,h1,h2,vs,h3,h4⟩
  ·cases p0 with
   |none=>exact⟨[],hd,by simp,.inl ⟨aQ,rfl⟩⟩
   |some a0=>exact⟨[],hd,by simp,.inr ⟨a0,0,[],aQ,by simp,fun j u hu=>by simp at hu,fun _=>undef,fun i x hx=>by simp at hx,fun i j u hi=>by simp at hi⟩⟩
  ·refine⟨xs,hd,by omega,.inr ⟨⟨k,o,none⟩,c,(List.range (xs.length*e.size)).map fun p=>(vs (p/e.size)).cells.getD (p%e.size) undef,aQ,by simp,fun j u hu=>?_,vs,h3,fun i j u hi hj=>?_⟩⟩
   ·simp only[cw,az] at hu;obtain⟨p,hp,rfl⟩:=hu;have fO:j<xs.length*e.size:=by have:=(eh.1 hp).1;simpa using this
    rw[pQ fO] at hp;cases hp;have hi:j/e.size<xs.length:=(Nat.div_lt_iff_lt_mul hs).2 fO;have hq:j%e.size<e.size:=Nat.mod_lt _ hs;have bM:=h3 _ _ (bA hi);have aJ:=bM.size;have oP:(vs (j/e.size)).cells[j%e.size]?=some ((vs (j/e.size)).cells.getD (j%e.size) undef):=by
     rw[dL,fi (by omega)];rfl
    have:=h.cell (h4 _ _ _ hi oP);rw[rq]
    rwa [show o+j/e.size*e.size+j%e.size=o+j by rw[uZ,Nat.mul_comm,Nat.div_add_mod]] at this
   ·have bM:=h3 _ _ (bA hi);have cE:j<e.size:=by rw[←bM.size];exact(ga.1 hj).1
    have af:i*e.size+j<xs.length*e.size:=by
     have:(i+1)*e.size≤xs.length*e.size:=oq _ hi;rw[om] at this;omega
    have e1:(i*e.size+j)/e.size=i:=by rw[Nat.mul_comm,Nat.mul_add_div hs,Nat.div_eq_of_lt cE];omega
    have e2:(i*e.size+j)%e.size=j:=by rw[AY,acb,Nat.mod_eq_of_lt cE]
    simp only[cw,pQ af,jO,e1,e2];rw[dL,hj];rfl
 ·cases ht;rw[Ty.unf_rol] at hf;obtain⟨b,c,aQ,hm,_⟩:=wH bY;have iP:dW C.cap σ e cells xs:=by
   obtain⟨us,u1,u2⟩:=iP;refine⟨us,fun i x hx=>hf▸(u1 i x hx).unf,fun i j u hi hu=>?_⟩;rw[←hf,Ty.unf_size];exact u2 i j u hi hu
  have bY:w.ownsRow B T e.size v xs.length cells:=by rw[←hf,Ty.unf_size];exact bY
  rcases bY.2 with⟨e1,e2⟩|⟨g,cap,cur,e1,e2⟩
  ·have:xs=[]:=JV e2;subst this;exact⟨[],hd,by simp,.inl ⟨e1,rfl⟩⟩
  ·exact⟨xs,hd,hm,.inr ⟨⟨g,0,none⟩,cap,cells,e1,bY.1,bY.cells (by rw[e1];rfl),iP⟩⟩
 ·cases ht
theorem an2 {P:Program}{B:Nat}{T E ty:TypeId}{inf:TypeInfo}{z:Value}{size:Nat}{v x:Value}{n m:Nat}{xs news:List Value}(hT:P.underlying T=some (.slice E))(hi:P.info? E=some inf)(hz:inf.zero=some z)
 (hs:inf.size=size) (sd:z.cells.size=size) (aJ:0<size) (ns:inf.bytes≤wh) (bY:w.ownsRow B E size v n xs) (hB:B≤w.heap.size) (cI:n+m≤4294967296)
 (hx:(x=.slice none 0 0∧m=0∧news=[])∨∃(ad:Addr) (c:Nat),x=.slice (some ad) m c∧news.length=m*size∧(∀j u,news[j]?=some u→w.cell? (ad.add j)=some u)∧∀u∈news,u.oneCell'=true):
 ∃v' w',(Builtin.append_ #[T,T] ty #[v,x]).run P w=.ok v' w'∧w'.ownsRow B E size v' (n+m) (xs++news)∧w.grownBy w' v.ownBlock∧∀k,v'.ownBlock=some k→v.ownBlock=some k∨(w.heap.size≤k∧k<w'.heap.size):=by
 rcases hx with⟨rfl,rfl,rfl⟩|⟨ad,c,rfl,hl,Hw,h1⟩
 ·refine⟨v,w,run_append_owned_none w B T ty E inf size hT hi v n xs bY,by simpa using bY,⟨rfl,rfl,rfl,bf _,fun _ _ _=>rfl⟩,fun k hk=>.inl hk⟩
 ·have L9:(n+m)*inf.bytes≤140737488355328:=by
   have:(n+m)*inf.bytes≤4294967296*wh:=Nat.mul_le_mul cI ns;unfold wh at this;omega
  obtain⟨v',w',r1,r2,r3,r4⟩:=run_append_own (P:=P) w B T ty E inf z size inf.bytes hT hi hz hs rfl sd aJ v n xs bY ad m c news hl Hw h1 (by unfold maxLen;omega) L9 hB;refine⟨v',w',r1,r2,r3,fun k hk=>?_⟩;have af:=(r2.lt k hk).2;subst hs;rcases bY.2 with⟨rfl,rfl⟩|⟨g,cap,cur,rfl,hbg,hg,cP,nu,dE,CW⟩
  ·by_cases hm:m=0
   ·subst hm;have:=r4.2 ⟨rfl,rfl⟩;subst this;simp[Value.ownBlock] at hk
   ·have hr:=run_append_nil (P:=P) w T ty E inf z hT hi hz ad m c news hl Hw (by omega) (by omega) (by have hb:=L9;simp only[gz] at hb;omega);rw[hr] at r1;cases r1;simp[Value.ownBlock] at hk;subst hk;exact .inr ⟨bf _,af⟩
  ·by_cases Wo:n+m≤cap
   ·have He:n*inf.size+news.length≤cur.size:=by rw[hl,dE,←om];exact oq _ Wo
    have hr:=run_append_room (P:=P) w T ty E inf hT hi g n cap cur hg ad m c news hl Hw h1 Wo He;rw[hr] at r1;cases r1;exact .inl hk
   ·have hr:=run_append_grow (P:=P) w T ty E inf z hT hi hz ⟨g,0,none⟩ n cap xs bY.1 (bY.cells (g:=g) rfl) ad m c news hl Hw (by omega) (by omega) (growslice_fits (by omega) L9);rw[hr] at r1;cases r1;simp[Value.ownBlock] at hk;subst hk;exact .inr ⟨bf _,af⟩
theorem adZ (h:Inv C S ρ σ own hv w0 σ0 A a w)(hC:CtxOK C σ0)(ht:¬A dst)(af:dst<a.tmps.size){T:TypeId}{s x:Operand}{r:St×List PI}(hr:Bx C S dst T s x=some r){o:Oper}(hd:o.dst=some dst)
 (ho:o.op=.call {callee:=.builtin .append,args:=#[s,x],argTypes:=#[T,T]}):bR C w0 σ0 Φ S ρ A a w o r:=by
 unfold Bx at hr;split at hr
 case h_2=>cases hr
 rename_i E hT;simp only[au] at hr;obtain⟨e,he,hr⟩:=hr;split at hr
 case h_2=>cases hr
 rename_i tx ex Nf;have hv':=S8 h hC (gs:=[]) rfl Nf;obtain⟨cs,ah⟩:=Qt (C:=C) (w:=w) (a:=a) ho;cases hc:(p9 C.P E e&&Jx tx e)<;>simp only[hc,cond_true,cond_false] at hr
 ·cases hr
 simp only[ak] at hc;obtain⟨inf,z,hi,hs,ns,h1,hz,lV⟩:=Ls hc.1;have sd:=Tg lV;have gS:=ari lV;have Ng:∃f:Ty,f.unf=e∧Kc C σ w w0.heap.size (.slice f) (a.eval x) (ex.ev ρ):=by
  have cn:=hc.2;unfold Jx at cn;split at cn
  ·exact⟨_,Ty.beq_eq _ _ cn,hv'⟩
  ·refine⟨e,Ty.unf_ro gS,?_⟩;rcases hv' with hr|⟨_,_,_,_,ht,_⟩|⟨_,_,_,_,_,_,ht,_⟩
   ·exact .inl (hr.sub (by simp[Ty.sub]))
   ·cases ht
   ·cases ht
  ·cases cn
 obtain⟨fv,ew,Ng⟩:=Ng;obtain⟨ys,Hc,jZ,aiV⟩:=aq3 h h1 gS ew Ng;have hx:∃news,dW C.cap σ e news ys∧news.length=ys.length*e.size∧((a.eval x=.slice none 0 0∧ys.length=0∧news=[])∨∃(ad:Addr) (c:Nat),a.eval x=.slice (some ad) ys.length c∧news.length=ys.length*e.size∧(∀j u,news[j]?=some u→w.cell? (ad.add j)=some u)∧∀u∈news,u.oneCell'=true):=by
  rcases aiV with⟨e1,rfl⟩|⟨ad,c,news,e1,e2,e3,e4⟩
  ·exact⟨[],⟨fun _=>undef,by simp,by simp⟩,by simp,.inl ⟨e1,rfl,rfl⟩⟩
  ·exact⟨news,e4,e2,.inr ⟨ad,c,e1,e2,e3,aeH e4 e2 gS⟩⟩
 obtain⟨news,aB,Wd,hx⟩:=hx;have main:∀(j:Nat) (v:Value) (xs:List D) (cells:List Value),a.eval s=v→w.ownsRow w0.heap.size E e.size v xs.length cells→dW C.cap σ e cells xs→xs.length+ys.length≤4294967296→
  (∀k,v.ownBlock=some k→own k=some j)→
  ∃v' w',(execOp a.eval o).run C.P w=.ok (.value v') w'∧Good C w0 σ0 ((S.newO j (.row E e)).setR dst (.obj j (S.ver j+1))) ((ρ.setO j (.list (xs++ys))).setR dst .none) (fun u=>A u∨u=dst) (a.put (some dst) v') w':=by
  intro j v xs cells M3 bY iP hlen cJ;obtain⟨v',w',r1,r2,r3,r4⟩:=an2 (P:=C.P) (ty:=o.type) hT hi hz hs sd h1 ns bY h.below.size hlen hx;refine⟨v',w',by rw[ah];simp[builtin,M3,r1],?_⟩
  have Nb:=h.updO j (.row E e) (.list (xs++ys)) v' (fun k=>decide (v'.ownBlock=some k)) (w':=w') (Vd r3 h.below.size (fun k hk=>(h.owns k j (cJ k hk)).1)) (fun k hk aB=>r3.block k hk (fun e=>aB (cJ k e.symm))) (fun k hk=>by
        have bn:v'.ownBlock=some k:=by simpa using hk
        rcases r4 k bn with e|e
        ·exact⟨.inl (cJ k e),(r2.lt k bn).2⟩
        ·exact⟨.inr e.1,e.2⟩)
   ⟨cells++news,xs++ys,by simp[Env.setO,aL],by rw[aL,ko];exact r2,aeG iP aB bY.1,fun k hk=>by rw[aL] at hk;simp[fc,hk]⟩
  have h2:=Nb.setObj ht (j:=j) (v:=v') (aL _ _ _) af;have e:(S.newO j (.row E e)).ver j=S.ver j+1:=aL _ _ _;rw[e] at h2;exact⟨_,_,_,h2⟩
 split at hr
 ·rename_i e0 pe0 hu;cases hr;refine bR.value hd fun ρ' qp=>?_;have M4:=cg h hC rfl hu;have M3:a.eval s=.slice none 0 0:=by
   generalize a.eval s=v at M4;generalize pe0.ev ρ=d at M4;cases M4;rfl
  simp only[PI.runs,PI.run,au] at qp;obtain⟨ρ1,g1,ρ2,g2,ρ3,g3,g4⟩:=qp;cases c1:((HS (.con (.list [])) ex).ev ρ).b<;>simp only[c1,cond_true,cond_false] at g1
  ·cases g1
  cases g1;cases g2;cases g3;cases g4;have hlen:=Ul c1;simp only[PE.ev,D.l_list,Hc,sW,D.i_int,D.int] at hlen;have:=main dst (.slice none 0 0) [] [] M3 (World.ownsRow_nil _ _ _ _) ⟨fun _=>undef,by simp,by simp⟩ (by simpa using W6 hlen) (by simp[Value.ownBlock]);simpa [PE.ev,D.l_list,Hc,mkObj] using this
 ·cases hr
 ·obtain⟨eu,_⟩:=qQ h (gs:=[]) rfl s;split at hr
  case h_2=>cases hr
  rename_i j ver es;rw[es] at eu;cases hb:Nat.beq ver (S.ver j)<;>simp only[hb,cond_true,cond_false] at hr
  ·cases hr
  have bZ:=eu.2 (ay hb);have aV:=h.objs j;split at hr
  case h_2=>cases hr
  rename_i E' e' eo;rw[eo] at aV;cases gC:(Nat.beq E' E&&Ty.beq e' e)<;>simp only[gC,cond_true,cond_false] at hr
  ·cases hr
  cases hr;simp only[ak] at gC;have e1:=ay gC.1;have e2:=Ty.beq_eq _ _ gC.2;subst e1;subst e2;obtain⟨cells,xs,k1,k2,k3,k4⟩:=aV;refine bR.value hd fun ρ' qp=>?_;simp only[PI.runs,PI.run,au] at qp;obtain⟨ρ1,g1,ρ2,g2,ρ3,g3,g4⟩:=qp;cases c1:((HS (.o j) ex).ev ρ).b<;>simp only[c1,cond_true,cond_false] at g1
  ·cases g1
  cases g1;cases g2;cases g3;cases g4;have hlen:=Ul c1;simp only[PE.ev,D.l_list,Hc,k1,D.i_int,D.int] at hlen;have:=main j (hv j) xs cells bZ k2 k3 (by have:=W6 hlen;simpa using this) k4;simpa [PE.ev,D.l_list,Hc,k1] using this
end
end Cx
namespace Cx
open Go Go.RowKit
theorem Ez {P:Program}{a:Act}{w:World}{o:Oper}{T:TypeId}{x v:Operand}{inf:TypeInfo}{k off:Nat}{cs:Array Value}{E:TypeId}(ho:o.op=.store T x v)(hi:P.info? T=some inf)(hx:a.eval x=.pointer (some ⟨k,off,none⟩))
 (hs:(a.eval v).cells.size=inf.size) (dp:∀u∈(a.eval v).cells.toList,u.oneCell'=true) (hb:w.heap[k]?=some (.cells cs E (0,0))) (hle:off+inf.size≤cs.size):
 (execOp a.eval o).run P w=.ok .skip (w.setRow k (cs.toList.take off++(a.eval v).cells.toList++cs.toList.drop (off+inf.size)).toArray):=by
 have:=run_storeCells_at P k off E (a.eval v).cells.toList 0 cs w hb (by simp[hs];exact hle) dp;simp only[hG,AO,hs] at this;simp[execOp,ho,Instr.storeAt,hx,Instr.sureAddr,storeVar,Go.sizeOf,run_typeInfo w hi,hs,this]
theorem aa9 {w:World}{B k:Nat}{cs:Array Value}(hB:B≤k):Below B w (w.setRow k cs)∧∀i,i≠k→(w.setRow k cs).heap[i]?=w.heap[i]?:=
 ⟨⟨rfl,rfl,rfl,by simp[World.setRow],fun i hi=>setRow_other w k i cs (by omega)⟩,fun i hi=>setRow_other w k i cs hi⟩
theorem GL {α:Type}(xs ys:List α)(off:Nat)(d:α)(hle:off+ys.length≤xs.length)(i:Nat):(xs.take off++ys++xs.drop (off+ys.length)).getD i d=if off≤i∧i<off+ys.length then ys.getD (i-off) d else xs.getD i d:=by
 simp only[aK,pP];rw[lD,dR,oo (by omega)];split
 ·rename_i h;rw[if_neg (by omega),fj,if_pos h]
 ·rename_i h;rw[lD];split
  ·rename_i h2;rw[if_pos (by omega)]
  ·rename_i h2;rw[if_neg (by omega),fJ];congr 2;omega
section
variable {C:Ctx} {S:St} {ρ:Env} {σ:Im} {own:Nat→Option Nat} {hv:Nat→Value} {w0:World} {σ0:Base} {A:Nat→Prop} {a:Act} {w:World} {gs:List (Nat×Bool)} {Φ:aP} {dst:Nat}
theorem Inv.storeBox (h:Inv C S ρ σ own hv w0 σ0 A a w){j k off:Nat}{ag:Bool}{shs news:List Sh}{cs:Array Value}{E:TypeId}{ds dn:List D}{vs:List Value}(eo:S.o j=.box ag shs)
 (h1:hv j=.pointer (some ⟨k,0,none⟩)) (h2:own k=some j) (h3:w.heap[k]?=some (.cells cs E (0,0))) (h4:cs.size=shs.length) (h5:ρ.o j=.agg ds) (h6:ds.length=shs.length)
 (h7:∀i s,shs[i]?=some s→(∀gs s',s≠.opt gs s')∧aH C S ρ σ hv s (cs.getD i undef) (ds.getD i .none))
 (l1:news.length=vs.length) (l2:dn.length=vs.length) (hle:off+vs.length≤shs.length)
 (kU:∀i s,news[i]?=some s→(∀gs s',s≠.opt gs s')∧aH C S ρ σ hv s (vs.getD i undef) (dn.getD i .none)):
 Inv C (S.setO j (.box ag (shs.take off++news++shs.drop (off+vs.length)))) (ρ.setO j (.agg (cl ds off dn))) σ own hv w0 σ0 A a (w.setRow k (cs.toList.take off++vs++cs.toList.drop (off+vs.length)).toArray):=by
 have hkB:w0.heap.size≤k:=(h.owns k j h2).1;obtain⟨b1,b2⟩:=aa9 (w:=w) (B:=w0.heap.size) (k:=k) (cs:=(cs.toList.take off++vs++cs.toList.drop (off+vs.length)).toArray) hkB;refine h.updB j _ _ b1 (fun i hi aB=>b2 i fun e=>aB (e▸h2)) ⟨k,_,E,cl ds off dn,h1,h2,setRow_heap w k cs _ E _ h3,?_,by simp[Env.setO,aL],?_,fun i s hi=>?_⟩
 ·simp[l1];omega
 ·simp[cl,l2,l1];omega
 ·have dE:(cs.toList.take off++vs++cs.toList.drop (off+vs.length)).toArray.getD i undef=if off≤i∧i<off+vs.length then vs.getD (i-off) undef else cs.getD i undef:=by
   have e0:∀l:List Value,l.toArray.getD i undef=l.getD i undef:=fun l=>by simp[dL,aK]
   rw[e0,GL cs.toList vs off undef (by simp;omega),yR cs i]
  have rR:(cl ds off dn).getD i .none=if off≤i∧i<off+vs.length then dn.getD (i-off) .none else ds.getD i .none:=by
   rw[cl,GL ds dn off .none (by omega),l2]
  rw[dE,rR];have V8:∀s v d,(∀gs s',s≠.opt gs s')→aH C S ρ σ hv s v d→aH C (S.setO j (.box ag (shs.take off++news++shs.drop (off+vs.length)))) (ρ.setO j (.agg (cl ds off dn))) σ hv s v d:=
   fun s v d hn hk=>aH.mono' (.refl σ) (Compat.setO _ _ _ _) hn hk
  have gD:(shs.take off++news++shs.drop (off+vs.length))[i]?=if off≤i∧i<off+vs.length then news[i-off]? else shs[i]?:=by
   rw[pP,lD,dR,oo (by omega)];split
   ·rename_i h;rw[if_neg (by omega),fj,if_pos h]
   ·rename_i h;rw[lD,l1];split
    ·rename_i h2;rw[if_pos (by omega)]
    ·rename_i h2;rw[if_neg (by omega),fJ];congr 1;omega
  rw[gD] at hi;split
  ·rename_i hc;rw[if_pos hc] at hi;obtain⟨g1,g2⟩:=kU _ s hi;exact⟨g1,V8 _ _ _ g1 g2⟩
  ·rename_i hc;rw[if_neg hc] at hi;obtain⟨g1,g2⟩:=h7 _ s hi;exact⟨g1,V8 _ _ _ g1 g2⟩
theorem aaZ (h:Inv C S ρ σ own hv w0 σ0 A a w){j:Nat}(hr:kG (S.o j)=true):(hv j).cells=#[hv j]∧(hv j).oneCell'=true:=by
 have aV:=h.objs j;cases cJ:S.o j with
 |row T e=>
  rw[cJ] at aV;obtain⟨cells,xs,h1,h2,h3,h4⟩:=aV;obtain⟨b,c,e1,_⟩:=wH h2;rw[e1];exact⟨rfl,rfl⟩
 |mp kt et=>
  rw[cJ] at aV;obtain⟨k0,arr,clock,es,h1,_⟩:=aV;rw[h1];exact⟨rfl,rfl⟩
 |_=>rw[cJ] at hr;simp[kG] at hr
theorem Inv.storeRow (h:Inv C S ρ σ own hv w0 σ0 A a w){j k n c i p:Nat}{T:TypeId}{e:Ty}{cells vs:List Value}{xs:List D}{v':Value}{d':D}(eo:S.o j=.row T e)(eA:hv j=.slice (some ⟨k,0,none⟩) n c)
 (h1:ρ.o j=.list xs) (h2:w.ownsRow w0.heap.size T e.size (hv j) xs.length cells) (h3:dW C.cap σ e cells xs) (h4:∀k,(hv j).ownBlock=some k→own k=some j) (hi:i<xs.length)
 (CJ:i*e.size≤p) (eW:p+vs.length≤i*e.size+e.size) (hr:Rep C.cap σ e v' d')
 (hv':∀q u,v'.cells[q]?=some u→(cells.take p++vs++cells.drop (p+vs.length))[i*e.size+q]?=some u):
 ∃cur,w.heap[k]?=some (.cells cur T (0,0))∧p+vs.length≤cur.size∧Inv C S (ρ.setO j (.list (xs.set i d'))) σ own hv w0 σ0 A a (w.setRow k (cur.toList.take p++vs++cur.toList.drop (p+vs.length)).toArray):=by
 have aW:=h2.1;rcases h2.2 with⟨e0,e1⟩|⟨g,cap,cur,e1,e2,e3,e4,e5,e6,e7⟩
 ·omega
 rw[eA] at e1;cases e1;have ahS:i*e.size+e.size≤xs.length*e.size:=by
  have:(i+1)*e.size≤xs.length*e.size:=oq _ hi;rw[om] at this;omega
 have av2:xs.length*e.size≤c*e.size:=oq _ e4;have aiy:p+vs.length≤cur.size:=by omega
 refine⟨cur,e3,aiy,?_⟩;have bY:own k=some j:=h4 k (by rw[eA];rfl);obtain⟨b1,b2⟩:=aa9 (w:=w) (B:=w0.heap.size) (k:=k) (cs:=(cur.toList.take p++vs++cur.toList.drop (p+vs.length)).toArray) e2;have CW:(cur.toList.take p++vs++cur.toList.drop (p+vs.length)).take (xs.length*e.size)=cells.take p++vs++cells.drop (p+vs.length):=by
  rw[←e7];apply Tz;intro q;simp only[pP,fj,lD,dR,fJ,AO];by_cases hq:q<xs.length*e.size
  ·rw[if_pos hq];by_cases hq1:q<p
   ·simp[hq1,Nat.lt_min,show q<cur.size by omega,hq]
   ·by_cases iT:q-p<vs.length
    ·rw[if_neg (by omega),oo (by omega),if_pos iT,if_neg (by omega),oo (by omega),if_pos iT]
    ·rw[if_neg (by omega),oo (by omega),if_neg iT,if_neg (by omega),oo (by omega),if_neg iT,if_pos (by omega)]
  ·rw[if_neg hq];have:¬q<p:=by omega
   rw[if_neg (by omega),oo (by omega),if_neg (by omega),if_neg (by omega)]
 have:=h.updB j (.row T e) (.list (xs.set i d')) b1 (fun q hq aB=>b2 q fun e=>aB (e▸bY))
  ⟨cells.take p++vs++cells.drop (p+vs.length),xs.set i d',by simp[Env.setO,aL],⟨by simp;omega,.inr ⟨k,c,_,by rw[eA];simp,e2,setRow_heap w k cur _ T _ e3,by simpa using e4,e5,by simp;omega,by simpa using CW⟩⟩,?_,h4⟩
 ·rw[St.setO_self eo] at this;exact this
 ·obtain⟨us,u1,u2⟩:=h3;refine⟨fun q=>if q=i then v' else us q,fun q x hx=>?_,fun q m u hq hm=>?_⟩
  ·rw[AV] at hx;by_cases zf:i=q
   ·subst zf;simp only[if_true] at hx ⊢;rw[if_pos hi] at hx;cases hx;exact hr
   ·rw[if_neg zf] at hx;simp only[show ¬q=i from fun e=>zf e.symm,if_false];exact u1 q x hx
  ·by_cases zf:q=i
   ·subst zf;simp only[if_true] at hm;exact hv' m u hm
   ·simp only[zf,if_false] at hm;simp only[List.length_set] at hq;have h9:=u2 q m u hq hm;have awe:m<e.size:=by rw[←(u1 q _ (bA hq)).size];exact(ga.1 hm).1
    have jV:q*e.size+m<p∨p+vs.length≤q*e.size+m:=by
     rcases J6 q i with af|eU
     ·left;have:(q+1)*e.size≤i*e.size:=oq _ af;rw[om] at this;omega
     ·right;have:(i+1)*e.size≤q*e.size:=oq _ (by omega);rw[om] at this;omega
    rw[pP,lD,dR,oo (by omega)];rcases jV with ho|ho
    ·rw[if_pos ho,fj,if_pos ho];exact h9
    ·rw[if_neg (by omega),km (by omega),fJ];rw[show p+vs.length+(q*e.size+m-p-vs.length)=q*e.size+m by omega];exact h9
theorem aev (h:Inv C S ρ σ own hv w0 σ0 A a w)(hC:CtxOK C σ0){T:TypeId}{x v:Operand}{r:St×List PI}(hr:tn C S T x v=some r){o:Oper}(hd:o.dst=none)(ho:o.op=.store T x v):bR C w0 σ0 Φ S ρ A a w o r:=by
 unfold tn at hr;split at hr
 case h_2=>cases hr
 rename_i inf hi;obtain⟨eu,_⟩:=qQ h (gs:=[]) rfl x;split at hr
 case h_3=>cases hr
 ·rename_i j ver off es;rw[es] at eu;cases hb:Nat.beq ver (S.ver j)<;>simp only[hb,cond_true,cond_false] at hr
  ·cases hr
  obtain⟨k,eA,fw⟩:=eu.2 (ay hb);have aV:=h.objs j;split at hr
  case h_2=>cases hr
  rename_i ag shs eo;rw[eo] at aV;obtain⟨k',cs,E,ds,h1,h2,h3,h4,h5,h6,h7⟩:=aV;have cK:=h1;rw[eA] at h1;cases h1;split at hr
  ·rename_i t e hu;have hv':=cg h hC rfl hu;cases hc:(Nat.beq inf.size t.size&&(t.rowT||t.one)&&Nat.ble (off+t.size) shs.length)<;>simp only[hc,cond_true,cond_false] at hr
   ·cases hr
   cases hr;simp only[ak,gr] at hc;obtain⟨⟨aJ,gS⟩,hle⟩:=hc;have aJ:=ay aJ;have hle:=ji hle;obtain⟨f1,f2,f3⟩:=hv'.flat gS;have gU:=hv'.size;refine bR.skip hd fun ρ' ah=>?_;rw[qO ah]
   refine⟨_,Ez ho hi fw (by rw[gU,aJ]) (fun u hu=>by
        obtain⟨m,hm,rfl⟩:=lE hu;exact hv'.cellsOne gS (m:=m) (by simp at hm ⊢)) h3 (by omega),?_⟩
   have cn:=h.storeBox (off:=off) (news:=t.flat.map .dat) (vs:=(a.eval v).cells.toList) (dn:=(e.ev ρ).cells) eo cK h2 h3 h4 h5 h6 h7 (by simp[f1,gU]) (by simp[f2,gU]) (by simp[gU];omega) (fun i s hi=>by
        simp only[cw,az] at hi;obtain⟨ti,M6,rfl⟩:=hi;refine⟨fun _ _ e=>(by cases e),?_⟩;rw[yR];exact(f3 i ti M6).2)
   have e1:(a.eval v).cells.toList.length=t.size:=by simp[gU]
   rw[e1] at cn;rw[aJ];refine⟨σ,own,hv,?_⟩;simpa [PE.ev,h5,D.cells] using cn
  ·split at hr
   case h_3=>cases hr
   case h_2=>
        rename_i l fp;obtain⟨zh,_⟩:=qQ h (gs:=[]) rfl v;rw[fp] at zh;obtain⟨vs,ds',q1,q2,q3,q4,q5⟩:=zh;cases hc:(Nat.beq inf.size l.length&&Nat.ble (off+l.length) shs.length&&l.all (LM S))<;>simp only[hc,cond_true,cond_false] at hr
        ·cases hr
        cases hr;simp only[ak] at hc;obtain⟨⟨aJ,hle⟩,cS⟩:=hc;have aJ:=ay aJ;have hle:=ji hle;have ic:(a.eval v).cells.toList=vs:=by rw[q1];simp[Value.cells]
        have dE:(a.eval v).cells.size=vs.length:=by rw[←ic];simp
        have dp:∀u∈(a.eval v).cells.toList,u.oneCell'=true:=fun u hu=>by
         rw[ic] at hu;obtain⟨i,hi,rfl⟩:=lE hu;have vK:i<l.length:=by omega
         have g:=q5 i l[i] (bA vK);have hf:=bE.1 cS l[i] (dA vK);have Mm:vs.getD i undef=vs[i]:=by simp[aK,hi]
         rw[Mm] at g;generalize l[i]=c at g hf;cases c with
         |dat t=>exact(g.2.oneCell g.1).2
         |obj j' mm=>
          simp only[LM,ak] at hf;rw[g.2 (ay hf.1)];exact(aaZ h hf.2).2
        refine bR.skip hd fun ρ' ah=>?_;rw[qO ah];refine⟨_,Ez ho hi fw (by omega) dp h3 (by omega),?_⟩
        have cn:=h.storeBox (off:=off) (news:=l.map AgC.sh) (vs:=vs) (dn:=ds') eo cK h2 h3 h4 h5 h6 h7 (by simp[q3]) (by omega) (by omega) (fun i s hi=>by
         simp only[cw,az] at hi;obtain⟨c,hc,rfl⟩:=hi;have g:=q5 i c hc;cases c with
         |dat t=>exact⟨fun _ _ e=>(by cases e),g.2⟩
         |obj j' mm=>exact⟨fun _ _ e=>(by cases e),g⟩)
        rw[ic,aJ];have e1:vs.length=l.length:=q3;rw[e1] at cn;refine⟨σ,own,hv,?_⟩;simpa [PE.ev,h5,q2,D.cells] using cn
   rename_i j' mm fp;obtain⟨zh,_⟩:=qQ h (gs:=[]) rfl v;rw[fp] at zh;cases hc:(Nat.beq mm (S.ver j')&&kG (S.o j')&&Nat.beq inf.size 1&&Nat.blt off shs.length)<;>simp only[hc,cond_true,cond_false] at hr
   ·cases hr
   cases hr;simp only[ak] at hc;obtain⟨⟨⟨ajf,gk⟩,aJ⟩,af⟩:=hc;have aJ:=ay aJ;have af:off<shs.length:=by simpa [hH] using af
   have bZ:=zh.2 (ay ajf);obtain⟨c1,c2⟩:=aaZ h gk;have ic:(a.eval v).cells=#[a.eval v]:=by rw[bZ];exact c1
   refine bR.skip hd fun ρ' ah=>?_;rw[qO ah];refine⟨_,Ez ho hi fw (by rw[ic,aJ];rfl) (fun u hu=>by rw[ic] at hu;simp at hu;subst hu;rw[bZ];exact c2) h3 (by omega),?_⟩
   have cn:=h.storeBox (off:=off) (news:=[.obj j' mm]) (vs:=[a.eval v]) (dn:=[.none]) eo cK h2 h3 h4 h5 h6 h7 rfl rfl (by simp;omega) (fun i s hi=>by
        match i,hi with
        |0,hi=>simp at hi;subst hi;exact⟨fun _ _ e=>(by cases e),zh.1,fun _=>by simpa using bZ⟩
        |i+1,hi=>simp at hi)
   rw[ic,aJ];have e2:shs.take off++[Sh.obj j' mm]++shs.drop (off+[a.eval v].length)=shs.set off (.obj j' mm):=by
        rw[List.set_eq_take_append_cons_drop,if_pos af];simp
   rw[e2] at cn;refine⟨σ,own,hv,?_⟩;simpa [PE.ev,h5,D.cells] using cn
 ·rename_i j ver size off es;rw[es] at eu;cases hb:Nat.beq ver (S.ver j)<;>simp only[hb,cond_true,cond_false] at hr
  ·cases hr
  obtain⟨k,n,c,ik,i,eA,tI,bD,fw⟩:=eu.2 (ay hb);have aV:=h.objs j;split at hr
  ·rename_i T' ts t e eo hu;rw[eo] at aV;have hv':=cg h hC rfl hu;cases hc:(Nat.beq inf.size t.size&&(t.rowT||t.one)&&Nat.beq size ts.length&&Nat.ble (off+t.size) ts.length&&Ty.subs t.flat ((ts.drop off).take t.size))<;>simp only[hc,cond_true,cond_false] at hr
   ·cases hr
   cases hr;simp only[ak,gr] at hc;obtain⟨⟨⟨⟨aJ,gS⟩,vY⟩,hle⟩,bJ⟩:=hc;have aJ:=ay aJ;have vY:=ay vY;have hle:=ji hle;obtain⟨f1,f2,f3⟩:=hv'.flat gS;have gU:=hv'.size;have f1:t.flat.length=t.size:=f1;have f2:(e.ev ρ).cells.length=t.size:=f2;have gU:(a.eval v).cells.size=t.size:=gU;obtain⟨cells,xs,k1,k2,k3,k4⟩:=aV;obtain⟨b,c',e1,Cv,Cw⟩:=wH k2;rw[eA] at e1;cases e1;obtain⟨us,u1,u2⟩:=k3;obtain⟨y,hy⟩:∃y,xs[i]?=some y:=⟨_,bA bD⟩
   obtain⟨os,ds,tV,hd0,l1,l2,aO,dp⟩:=(u1 i y hy).agg_inv;have CY:(a.eval v).cells.toList.length=t.size:=by simp[gU]
   have kU:Rep C.cap σ (.agg ts) (.agg (os.take off++(a.eval v).cells.toList++os.drop (off+(a.eval v).cells.toList.length)).toArray) (.agg (cl ds off (e.ev ρ).cells)):=by
        refine .agg _ _ _ (by simp[gU];omega) (by simp[cl,f2];omega) (fun m tm hm=>?_) dp;rw[GL os _ off undef (by rw[CY];omega),cl,GL ds _ off .none (by rw[f2];omega),CY,f2];split
        ·rename_i hc;have aiZ:=Ty.subs_get _ _ bJ (m-off) tm (by
          rw[fj,if_pos (by omega),fJ,show off+(m-off)=m by omega];exact hm)
         obtain⟨tf,htf,cn⟩:=aiZ;rw[yR];exact((f3 _ tf htf).2).sub cn
        ·exact aO m tm hm
   have aW:=k2.1;have ahS:i*(Ty.agg ts).size+(Ty.agg ts).size≤xs.length*(Ty.agg ts).size:=by
        have:(i+1)*(Ty.agg ts).size≤xs.length*(Ty.agg ts).size:=oq _ bD;rw[om] at this;omega
   have Wu:(Ty.agg ts).size=ts.length:=rfl
   obtain⟨cur,q1,q2,q3⟩:=h.storeRow (i:=i) (p:=i*(Ty.agg ts).size+off) (vs:=(a.eval v).cells.toList) eo eA k1 k2 ⟨us,u1,u2⟩ k4 bD (by omega) (by rw[CY];omega) kU (fun q u hq=>by
        have dx:(os.take off++(a.eval v).cells.toList++os.drop (off+(a.eval v).cells.toList.length))[q]?=some u:=by simpa [Value.cells] using hq
        have awl:q<ts.length:=by have:=(eh.1 dx).1;simp[gU] at this;omega
        rw[pP,lD,dR,oo (by omega)] at dx;rw[pP,lD,dR,oo (by omega)];by_cases qo:q<off
        ·rw[if_pos qo,fj,if_pos qo] at dx;rw[if_pos (by omega),fj,if_pos (by omega)];exact u2 i q u bD (by rw[tV];simpa [Value.cells] using dx)
        ·rw[if_neg qo,lD] at dx;rw[if_neg (by omega),lD];rw[show i*(Ty.agg ts).size+q-(i*(Ty.agg ts).size+off)=q-off by omega];by_cases MX:q-off<(a.eval v).cells.toList.length
         ·rw[if_pos MX] at dx ⊢;exact dx
         ·rw[if_neg MX,fJ] at dx;rw[if_neg MX,fJ];rw[show off+(a.eval v).cells.toList.length+(q-off-(a.eval v).cells.toList.length)=q by omega] at dx;rw[show i*(Ty.agg ts).size+off+(a.eval v).cells.toList.length+(q-off-(a.eval v).cells.toList.length)=i*(Ty.agg ts).size+q by omega];exact u2 i q u bD (by rw[tV];simpa [Value.cells] using dx))
   refine bR.skip hd fun ρ' ah=>?_;rw[qO ah]
   refine⟨_,Ez ho hi (cs:=cur) (by rw[fw,vY]) (by rw[gU,aJ]) (fun u hu=>by
        obtain⟨m,hm,rfl⟩:=lE hu;exact hv'.cellsOne gS (m:=m) (by simp at hm ⊢)) q1 (by rw[CY] at q2;rw[aJ,←Wu];exact q2),σ,own,hv,?_⟩
   rw[CY] at q3;simp only[PE.ev,k1,D.l_list,tI,D.i_int,sR,rL hy,hd0,sK];rw[aJ,←Wu];exact q3
  ·rename_i T' e0 t e aB eo hu;rw[eo] at aV;have hv':=cg h hC rfl hu;cases hc:(Nat.beq inf.size 1&&Nat.beq size 1&&Nat.beq off 0&&e0.one&&Ty.sub t e0)<;>simp only[hc,cond_true,cond_false] at hr
   ·cases hr
   cases hr;simp only[ak] at hc;obtain⟨⟨⟨⟨aJ,vY⟩,iS⟩,dp⟩,bJ⟩:=hc;have aJ:=ay aJ;have vY:=ay vY;have iS:=ay iS;subst iS;subst vY;have Wx:=hv'.sub bJ;obtain⟨c1,c2⟩:=Wx.oneCell dp;have Cf:e0.size=1:=by cases e0<;>simp_all [Ty.size,Ty.one]
   obtain⟨cells,xs,k1,k2,k3,k4⟩:=aV;obtain⟨b,c',e1,Cv,Cw⟩:=wH k2;rw[eA] at e1;cases e1;obtain⟨y,hy⟩:∃y,xs[i]?=some y:=⟨_,bA bD⟩
   have aW:=k2.1
   obtain⟨cur,q1,q2,q3⟩:=h.storeRow (i:=i) (p:=i*e0.size) (vs:=[a.eval v]) eo eA k1 k2 k3 k4 bD (bf _) (by rw[Cf];simp) Wx (fun q u hq=>by
        rw[c1] at hq;have vT:q=0:=by have:=(ga.1 hq).1;simpa using this
        subst vT;simp at hq;subst hq;have:i*e0.size≤cells.length:=by rw[aW];exact oq _ (by omega)
        rw[pP,km (by simp;omega)];simp[oo this])
   refine bR.skip hd fun ρ' ah=>?_;rw[qO ah];refine⟨_,Ez ho hi (cs:=cur) (by rw[fw]) (by rw[c1,aJ];rfl) (fun u hu=>by rw[c1] at hu;simp at hu;subst hu;exact c2) q1 (by rw[Cf] at q2;rw[aJ];simpa using q2),σ,own,hv,?_⟩;rw[c1,aJ];have C3:sK y 0 (e.ev ρ)=e.ev ρ:=by
        obtain⟨us,u1,u2⟩:=k3;have:=(u1 i y hy).dcells dp;cases y with
        |agg ds=>have h8:=u1 i _ hy;generalize us i=vv at h8;cases h8;simp[Ty.one] at dp
        |_=>rfl
   simp only[PE.ev,k1,D.l_list,tI,D.i_int,sR,rL hy,C3];rw[Cf] at q3;simpa using q3
  ·cases hr
end
end Cx
namespace Cx
open Go Go.RowKit
section
variable {C:Ctx} {S:St} {ρ:Env} {σ:Im} {own:Nat→Option Nat} {hv:Nat→Value} {w0:World} {σ0:Base} {A:Nat→Prop} {a:Act} {w:World} {gs:List (Nat×Bool)} {Φ:aP} {dst:Nat}
theorem aeW {ρ:Env}{es:List PE}{i:Nat}{e:PE}(h:es[i]?=some e):(PE.evs ρ es)[i]?=some (e.ev ρ):=by
 rw[PE.evs_eq,cw,h];rfl
theorem Uu (h:Inv C S ρ σ own hv w0 σ0 A a w)(hC:CtxOK C σ0)(hg:holds gs ρ=true){T:TypeId}{len:Nat}{ps:Array (Nat×Operand)}{r:St×List PI}(hr:vq C S gs dst T len ps.toList=some r){o:Oper}
 (ho:o.op=.buildSlice T len ps):∃(E:TypeId) (e:Ty) (es:List PE) (v:Value) (w':World),C.P.underlying T=some (.slice E)∧oc C.P E=some e∧r=(mkObj S dst (.row E e),[.setO dst (.lst es),.setR dst (.con .none)])∧
   (execOp a.eval o).run C.P w=.ok (.value v) w'∧Below w.heap.size w w'∧(∀k,Nat.beq k w.heap.size=true→w.heap.size≤k∧k<w'.heap.size)∧
   cd C (S.newO dst (.row E e)) (ρ.setO dst (.list (PE.evs ρ es))) σ (fc own dst (fun k=>Nat.beq k w.heap.size)) (bQ hv dst v) w' w0.heap.size dst (.row E e):=by
 unfold vq at hr;split at hr
 case h_2=>cases hr
 rename_i E hT;simp only[au] at hr;obtain⟨e,he,z,hz,hr⟩:=hr;cases hc:(p9 C.P E e&&Ty.sub z.1 e&&gl (ps.toList.map (·.1))&&ps.toList.all (fun p=>Nat.blt p.1 len)&&Nat.ble (len*e.size) 16777216)<;>simp only[hc,cond_true,cond_false] at hr
 ·cases hr
 simp only[ak] at hc;obtain⟨⟨⟨⟨hef,bJ⟩,bk⟩,eX⟩,hle⟩:=hc;have hle:=ji hle;obtain⟨inf,zv,hi,hs,ns,h1,hzv,lV⟩:=Ls hef;have sd:=Tg lV;have jz:=l6 bk;have C4:=((xf (cap:=C.cap) (σ:=σ) hz lV).1).sub bJ;simp only[az] at hr;obtain⟨es,iQ,rfl⟩:=hr;obtain⟨UF,el2⟩:=mapM_some _ _ _ iQ;simp only[EZ] at UF;have VI:∀i,i<len→∃pe,es[i]?=some pe∧Gy C S gs e z.2 ps.toList i=some pe:=by
  intro i hi;obtain⟨y,hy1,sc⟩:=el2 i i (by rw[pQ hi]);exact⟨y,hy1,sc⟩
 have nC:∀x,x∈ps.toList→x.1<len∧∃t pe,use C S gs x.2=some (t,pe)∧Ty.sub t e=true∧es[x.1]?=some pe:=by
  intro x hx;have v7:x.1<len:=by
   have:=bE.1 eX x hx;simpa [hH] using this
  refine⟨v7,?_⟩;obtain⟨pe,CJ,eW⟩:=VI x.1 v7;have Ci:=UW jz (i:=x.1) (x:=x.2) hx;simp only[Gy,Ci,au] at eW;obtain⟨y,hy,eW⟩:=eW;cases hs:Ty.sub y.1 e<;>simp only[hs,cond_true,cond_false] at eW
  ·cases eW
  cases eW;exact⟨y.1,y.2,hy,hs,CJ⟩
 let c0:Array Value:=madeCells zv.cells (len*e.size)
 have Cb:c0.size=len*e.size:=size_madeCells _ _
 have jC:∀p,p∈(ps.toList.map fun(x:Nat×Operand)=>(x.1,a.eval x.2))→∃o,(fun i=>some (i*e.size,e.size)) p.1=some (o,p.2.cells.size)∧o+p.2.cells.size≤c0.size:=by
  intro p hp;obtain⟨x,hx,rfl⟩:=eO.1 hp;obtain⟨v7,t,pe,hu,cn,_⟩:=nC x hx;have tU:=((cg h hC hg hu).sub cn).size;simp only;refine⟨x.1*e.size,by rw[tU],?_⟩;rw[tU,Cb];have:(x.1+1)*e.size≤len*e.size:=oq _ v7;rw[om] at this;omega
 have y4:∀(i j oi si oj sj:Nat),i≠j→(fun i=>some (i*e.size,e.size)) i=some (oi,si)→(fun i=>some (i*e.size,e.size)) j=some (oj,sj)→oi+si≤oj∨oj+sj≤oi:=by
  intro i j oi si oj sj aB hi hj;simp only[aR,na] at hi hj;obtain⟨rfl,rfl⟩:=hi;obtain⟨rfl,rfl⟩:=hj;rcases J6 i j with af|eU
  ·left;have:(i+1)*e.size≤j*e.size:=oq _ af;rw[om] at this;omega
  ·right;have:(j+1)*e.size≤i*e.size:=oq _ (by omega);rw[om] at this;omega
 obtain⟨dv,f1,f2,f3,f4⟩:=LA (fun i=>some (i*e.size,e.size)) (ps.toList.map fun(x:Nat×Operand)=>(x.1,a.eval x.2)) c0 jC y4 (by simpa [EU] using jz);have ah:(execOp a.eval o).run C.P w=.ok (.value (.slice (some ⟨w.heap.size,0,none⟩) len len)) (w.alloc (.cells dv E)):=by
  have n1:¬(len*inf.size>2^24):=by rw[hs];omega
  have GC:Instr.fill (fun i=>some (i*inf.size,inf.size)) c0 (ps.toList.map fun(x:Nat×Operand)=>(x.1,a.eval x.2))=some dv:=by rw[hs];exact f1
  by_cases h0:len*inf.size=0
  ·have Mb:c0=#[]:=by
        apply JR;rw[Cb,←hs];exact h0
   rw[Mb] at GC
   have aeY:Instr.fill (fun i=>some (i*inf.size,inf.size)) (Array.map (fun _=>default) (Array.range 0)) (ps.toList.map fun(x:Nat×Operand)=>(x.1,a.eval x.2))=some dv:=by
        have:(Array.map (fun _=>(default:Value)) (Array.range 0))=#[]:=by simp
        rw[this];exact GC
   simp[execOp,ho,Instr.buildSlice,run_underlying hT,Go.sizeOf,run_typeInfo w hi,n1,h0,aeY,newRow]
  ·have Mb:c0=(Array.range (len*inf.size)).map (fun x=>zv.cells[x%zv.cells.size]!):=by simp only[c0,madeCells,hs]
   rw[Mb] at GC;have h00:¬(len=0∨inf.size=0):=by rw[←Nat.mul_eq_zero];exact h0
   simp[execOp,ho,Instr.buildSlice,run_underlying hT,Go.sizeOf,run_typeInfo w hi,n1,h0,h00,zeroValue,hzv,GC,newRow]
 refine⟨E,e,es,_,_,hT,he,rfl,ah,(Below.refl _ _).alloc (bf _) _,fun k hk=>by simp at hk;simp;omega,?_⟩;have iP:(PE.evs ρ es).length=len:=by rw[PE.evs_eq,gw,UF]
 have ahG:∀(i:Nat) (x:D),(PE.evs ρ es)[i]?=some x→∃v,Rep C.cap σ e v x∧∀q u,v.cells[q]?=some u→dv.toList[i*e.size+q]?=some u:=by
  intro i x hx;have vK:i<len:=by have:=(eh.1 hx).1;omega
  obtain⟨pe,CJ,eW⟩:=VI i vK;rw[aeW CJ] at hx;cases hx;unfold Gy at eW;split at eW
  ·rename_i p hp;have Wk:=xo hp;have HD:p.1=i:=by have:=JW hp;simpa using this
   obtain⟨_,t,pe',hu,cn,tP⟩:=nC p Wk;rw[HD,CJ] at tP;cases tP;have bM:=(cg h hC hg hu).sub cn;refine⟨_,bM,fun q u hq=>?_⟩;have HE:q<(a.eval p.2).cells.size:=(ga.1 hq).1;have:=f3 p.1 (a.eval p.2) (p.1*e.size) (eO.2 ⟨p,Wk,rfl⟩) (by simp[bM.size]) q HE;rw[HD] at this;simp[this,hq]
  ·rename_i hp;cases eW;refine⟨zv,C4,fun q u hq=>?_⟩;have HE:q<zv.cells.size:=(ga.1 hq).1
   have vS:i∉(ps.toList.map fun(x:Nat×Operand)=>(x.1,a.eval x.2)).map (·.1):=by
        intro cV;simp only[J2,eO,EU] at cV;obtain⟨x,zp,e⟩:=cV;have:=xl.1 hp x zp;simp[e] at this
   have:=f4 i (i*e.size) e.size vS rfl q (by omega);have h9:c0[i*e.size+q]?=zv.cells[q]?:=by
        simp only[c0];rw[←sd];exact XB (by omega) vK HE
   simp[this,h9,hq]
 have gU:∃vs:Nat→Value,∀(i:Nat) (x:D),(PE.evs ρ es)[i]?=some x→Rep C.cap σ e (vs i) x∧∀q u,(vs i).cells[q]?=some u→dv.toList[i*e.size+q]?=some u:=by
  have lP:∀i,∃v,∀x,(PE.evs ρ es)[i]?=some x→Rep C.cap σ e v x∧∀q u,v.cells[q]?=some u→dv.toList[i*e.size+q]?=some u:=by
   intro i;cases hx:(PE.evs ρ es)[i]? with
   |none=>exact⟨undef,fun x da=>by cases da⟩
   |some x=>
    obtain⟨v,hv⟩:=ahG i x hx;exact⟨v,fun y hy=>by cases hy;exact hv⟩
  exact⟨fun i=>Classical.choose (lP i),fun i x hx=>Tr (lP i) x hx⟩
 obtain⟨vs,gU⟩:=gU;have dE:dv.size=len*e.size:=by rw[f2,Cb]
 refine⟨dv.toList,PE.evs ρ es,by simp[Env.setO,aL],?_,⟨vs,fun i x hx=>(gU i x hx).1,fun i j u hi hj=>(gU i _ (bA hi)).2 j u hj⟩,fun k hk=>by rw[aL] at hk;simp[Value.ownBlock] at hk;simp[fc,hk]⟩;rw[aL,iP];have Mq:len≤maxLen:=by
  have:len*1≤len*e.size:=Nat.mul_le_mul_left _ h1;unfold maxLen;omega
 exact⟨by simp[dE],.inr ⟨w.heap.size,len,dv,rfl,h.below.size,heap_alloc_new w _,bf _,Mq,dE,by rw[AX (by simp[dE])]⟩⟩
theorem ad3 (h:Inv C S ρ σ own hv w0 σ0 A a w)(hC:CtxOK C σ0)(ht:¬A dst)(af:dst<a.tmps.size){T:TypeId}{len:Nat}{ps:Array (Nat×Operand)}{r:St×List PI}(hr:vq C S [] dst T len ps.toList=some r){o:Oper}(hd:o.dst=some dst)
 (ho:o.op=.buildSlice T len ps):bR C w0 σ0 Φ S ρ A a w o r:=by
 obtain⟨E,e,es,v,w',_,_,rfl,ah,hb,dm,cJ⟩:=Uu h hC rfl hr ho;refine bR.value hd fun ρ' qp=>⟨_,_,ah,?_⟩
 rw[Ax qp];exact h.mkObj ht af (.row E e) _ _ (fun k=>Nat.beq k w.heap.size) hb dm cJ
theorem Inv.kill (h:Inv C S ρ σ own hv w0 σ0 A a w)(j:Nat):Inv C (S.newO j .dead) ρ σ own hv w0 σ0 A a w:=by
 have dH:∀i,S.ver i≤(S.newO j .dead).ver i:=by
  intro i;show S.ver i≤bQ S.ver j (S.ver j+1) i;rw[eN];by_cases e:i=j
  ·subst e;simp
  ·simp[e]
 have hc:Compat S hv (S.newO j .dead) hv:=⟨dH,fun _ _=>rfl⟩
 refine h.step (·=j) rfl (.refl σ) h.ok (fun _ _ _ hx=>.inl hx) (fun _ _ hx=>.inl hx) (.refl _ _) hc (fun i hi=>⟨by simp[St.newO,bl _ _ hi],rfl,rfl,fun k hk=>⟨hk,rfl⟩⟩) (fun i hi=>?_) h.owns (fun _=>id) (fun t=>.inl ⟨rfl,rfl,rfl⟩) (fun _ _=>rfl) (fun _ _ _=>rfl) (fun k i hk=>.inl ⟨i,hk⟩) (fun i hi=>by subst hi;simp[St.newO,aL]);subst hi;simp only[St.newO,aL];trivial
theorem aej (h:Inv C S ρ σ own hv w0 σ0 A a w)(hC:CtxOK C σ0)(ht:¬A dst)(af:dst<a.tmps.size)(dF:∀g,g∈gs→A g.1)(hg:holds gs ρ=true){T:TypeId}{len:Nat}{ps:Array (Nat×Operand)}{r:St×List PI}(hr:yH C S gs dst T len ps.toList=some r){o:Oper}(hd:o.dst=some dst)
 (ho:o.op=.buildSlice T len ps):bR C w0 σ0 Φ S ρ A a w o r:=by
 unfold yH at hr;split at hr
 case h_2=>cases hr
 rename_i E q hT hq;simp only[au] at hr;obtain⟨e,he,hr⟩:=hr;obtain⟨E',e',es,v,w',yW,oQ,rfl,ah,hb,dm,cJ⟩:=Uu h hC hg hq ho;rw[hT] at yW;cases yW;rw[he] at oQ;cases oQ;cases hr;refine bR.value hd fun ρ' qp=>⟨_,_,ah,?_⟩
 have hρ:ρ'=ρ.setR dst (.list (PE.evs ρ es)):=by simp[PI.runs,PI.run,PE.ev] at qp;exact qp.symm
 subst hρ;have h1:=h.newO dst (.row E e) (.list (PE.evs ρ es)) v (fun k=>Nat.beq k w.heap.size) hb dm cJ;obtain⟨σ2,ix,_,h2⟩:=h1.fz dst;have Ck:(S.newO dst (.row E e)).fz dst=(S.newO dst (.row E e)).setO dst (.fz (.slice e.rol)):=by
  have:(S.newO dst (.row E e)).o dst=.row E e:=aL _ _ _;unfold St.fz;rw[this]
 rw[Ck] at h2;have aV:=h2.objs dst;have e1:((S.newO dst (.row E e)).setO dst (.fz (.slice e.rol))).o dst=.fz (.slice e.rol):=aL _ _ _;rw[e1] at aV;have bM:Rep C.cap σ2 (.slice e.rol) v (.list (PE.evs ρ es)):=by
  have:=aV.2
  rwa [aL,show(ρ.setO dst (.list (PE.evs ρ es))).o dst=.list (PE.evs ρ es) from aL _ _ _] at this
 have h3:Inv C (S.newO dst .dead) ρ σ2 ix (bQ hv dst v) w0 σ0 A a w':=by
  refine h2.step (·=dst) rfl (.refl σ2) h2.ok (fun _ _ _ hx=>.inl hx) (fun _ _ hx=>.inl hx) (.refl _ _) ⟨fun i=>bf _,fun _ _=>rfl⟩ (fun i hi=>⟨?_,?_,rfl,fun k hk=>⟨hk,rfl⟩⟩) (fun i hi=>?_) h2.owns (fun _=>id) (fun t=>.inl ⟨rfl,rfl,rfl⟩) (fun _ _=>rfl) (fun _ _ _=>rfl) (fun k i hk=>.inl ⟨i,hk⟩) (fun i hi=>by subst hi;simp[St.newO,aL])
  ·simp[St.newO,St.setO,bl _ _ hi]
  ·simp[Env.setO,bl _ _ hi]
  ·subst hi;simp only[St.newO,aL];trivial
 have hh:holds gs (ρ.setR dst (.list (PE.evs ρ es)))=true:=by rw[CG (t:=dst) fun g hm e=>ht (by rw[←e];exact dF g hm)];exact hg
 cases gs with
 |nil=>exact⟨_,_,_,h3.setReg ht (s:=.dat (.slice e.rol)) bM af (fun _ _ e=>by cases e)⟩
 |cons g bI=>
  refine⟨_,_,_,h3.setReg ht (s:=.opt (g::bI) (.dat (.slice e.rol))) ⟨fun _=>bM,fun e=>absurd (hh.symm.trans e) (by decide)⟩ af (fun gs s e=>?_)⟩;cases e;exact⟨dF,fun _ _ e=>by cases e⟩
end
end Cx
