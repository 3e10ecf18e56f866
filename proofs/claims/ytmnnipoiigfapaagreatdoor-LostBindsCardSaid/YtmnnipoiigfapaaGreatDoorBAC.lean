/-
  Shared texts of this claim.
-/
import Derived.Test.YtmnnipoiigfapaaGreatDoorBAB
import Derived.Laws.OwnMore
import Derived.Lib.ConvBytes
set_option linter.unusedSimpArgs false
set_option linter.unusedVariables false
namespace Cx
open Go Go.RowKit
def gy (b i:Nat):Nat:=4096*(i+1)+b
def St.fz (S:St)(j:Nat):St:=
 match S.o j with
 |.row _ e=>S.setO j (.fz (.slice e.rol))
 |.mp k e=>S.setO j (.fz (.map k e))
 |_=>S
def DJ (S:St)(b:Nat):Option (St×List PI):=
 match S.o b with
 |.box ag shs=>
  (re S (.o b) shs 0).bind fun x=>
    bif ag then some (S.setO b (.fbox (.agg x.1)),[.setO b (.mk x.2)])
    else match x.1,x.2 with
     |[t],[e]=>some (S.setO b (.fbox t),[.setO b e])
     |_,_=>Option.none
 |_=>Option.none
def St.mv (S:St)(j j':Nat):St:=
 {S with o:=bV (bV S.o j' (S.o j)) j .dead,ver:=bV (bV S.ver j' (S.ver j'+1)) j (S.ver j+1)}
def lb:Ob→Bool
 |.row ..=>true
 |.mp ..=>true
 |_=>false
def yo (S:St)(t j':Nat):Option (St×List PI):=
 match S.r t with
 |.obj j ver=>
  bif Nat.beq ver (S.ver j)&&lb (S.o j)&& !Nat.beq j j' then some ((S.mv j j').setR t (.obj j' (S.ver j'+1)),[.setO j' (.o j)])
  else some (S,[])
 |_=>some (S,[])
def Gq (S:St)(b i j':Nat):Option (St×List PI):=
 match S.o b with
 |.box ag shs=>
  match shs[i]? with
  |some (.obj j ver)=>
   bif Nat.beq ver (S.ver j)&&lb (S.o j)&& !Nat.beq j j'&& !Nat.beq b j'&& !Nat.beq b j then
    some ((S.mv j j').setO b (.box ag (shs.set i (.obj j' (S.ver j'+1)))),[.setO j' (.o j)])
   else some (S,[])
  |_=>some (S,[])
 |_=>some (S,[])
def Er (C:Ctx)(S:St)(b i j:Nat)(T:TypeId):Option (St×List PI):=
 match S.o b with
 |.box ag shs=>
  match shs[i]?,pk C.P T with
  |some (.dat (.nils _)),some e=>
   bif !Nat.beq b j then some ((S.newO j (.row T e)).setO b (.box ag (shs.set i (.obj j (S.ver j+1)))),[.setO j (.con (.list []))])
   else some (S,[])
  |_,_=>some (S,[])
 |_=>some (S,[])
section
variable {C:Ctx} {S:St} {ρ:Env} {σ:Im} {own:Nat→Option Nat} {hv:Nat→Value} {w0:World} {σ0:Base} {A:Nat→Prop} {a:Act} {w:World} {gs:List (Nat×Bool)} {Φ:aR} {dst:Nat}
theorem Inv.lt (h:Inv C S ρ σ own hv w0 σ0 A a w){k o:Nat}{u:Value}(hc:σ.c k o=some u):k<w.heap.size:=World.block_lt_of_cell? w (a:=⟨k,o,none⟩) (h.ok.c _ _ _ hc)
theorem Inv.ltm (h:Inv C S ρ σ own hv w0 σ0 A a w){k:Nat}{es:List (Value×Value)}(hc:σ.m k=some es):k<w.heap.size:=by
 exact(h.ok.m _ _ hc).lt
theorem Im.ok.below {σ:Im}{w w':World}(h:σ.ok w)(hb:Below w.heap.size w w'):σ.ok w':=by
 refine⟨fun k o v hc=>?_,fun k es hc=>?_⟩
 ·have h1:=h.c k o v hc;rw[hb.cell (World.block_lt_of_cell? w (a:=⟨k,o,none⟩) h1)];exact h1
 ·exact(h.m k es hc).keep (hb.block k (h.m k es hc).lt)
def fy (own:Nat→Option Nat)(j:Nat)(nb:Nat→Bool):Nat→Option Nat:=fun k=>if nb k then some j else if own k=some j then none else own k
theorem Inv.newOσ (h:Inv C S ρ σ own hv w0 σ0 A a w)(j:Nat)(ob:Ob)(d:D)(v:Value)(nb:Nat→Bool){σ':Im}{w':World}(hle:σ.le σ')(aD:σ'.ok w')(cX:∀k o x,σ'.c k o=some x→σ.c k o=some x∨w.heap.size≤k)(cM:∀k x,σ'.m k=some x→σ.m k=some x∨w.heap.size≤k)
 (hw:Below w.heap.size w w') (dx:∀k,nb k=true→w.heap.size≤k∧k<w'.heap.size) (da:∀k,nb k=true→(∀o,σ'.c k o=none)∧σ'.m k=none)
 (cN:cg C (S.newO j ob) (ρ.setO j d) σ' (fy own j nb) (bV hv j v) w' w0.heap.size j ob) (nr:ob≠.tr:=by intro h;cases h):Inv C (S.newO j ob) (ρ.setO j d) σ' (fy own j nb) (bV hv j v) w0 σ0 A a w':=by
 have aI:w0.heap.size≤w.heap.size:=h.below.size;have cd:∀k i,i≠j→own k=some i→fy own j nb k=some i:=by
  intro k i hi hk;have h1:=h.owns k i hk;have h2:nb k=false:=by
   cases hn:nb k with
   |false=>rfl
   |true=>have:=dx k hn;omega
  simp[fy,h2,hk,hi]
 refine h.step (fun i=>i=j) rfl hle aD (fun k o x hx=>(cX k o x hx).imp id fun e=>⟨by omega,.inr e⟩) (fun k x hx=>(cM k x hx).imp id fun e=>⟨by omega,.inr e⟩) (hw.mono aI) ⟨fun i=>?_,fun i e=>?_⟩ (fun i hi=>⟨?_,?_,?_,fun k hk=>⟨cd k i hi hk,?_⟩⟩) (fun i hi=>?_) (fun k i hk=>?_) (fun _=>id) (fun t=>.inl ⟨rfl,rfl,rfl⟩) (fun _ _=>rfl) (fun k hk _=>hw.block k hk) (fun k i hk=>by
  unfold fy at hk;split at hk
  ·rename_i hn;exact .inr (dx k hn).1
  ·split at hk
   ·cases hk
   ·exact .inl ⟨i,hk⟩) (fun i hi=>by subst hi;simpa only[St.newO,aK] using nr)
 ·simp only[St.newO,eZ];split<;>rename_i e
  ·subst e;omega
  ·omega
 ·simp only[St.newO,eZ] at e;split at e
  ·rename_i e';subst e';omega
  ·rename_i aE;exact br _ _ aE
 ·simp[St.newO,br _ _ hi]
 ·simp[Env.setO,br _ _ hi]
 ·exact br _ _ hi
 ·exact hw.block k (h.owns k i hk).2.1
 ·subst hi;simp only[St.newO,aK];exact cN
 ·unfold fy at hk;split at hk
  ·rename_i hn;obtain⟨g1,g2⟩:=dx k hn;exact⟨by omega,g2,(da k hn).1,(da k hn).2⟩
  ·split at hk
   ·cases hk
   ·obtain⟨g1,g2,g3,g4⟩:=h.owns k i hk;refine⟨g1,by have:=hw.size;omega,fun o=>?_,?_⟩
    ·cases hc:σ'.c k o with
     |none=>rfl
     |some u=>
      rcases cX k o u hc with e|e
      ·rw[g3 o] at e;cases e
      ·omega
    ·cases hc:σ'.m k with
     |none=>rfl
     |some u=>
      rcases cM k u hc with e|e
      ·rw[g4] at e;cases e
      ·omega
theorem Inv.newO (h:Inv C S ρ σ own hv w0 σ0 A a w)(j:Nat)(ob:Ob)(d:D)(v:Value)(nb:Nat→Bool){w':World}(hw:Below w.heap.size w w')(dx:∀k,nb k=true→w.heap.size≤k∧k<w'.heap.size)
 (cN:cg C (S.newO j ob) (ρ.setO j d) σ (fy own j nb) (bV hv j v) w' w0.heap.size j ob) (nr:ob≠.tr:=by intro h;cases h):Inv C (S.newO j ob) (ρ.setO j d) σ (fy own j nb) (bV hv j v) w0 σ0 A a w':=by
 refine h.newOσ j ob d v nb (.refl σ) (h.ok.below hw) (fun _ _ _ hx=>.inl hx) (fun _ _ hx=>.inl hx) hw dx (fun k hn=>⟨fun o=>?_,?_⟩) cN nr
 ·cases hc:σ.c k o with
  |none=>rfl
  |some u=>have:=h.lt hc;have:=(dx k hn).1;omega
 ·cases hc:σ.m k with
  |none=>rfl
  |some u=>have:=h.ltm hc;have:=(dx k hn).1;omega
theorem Inv.setObj (h:Inv C S ρ σ own hv w0 σ0 A a w){t j:Nat}(ht:¬A t){v:Value}(eL:hv j=v)(af:t<a.tmps.size):
 Inv C (S.setR t (.obj j (S.ver j))) (ρ.setR t .none) σ own hv w0 σ0 (fun u=>A u∨u=t) (a.put (some t) v) w:=
 h.setReg ht (s:=.obj j (S.ver j)) (v:=v) (d:=.none) ⟨bl _,fun _=>eL.symm⟩ af (fun _ _ e=>by cases e)
theorem I2 (S:St)(j:Nat):(S.fz j).ver=S.ver∧(S.fz j).r=S.r:=by
 unfold St.fz;split<;>exact⟨rfl,rfl⟩
theorem Inv.fz (h:Inv C S ρ σ own hv w0 σ0 A a w)(j:Nat):∃σ' own',σ.le σ'∧Inv C (S.fz j) ρ σ' own' hv w0 σ0 A a w:=by
 have bh:=h.objs j;unfold St.fz;split
 ·rename_i T e eo;rw[eo] at bh;obtain⟨cells,xs,h1,h2,⟨vs,h3,h4⟩,h5⟩:=bh;have aI:w0.heap.size≤w.heap.size:=h.below.size
  let nb:Nat→Bool:=fun k=>decide ((hv j).ownBlock=some k)
  let σ':Im:={c:=fun k o=>if nb k then cells[o]? else σ.c k o,m:=σ.m}
  have dx:∀k,nb k=true→own k=some j:=fun k hk=>h5 k (by simpa [nb] using hk);have hle:σ.le σ':=by
   refine⟨fun k o v hc=>?_,fun k es hc=>hc⟩;have:nb k=false:=by
        cases hn:nb k with
        |false=>rfl
        |true=>have:=(h.owns k j (dx k hn)).2.2.1 o;rw[this] at hc;cases hc
   simp[σ',this,hc]
  refine⟨σ',fun k=>if nb k then none else own k,hle,h.step (fun i=>i=j) rfl hle ?_ (fun k o x hx=>?_) (fun _ _ hx=>.inl hx) (.refl _ _) ⟨fun _=>bl _,fun _ _=>rfl⟩ (fun i hi=>⟨?_,rfl,rfl,fun k hk=>⟨?_,rfl⟩⟩) (fun i hi=>?_) (fun k i hk=>?_) (fun _=>id) (fun t=>.inl ⟨rfl,rfl,rfl⟩) (fun _ _=>rfl) (fun _ _ _=>rfl) (fun k i hk=>by
        split at hk
        ·cases hk
        ·exact .inl ⟨i,hk⟩) (fun i hi=>by subst hi;simp[St.setO,aK])⟩
  ·refine⟨fun k o v hc=>?_,h.ok.m⟩;simp only[σ'] at hc;split at hc
   ·rename_i hn;have cN:(hv j).ownBlock=some k:=by simpa [nb] using hn
    have:=h2.cells cN o v hc;rw[sQ] at this;simpa using this
   ·exact h.ok.c k o v hc
  ·simp only[σ'] at hx;split at hx
   ·rename_i hn;exact .inr ⟨(h.owns k j (dx k hn)).1,.inl ⟨j,dx k hn⟩⟩
   ·exact .inl hx
  ·simp[St.setO,br _ _ hi]
  ·have:nb k=false:=by
        cases hn:nb k with
        |false=>rfl
        |true=>rw[dx k hn] at hk;simp at hk;exact absurd hk.symm hi
   simp[this,hk]
  ·subst hi;simp only[St.setO,aK];refine⟨rfl,?_⟩;rw[h1];rcases h2.2 with⟨e1,e2⟩|⟨g,cap,cur,e1,e2,e3,e4,e5,e6,e7⟩
   ·rw[e1];have:xs=[]:=Mp e2;subst this;exact .nil _
   ·rw[e1];refine .slice e.rol g 0 xs.length cap xs vs rfl e4 e5 (fun i x hx=>((h3 i x hx).mono hle).unf_rol) (fun i m u hi hu=>?_);rw[Ty.rol_size];have hn:nb g=true:=by simp[nb,e1,Value.ownBlock]
    simp only[σ',hn,if_true,gI];exact h4 i m u hi hu
  ·split at hk
   ·cases hk
   ·rename_i hn;obtain⟨g1,g2,g3,g4⟩:=h.owns k i hk;exact⟨g1,g2,fun o=>by simp[σ',hn,g3 o],g4⟩
 ·rename_i kt et eo;rw[eo] at bh;obtain⟨k0,arr,clock,fI,h1,h2,h3,h4,h5,⟨hx,_⟩,h6⟩:=bh;have aI:w0.heap.size≤w.heap.size:=h.below.size
  let σ':Im:={c:=σ.c,m:=fun k=>if k=k0 then some (entriesOf arr) else σ.m k}
  have hle:σ.le σ':=by
   refine⟨fun k o v hc=>hc,fun k es hc=>?_⟩;have:k≠k0:=fun e=>by subst e;rw[(h.owns k j h2).2.2.2] at hc;cases hc
   simp[σ',this,hc]
  refine⟨σ',fun k=>if k=k0 then none else own k,hle,h.step (fun i=>i=j) rfl hle ?_ (fun k o x hx=>.inl hx) (fun k x hx=>?_) (.refl _ _) ⟨fun _=>bl _,fun _ _=>rfl⟩ (fun i hi=>⟨?_,rfl,rfl,fun k hk=>⟨?_,rfl⟩⟩) (fun i hi=>?_) (fun k i hk=>?_) (fun _=>id) (fun t=>.inl ⟨rfl,rfl,rfl⟩) (fun _ _=>rfl) (fun _ _ _=>rfl) (fun k i hk=>by
        split at hk
        ·cases hk
        ·exact .inl ⟨i,hk⟩) (fun i hi=>by subst hi;simp[St.setO,aK])⟩
  ·refine⟨h.ok.c,fun k es hc=>?_⟩;simp only[σ'] at hc;split at hc
   ·rename_i e;subst e;cases hc;refine .inl ⟨fun e=>?_,arr,clock,h3,rfl⟩;refine EX (cap:=C.cap) (σ:=σ) (kt:=kt) (es:=fI) (by simp[entriesOf,h5]) (fun i p q hp hq=>?_) e;simp only[entriesOf,cB,aC] at hp;obtain⟨x,dg,rfl⟩:=hp;exact(h6 i x q (by simpa using dg) hq).1
   ·exact h.ok.m k es hc
  ·simp only[σ'] at hx;split at hx
   ·rename_i e;subst e;exact .inr ⟨(h.owns k j h2).1,.inl ⟨j,h2⟩⟩
   ·exact .inl hx
  ·simp[St.setO,br _ _ hi]
  ·have:k≠k0:=fun e=>by subst e;rw[h2] at hk;simp at hk;exact hi hk.symm
   simp[this,hk]
  ·subst hi;simp only[St.setO,aK];refine⟨rfl,?_⟩;rw[h1,h4];refine .map kt et k0 (entriesOf arr) fI (by simp[σ']) (by simp[entriesOf,h5]) hx (fun i p q hp hq=>?_) (fun i p q hp hq=>?_)
   ·simp only[entriesOf,cB,aC] at hp;obtain⟨e,he,rfl⟩:=hp;exact((h6 i e q (by simpa using he) hq).1).mono hle
   ·simp only[entriesOf,cB,aC] at hp;obtain⟨e,he,rfl⟩:=hp;exact((h6 i e q (by simpa using he) hq).2).mono hle
  ·split at hk
   ·cases hk
   ·rename_i hn;obtain⟨g1,g2,g3,g4⟩:=h.owns k i hk;exact⟨g1,g2,g3,by simp[σ',hn,g4]⟩
 ·exact⟨σ,own,.refl σ,h⟩
end
end Cx
namespace Cx
open Go Go.RowKit
section
variable {C:Ctx} {S:St} {ρ:Env} {σ:Im} {own:Nat→Option Nat} {hv:Nat→Value} {w0:World} {σ0:Base} {A:Nat→Prop} {a:Act} {w:World} {gs:List (Nat×Bool)} {Φ:aR} {dst:Nat}
theorem sm {j:Nat}{e:PE}{ρ':Env}(h:PI.runs Φ [.setO j e] ρ=some ρ'):ρ'=ρ.setO j (e.ev ρ):=by
 simp[PI.runs,PI.run] at h;exact h.symm
theorem nQ {ρ':Env}(h:PI.runs Φ [] ρ=some ρ'):ρ'=ρ:=by
 simp[PI.runs] at h;exact h.symm
def Cr (C:Ctx)(w0:World)(σ0:Base)(Φ:aR)(S:St)(ρ:Env)(A:Nat→Prop)(a:Act)(w:World)(r:St×List PI):Prop:=
 ∀ρ',PI.runs Φ r.2 ρ=some ρ'→Good C w0 σ0 r.1 ρ' A a w
theorem akM (h:Inv C S ρ σ own hv w0 σ0 A a w){b:Nat}{r:St×List PI}(hr:DJ S b=some r):Cr C w0 σ0 Φ S ρ A a w r:=by
 unfold DJ at hr;split at hr
 case h_2=>cases hr
 rename_i ag shs eo;simp only[av] at hr;obtain⟨x,hx,hr⟩:=hr;have bh:=h.objs b;rw[eo] at bh;obtain⟨k,cs,T,ds,h1,h2,h3,h4,h5,h6,h7⟩:=bh;obtain⟨l1,es,⟨he,qk⟩,l2,bS⟩:=NQ (b:=.o b) h (cs:=cs.toList) h5 shs 0 x (fun m s hm=>by rw[Aq,gI];exact(h7 m s hm).2) hx
 let σ':Im:={c:=fun k' o=>if k'=k then cs[o]? else σ.c k' o,m:=σ.m}
 have hle:σ.le σ':=by
  refine⟨fun k' o v hc=>?_,fun k es hc=>hc⟩;have:k'≠k:=fun e=>by subst e;rw[(h.owns k' b h2).2.2.1 o] at hc;cases hc
  simp[σ',this,hc]
 have key:∀(t:Ty) (v:Value) (d:D),Rep C.cap σ' t v d→(∀(i:Nat) (u:Value),v.cells[i]?=some u→cs[i]?=some u)→
  Inv C (S.setO b (.fbox t)) (ρ.setO b d) σ' (fun k'=>if k'=k then none else own k') hv w0 σ0 A a w:=by
  intro t v d hrv ba
  refine h.step (fun i=>i=b) rfl hle ?_ (fun k' o x hx=>?_) (fun _ _ hx=>.inl hx) (.refl _ _) ⟨fun _=>bl _,fun _ _=>rfl⟩ (fun i hi=>⟨?_,?_,rfl,fun k' hk=>⟨?_,rfl⟩⟩) (fun i hi=>?_) (fun k' i hk=>?_) (fun _=>id) (fun t=>.inl ⟨rfl,rfl,rfl⟩) (fun _ _=>rfl) (fun _ _ _=>rfl) (fun k' i hk=>by
        split at hk
        ·cases hk
        ·exact .inl ⟨i,hk⟩) (fun i hi=>by subst hi;simp[St.setO,aK])
  ·refine⟨fun k' o v hc=>?_,h.ok.m⟩;simp only[σ'] at hc;split at hc
   ·rename_i e;subst e;simp[World.cell?,h3,hc]
   ·exact h.ok.c k' o v hc
  ·simp only[σ'] at hx;split at hx
   ·rename_i e;subst e;exact .inr ⟨(h.owns k' b h2).1,.inl ⟨b,h2⟩⟩
   ·exact .inl hx
  ·simp[St.setO,br _ _ hi]
  ·simp[Env.setO,br _ _ hi]
  ·have:k'≠k:=fun e=>by subst e;rw[h2] at hk;simp at hk;exact hi hk.symm
   simp[this,hk]
  ·subst hi;simp only[St.setO,aK];exact⟨k,v,h1,by simp only[Env.setO,aK];exact hrv,fun i u hu=>by simp[σ',ba i u hu]⟩
  ·split at hk
   ·cases hk
   ·rename_i hn;obtain⟨g1,g2,g3,g4⟩:=h.owns k' i hk;exact⟨g1,g2,fun o=>by simp[σ',hn,g3 o],g4⟩
 have iP:∀(m:Nat) (t:Ty),x.1[m]?=some t→t.one=true∧Rep C.cap σ' t (cs.toList.getD m undef) (es.getD m .none):=fun m t hm=>by
  obtain⟨g1,g2⟩:=bS m t hm;rw[gI] at g2;exact⟨g1,g2.mono hle⟩
 intro ρ' ak;cases ag with
 |true=>
  simp only[cond_true] at hr;cases hr;have:=sm ak;subst this;refine⟨_,_,_,key (.agg x.1) (.agg cs.toList.toArray) _ ?_ (fun i u hu=>by simpa [Value.cells] using hu)⟩;simp only[PE.ev,he];exact .agg _ _ _ (by simp;omega) (by omega) (fun m t hm=>(iP m t hm).2) (fun m t hm=>(iP m t hm).1)
 |false=>
  simp only[cond_false] at hr;split at hr
  ·rename_i t e et ee;cases hr;have:=sm ak;subst this;obtain⟨g1,g2⟩:=iP 0 t (by rw[et];rfl);have jo:es=[e.ev ρ]:=by rw[←qk,ee];rfl
   subst jo;refine⟨_,_,_,key t (cs.toList.getD 0 undef) _ (by simpa using g2) (fun i u hu=>?_)⟩;rw[(g2.oneCell g1).1] at hu;have hi:i=0:=by
        have:=(gp.1 hu).1;simpa using this
   subst hi;simp at hu;subst hu;have:0<cs.size:=by rw[h4];rw[et] at l1;simp at l1;omega
   rw[fF this];simp[aJ,fF this]
  ·cases hr
theorem Inv.mv (h:Inv C S ρ σ own hv w0 σ0 A a w){j j':Nat}(aE:j≠j')(hk:lb (S.o j)=true):
 Inv C (S.mv j j') (ρ.setO j' (ρ.o j)) σ (fun k=>if own k=some j then some j' else if own k=some j' then none else own k) (bV hv j' (hv j)) w0 σ0 A a w:=by
 have bh:=h.objs j
 refine h.step (fun i=>i=j∨i=j') rfl (.refl σ) h.ok (fun _ _ _ hx=>.inl hx) (fun _ _ hx=>.inl hx) (.refl _ _) ⟨fun i=>?_,fun i e=>?_⟩ (fun i hi=>?_) (fun i hi=>?_) (fun k i hk=>?_) (fun _=>id) (fun t=>.inl ⟨rfl,rfl,rfl⟩) (fun _ _=>rfl) (fun _ _ _=>rfl) (fun k i hk=>by
        split at hk
        ·rename_i e;exact .inl ⟨j,e⟩
        ·split at hk
         ·cases hk
         ·exact .inl ⟨i,hk⟩) (fun i hi=>by
        rcases hi with rfl|rfl
        ·simp[St.mv,aK]
        ·simp only[St.mv,br _ _ (qX aE),aK];intro e;rw[e] at hk;cases hk)
 ·simp only[St.mv,eZ];split
  ·rename_i e;subst e;omega
  ·split
   ·rename_i e;subst e;omega
   ·omega
 ·simp only[St.mv,eZ] at e;split at e
  ·rename_i e';subst e';omega
  ·split at e
   ·rename_i e';subst e';omega
   ·rename_i Ph;exact br _ _ Ph
 ·simp only[not_or] at hi;refine⟨by simp[St.mv,br _ _ hi.1,br _ _ hi.2],by simp[Env.setO,br _ _ hi.2],br _ _ hi.2,fun k hk=>⟨?_,rfl⟩⟩;have e1:i≠j:=hi.1;have e2:i≠j':=hi.2;simp[hk,e1,e2]
 ·rcases hi with rfl|rfl
  ·simp only[St.mv,aK];trivial
  ·simp only[St.mv,br _ _ (qX aE),aK];cases cN:S.o j with
   |row T e=>
    rw[cN] at bh;obtain⟨cells,xs,h1,h2,h3,h4⟩:=bh;refine⟨cells,xs,by simp only[Env.setO,aK];exact h1,by rw[aK];exact h2,h3,fun k hk=>?_⟩;rw[aK] at hk;simp[h4 k hk]
   |mp kt et=>
    rw[cN] at bh;obtain⟨k0,arr,clock,es,h1,h2,h3,h4,h5,h6⟩:=bh;exact⟨k0,arr,clock,es,by rw[aK];exact h1,by simp[h2],h3,by simp only[Env.setO,aK];exact h4,h5,h6⟩
   |_=>rw[cN] at hk;simp[lb] at hk
 ·split at hk
  ·rename_i e;exact h.owns k j e
  ·split at hk
   ·cases hk
   ·exact h.owns k i hk
theorem asW (h:Inv C S ρ σ own hv w0 σ0 A a w){t j':Nat}{r:St×List PI}(hr:yo S t j'=some r):Cr C w0 σ0 Φ S ρ A a w r:=by
 intro ρ' ak;unfold yo at hr;split at hr
 ·rename_i j ver es;cases hb:(Nat.beq ver (S.ver j)&&lb (S.o j)&& !Nat.beq j j')<;>simp only[hb,cond_true,cond_false] at hr
  ·cases hr;rw[nQ ak];exact⟨_,_,_,h⟩
  ·cases hr;simp only[aq,iy] at hb;have dP:=aB hb.1.1;have aE:j≠j':=fun e=>by subst e;simp at hb
   have lJ:=h.mv aE hb.1.2;have gg:=h.regs t;rw[es] at gg;have cq:=gg.2 dP;rw[sm ak];refine⟨_,_,_,lJ.step (S':=(S.mv j j').setR t (.obj j' (S.ver j'+1))) (fun _=>False) rfl (.refl σ) lJ.ok (fun _ _ _ hx=>.inl hx) (fun _ _ hx=>.inl hx) (.refl _ _) ⟨fun _=>bl _,fun _ _=>rfl⟩ (fun i _=>⟨rfl,rfl,rfl,fun k hk=>⟨hk,rfl⟩⟩) (fun _ hf=>hf.elim) lJ.owns (fun _=>id) (fun u=>?_) (fun _ _=>rfl) (fun _ _ _=>rfl) (fun k i hk=>.inl ⟨i,hk⟩) (fun _ hf=>hf.elim)⟩;by_cases hu:u=t
   ·subst hu;refine .inr ⟨?_,fun gs s e=>by simp[St.setR,aK] at e⟩;simp only[St.setR,aK];refine⟨?_,fun _=>?_⟩
    ·simp[St.mv,br _ _ (qX aE),aK]
    ·rw[aK];exact cq
   ·exact .inl ⟨by simp[St.setR,br _ _ hu],rfl,rfl⟩
 ·cases hr;rw[nQ ak];exact⟨_,_,_,h⟩
theorem asV (h:Inv C S ρ σ own hv w0 σ0 A a w){b i j':Nat}{r:St×List PI}(hr:Gq S b i j'=some r):Cr C w0 σ0 Φ S ρ A a w r:=by
 intro ρ' ak;unfold Gq at hr;split at hr
 ·rename_i ag shs eo;split at hr
  ·rename_i j ver es;cases hb:(Nat.beq ver (S.ver j)&&lb (S.o j)&& !Nat.beq j j'&& !Nat.beq b j'&& !Nat.beq b j)<;>simp only[hb,cond_true,cond_false] at hr
   ·cases hr;rw[nQ ak];exact⟨_,_,_,h⟩
   ·cases hr;simp only[aq,iy] at hb;have dP:=aB hb.1.1.1.1;have aE:j≠j':=fun e=>by subst e;simp at hb
    have gL:b≠j':=fun e=>by subst e;simp at hb
    have de:b≠j:=fun e=>by subst e;simp at hb
    have bh:=h.objs b;rw[eo] at bh;obtain⟨k,cs,T,ds,h1,h2,h3,h4,h5,h6,h7⟩:=bh;have cq:=(h7 i _ es).2.2 dP;have lJ:=h.mv aE hb.1.1.1.2;rw[sm ak];have Od:(S.mv j j').o b=.box ag shs:=by simp[St.mv,br _ _ gL,br _ _ de,eo]
    have Eo:=lJ.objs b;rw[Od] at Eo;refine⟨_,_,_,lJ.step (S':=(S.mv j j').setO b (.box ag (shs.set i (.obj j' (S.ver j'+1))))) (fun m=>m=b) rfl (.refl σ) lJ.ok (fun _ _ _ hx=>.inl hx) (fun _ _ hx=>.inl hx) (.refl _ _) ⟨fun _=>bl _,fun _ _=>rfl⟩ (fun m hm=>⟨by simp[St.setO,br _ _ hm],rfl,rfl,fun k hk=>⟨hk,rfl⟩⟩) (fun m hm=>?_) lJ.owns (fun _=>id) (fun t=>.inl ⟨rfl,rfl,rfl⟩) (fun _ _=>rfl) (fun _ _ _=>rfl) (fun k i hk=>.inl ⟨i,hk⟩) (fun m hm=>by subst hm;simp[St.setO,aK])⟩;subst hm;rw[St.setO_o];obtain⟨k1,Da,T1,Df,g1,g2,g3,g4,g5,g6,g7⟩:=Eo;have e1:Da=cs:=by
     rw[br _ _ gL,h1] at g1;cases g1;rw[h3] at g3;cases g3;rfl
    refine⟨k1,Da,T1,Df,g1,g2,g3,by simpa using g4,g5,by simpa using g6,fun q x hq=>?_⟩;rw[Ct] at hq;split at hq
    ·rename_i e;subst e;split at hq
     ·cases hq;refine⟨(fun _ _ e=>by cases e),?_,fun _=>?_⟩
      ·simp[St.setO,St.mv,br _ _ (qX aE),aK]
      ·rw[aK,e1];exact cq
     ·cases hq
    ·obtain⟨f1,f2⟩:=g7 q x hq;exact⟨f1,f2.mono' (.refl σ) (Compat.setO _ _ _ _) f1⟩
  ·cases hr;rw[nQ ak];exact⟨_,_,_,h⟩
 ·cases hr;rw[nQ ak];exact⟨_,_,_,h⟩
theorem am2 (h:Inv C S ρ σ own hv w0 σ0 A a w){b i j:Nat}{T:TypeId}{r:St×List PI}(hr:Er C S b i j T=some r):Cr C w0 σ0 Φ S ρ A a w r:=by
 intro ρ' ak;unfold Er at hr;split at hr
 ·rename_i ag shs eo;split at hr
  ·rename_i e0 e es et;cases hb:(!Nat.beq b j)<;>simp only[hb,cond_true,cond_false] at hr
   ·cases hr;rw[nQ ak];exact⟨_,_,_,h⟩
   ·cases hr;have aE:b≠j:=fun e=>by subst e;simp at hb
    have bh:=h.objs b;rw[eo] at bh;obtain⟨k,cs,T0,ds,h1,h2,h3,h4,h5,h6,h7⟩:=bh;have cq:cs.getD i undef=.slice none 0 0:=by
     have:=(h7 i _ es).2;generalize cs.getD i undef=v at this;generalize ds.getD i .none=d at this;cases this;rfl
    have lL:=h.newO j (.row T e) (.list []) (.slice none 0 0) (fun _=>false) (.refl _ _) (by simp) ⟨[],[],by simp[Env.setO,aK],by rw[aK];exact World.ownsRow_nil _ _ _ _,⟨fun _=>undef,by simp,by simp⟩,by rw[aK];simp[Value.ownBlock]⟩;rw[sm ak];have Od:(S.newO j (.row T e)).o b=.box ag shs:=by simp[St.newO,br _ _ aE,eo]
    have Eo:=lL.objs b;rw[Od] at Eo;refine⟨_,_,_,lL.step (S':=(S.newO j (.row T e)).setO b (.box ag (shs.set i (.obj j (S.ver j+1))))) (fun m=>m=b) rfl (.refl σ) lL.ok (fun _ _ _ hx=>.inl hx) (fun _ _ hx=>.inl hx) (.refl _ _) ⟨fun _=>bl _,fun _ _=>rfl⟩ (fun m hm=>⟨by simp[St.setO,br _ _ hm],rfl,rfl,fun k hk=>⟨hk,rfl⟩⟩) (fun m hm=>?_) lL.owns (fun _=>id) (fun t=>.inl ⟨rfl,rfl,rfl⟩) (fun _ _=>rfl) (fun _ _ _=>rfl) (fun k i hk=>.inl ⟨i,hk⟩) (fun m hm=>by subst hm;simp[St.setO,aK])⟩;subst hm;rw[St.setO_o];obtain⟨k1,Da,T1,Df,g1,g2,g3,g4,g5,g6,g7⟩:=Eo;have e1:Da=cs:=by
     rw[br _ _ aE,h1] at g1;cases g1;rw[h3] at g3;cases g3;rfl
    refine⟨k1,Da,T1,Df,g1,g2,g3,by simpa using g4,g5,by simpa using g6,fun q x hq=>?_⟩;rw[Ct] at hq;split at hq
    ·rename_i e';subst e';split at hq
     ·cases hq;refine⟨(fun _ _ e=>by cases e),?_,fun _=>?_⟩
      ·simp[St.setO,St.newO,aK]
      ·rw[aK,e1];exact cq
     ·cases hq
    ·obtain⟨f1,f2⟩:=g7 q x hq;exact⟨f1,f2.mono' (.refl σ) (Compat.setO _ _ _ _) f1⟩
  ·cases hr;rw[nQ ak];exact⟨_,_,_,h⟩
 ·cases hr;rw[nQ ak];exact⟨_,_,_,h⟩
end
end Cx
namespace Cx
open Go Go.RowKit
def mkObj (S:St)(dst:Nat)(ob:Ob):St:=(S.newO dst ob).setR dst (.obj dst (S.ver dst+1))
def mkPtr (S:St)(dst:Nat)(ob:Ob):St:=(S.newO dst ob).setR dst (.ptr dst (S.ver dst+1) 0)
abbrev kM:=Option (St×List PI)
def Dr (C:Ctx)(S:St)(dst:Nat)(T:TypeId)(x:Operand):kM:=
 match use C S [] x,C.P.underlying T with
 |some (.nils _,_),some (.slice E)=>(pk C.P E).map fun e=>(mkObj S dst (.row E e),[.setO dst (.con (.list [])),.setR dst (.con .none)])
 |_,_=>Option.none
def Dg (C:Ctx)(S:St)(dst:Nat)(T:TypeId):kM:=
 match pk C.P T,C.P.info? T,qp C.P T with
 |some t,some inf,some ag=>
  bif uo inf t&&(t.rowT||t.one) then
   (po t).map fun z=>(mkPtr S dst (.box ag (z.1.flat.map .dat)),[.setO dst (.con (.agg z.2.cells)),.setR dst (.con .none)])
  else Option.none
 |_,_,_=>Option.none
def Di (C:Ctx)(S:St)(dst:Nat)(T:TypeId)(x:Operand):kM:=
 match use C S [] x,qp C.P T with
 |some (t,e),some ag=>
  bif t.rowT||t.one then some (mkPtr S dst (.box ag (t.flat.map .dat)),[.setO dst (.mk [e]),.setR dst (.con .none)]) else Option.none
 |Option.none,some true=>
  match fC S [] x with
  |.agg l=>some (mkPtr S dst (.box true (l.map AgC.sh)),[.setO dst (sk x),.setR dst (.con .none)])
  |_=>Option.none
 |_,_=>Option.none
def Dn (C:Ctx)(S:St)(dst:Nat)(T:TypeId)(r:Option Operand):kM:=
 match C.P.underlying T,r with
 |some (.map K E),Option.none=>
  (pk C.P K).bind fun kt=>(pk C.P E).map fun et=>(mkObj S dst (.mp kt et),[.setO dst (.con (.map [])),.setR dst (.con .none)])
 |_,_=>Option.none
def Dp (C:Ctx)(S:St)(dst:Nat)(T:TypeId)(l c:Operand):kM:=
 match C.P.underlying T,use C S [] l,use C S [] c with
 |some (.slice E),some (.int _,n),some (.int _,m)=>
  (pk C.P E).bind fun e=>
    bif rk C.P E e then
     (po e).bind fun z=>
        bif Ty.sub z.1 e then some (mkObj S dst (.row E e),[.chk (Qm n),.chk (.ci .eql n m),.setO dst (.rep n (.con z.2)),.setR dst (.con .none)]) else Option.none
    else Option.none
 |_,_,_=>Option.none
def Ds (C:Ctx)(S:St)(dst:Nat)(T:TypeId)(x:Operand):kM:=
 match C.P.underlying T,fC S [] x with
 |some (.map _ _),.obj j ver=>
  bif Nat.beq ver (S.ver j)&& !Nat.beq j dst then
   match S.o j with
   |.mp kt et=>some (mkObj (S.mv j dst) dst (.it kt et),[.setO dst (.tup [.lst [],.o j]),.setR dst (.con .none)])
   |_=>Option.none
  else Option.none
 |_,_=>Option.none
def Dj (C:Ctx)(S:St)(dst:Nat)(s d:TypeId)(x:Operand):kM:=
 match use C S [] x,C.P.underlying s,C.P.underlying d with
 |some (.str,e),some .string,some (.slice E)=>
  (match C.P.underlying E with
   |some (.int .u8)=>some (S.setR dst (.dat (.slice (.int .u8))),[.chk (.ci .leq (.slen e) (.con (.int nD))),.setR dst (.bytes e)])
   |_=>Option.none)
 |_,_,_=>Option.none
section
variable {C:Ctx} {S:St} {ρ:Env} {σ:Im} {own:Nat→Option Nat} {hv:Nat→Value} {w0:World} {σ0:Base} {A:Nat→Prop} {a:Act} {w:World} {gs:List (Nat×Bool)} {Φ:aR} {dst:Nat}
def bW (C:Ctx)(w0:World)(σ0:Base)(Φ:aR)(S:St)(ρ:Env)(A:Nat→Prop)(a:Act)(w:World)(o:Oper)(r:St×List PI):Prop:=
 ∀ρ',PI.runs Φ r.2 ρ=some ρ'→∀(K:Act→World→Prop) (Q:Exit→Act→World→Prop),(∀a' w',Good C w0 σ0 r.1 ρ' (fun u=>A u∨o.dst=some u) a' w'→a'.tmps.size=a.tmps.size→K a' w')→o.wp C.P a w K Q
theorem size_put (a:Act)(d:Option Tmp)(v:Value):(a.put d v).tmps.size=a.tmps.size:=by
 cases d<;>simp[Act.put]
theorem bW.value {o:Oper}{r:St×List PI}(hd:o.dst=some dst)(hx:∀ρ',PI.runs Φ r.2 ρ=some ρ'→∃v w',(execOp a.eval o).run C.P w=.ok (.value v) w'∧Good C w0 σ0 r.1 ρ' (fun u=>A u∨u=dst) (a.put (some dst) v) w'):bW C w0 σ0 Φ S ρ A a w o r:=by
 intro ρ' ak K Q hK;obtain⟨v,w',h1,h2⟩:=hx ρ' ak;simp only[Oper.wp,h1,Oper.upon,hd];refine hK _ _ ?_ (size_put _ _ _)
 have:(fun u=>A u∨o.dst=some u)=(fun u=>A u∨u=dst):=by
  funext u;rw[hd];simp[eq_comm]
 rw[this];exact h2
theorem bW.skip {o:Oper}{r:St×List PI}(hd:o.dst=none)(hx:∀ρ',PI.runs Φ r.2 ρ=some ρ'→∃w',(execOp a.eval o).run C.P w=.ok .skip w'∧Good C w0 σ0 r.1 ρ' A a w'):bW C w0 σ0 Φ S ρ A a w o r:=by
 intro ρ' ak K Q hK;obtain⟨w',h1,h2⟩:=hx ρ' ak;simp only[Oper.wp,h1,Oper.upon,hd]
 have:(fun u=>A u∨o.dst=some u)=A:=by
  funext u;rw[hd];simp
 rw[this] at hK;exact hK _ _ h2 (size_put _ _ _)
theorem eu.eff (h:Inv C S ρ σ own hv w0 σ0 A a w)(ht:¬A dst)(af:dst<a.tmps.size){o:Oper}(hd:o.dst=some dst){s:Sh}{E6:List PI}(hq:eu C S ρ σ hv Φ dst a w o (s,E6)):bW C w0 σ0 Φ S ρ A a w o (S.setR dst s,E6):=by
 refine bW.value hd fun ρ' ak=>?_;obtain⟨v,d,rfl,h1,h2,h3⟩:=hq ρ' ak;exact⟨v,w,h1,σ,own,hv,h.setReg ht (aG.mono' (.refl σ) (.refl S hv) h3 h2) af (fun gs s' e=>absurd e (h3 gs s'))⟩
theorem eu.effG (h:Inv C S ρ σ own hv w0 σ0 A a w)(ht:¬A dst)(af:dst<a.tmps.size)(dN:∀g,g∈gs→A g.1)(hg:holds gs ρ=true){o:Oper}(hd:o.dst=some dst){s:Sh}{E6:List PI}(hq:eu C S ρ σ hv Φ dst a w o (s,E6)):bW C w0 σ0 Φ S ρ A a w o (S.setR dst (.opt gs s),E6):=by
 refine bW.value hd fun ρ' ak=>?_;obtain⟨v,d,rfl,h1,h2,h3⟩:=hq ρ' ak;have hh:holds gs (ρ.setR dst d)=true:=by rw[Ep (t:=dst) (d:=d) fun g hm e=>ht (by rw[←e];exact dN g hm)];exact hg
 refine⟨v,w,h1,σ,own,hv,h.setReg ht ⟨fun _=>aG.mono' (.refl σ) (.refl S hv) h3 h2,fun e=>absurd (hh.symm.trans e) (by decide)⟩ af (fun bM s' e=>?_)⟩;cases e;exact⟨dN,h3⟩
theorem Inv.passed (h:Inv C S ρ σ own hv w0 σ0 A a w)(ht:¬A dst)(af:dst<a.tmps.size)(dN:∀g,g∈gs→A g.1)(hg:holds gs ρ=false){s:Sh}(hs:∀bM s',s≠.opt bM s')(d:D):Inv C (S.setR dst (.opt gs s)) (ρ.setR dst d) σ own hv w0 σ0 (fun u=>A u∨u=dst) (a.put (some dst) undef) w:=by
 have hh:holds gs (ρ.setR dst d)=false:=by rw[Ep (t:=dst) (d:=d) fun g hm e=>ht (by rw[←e];exact dN g hm)];exact hg
 refine h.setReg ht (s:=.opt gs s) (v:=undef) (d:=d) ⟨fun e=>absurd (hh.symm.trans e) (by decide),fun _=>rfl⟩ af (fun bM s' e=>?_);cases e;exact⟨dN,hs⟩
theorem Inv.mkObj (h:Inv C S ρ σ own hv w0 σ0 A a w)(ht:¬A dst)(af:dst<a.tmps.size)(ob:Ob)(d:D)(v:Value)(nb:Nat→Bool){w':World}(hw:Below w.heap.size w w')(dx:∀k,nb k=true→w.heap.size≤k∧k<w'.heap.size)
 (cN:cg C (S.newO dst ob) (ρ.setO dst d) σ (fy own dst nb) (bV hv dst v) w' w0.heap.size dst ob) (nr:ob≠.tr:=by intro h;cases h):
 Good C w0 σ0 (Cx.mkObj S dst ob) ((ρ.setO dst d).setR dst .none) (fun u=>A u∨u=dst) (a.put (some dst) v) w':=by
 have h1:=h.newO dst ob d v nb hw dx cN nr;have h2:=h1.setObj ht (j:=dst) (v:=v) (aK _ _ _) af;have e:(S.newO dst ob).ver dst=S.ver dst+1:=aK _ _ _;rw[e] at h2;exact⟨_,_,_,h2⟩
theorem Inv.mkPtr (h:Inv C S ρ σ own hv w0 σ0 A a w)(ht:¬A dst)(af:dst<a.tmps.size)(ob:Ob)(d:D)(k:Nat)(nb:Nat→Bool){w':World}(hw:Below w.heap.size w w')(dx:∀k,nb k=true→w.heap.size≤k∧k<w'.heap.size)
 (cN:cg C (S.newO dst ob) (ρ.setO dst d) σ (fy own dst nb) (bV hv dst (.pointer (some ⟨k,0,none⟩))) w' w0.heap.size dst ob) (nr:ob≠.tr:=by intro h;cases h):
 Good C w0 σ0 (Cx.mkPtr S dst ob) ((ρ.setO dst d).setR dst .none) (fun u=>A u∨u=dst) (a.put (some dst) (.pointer (some ⟨k,0,none⟩))) w':=by
 have h1:=h.newO dst ob d _ nb hw dx cN nr;have e:(S.newO dst ob).ver dst=S.ver dst+1:=aK _ _ _;have h2:=h1.setReg ht (s:=.ptr dst (S.ver dst+1) 0) (v:=.pointer (some ⟨k,0,none⟩)) (d:=.none) ⟨Nat.le_of_eq e.symm,fun _=>⟨k,aK _ _ _,rfl⟩⟩ af (fun _ _ e=>by cases e);exact⟨_,_,_,h2⟩
theorem B3 {e:PE}{ρ':Env}(h:PI.runs Φ [.setO dst e,.setR dst (.con .none)] ρ=some ρ'):ρ'=(ρ.setO dst (e.ev ρ)).setR dst .none:=by
 simp[PI.runs,PI.run,PE.ev] at h;exact h.symm
theorem Xv (h:Inv C S ρ σ own hv w0 σ0 A a w){t:Ty}{v:Value}{d:D}(hr:Rep C.cap σ t v d)(ho:t.rowT=true∨t.one=true)(ag:Bool)(T:TypeId):
 cg C (S.newO dst (.box ag (t.flat.map .dat))) (ρ.setO dst (.agg d.cells)) σ (fy own dst (fun k=>Nat.beq k w.heap.size)) (bV hv dst (.pointer (some ⟨w.heap.size,0,none⟩))) (w.alloc (.cells v.cells T)) w0.heap.size dst (.box ag (t.flat.map .dat)):=by
 obtain⟨f1,f2,f3⟩:=hr.flat ho;refine⟨w.heap.size,v.cells,T,d.cells,aK _ _ _,by simp[fy],heap_alloc_new w _,by rw[hr.size];simp[f1],by simp[Env.setO,aK],by simp[f1,f2],fun i s hi=>?_⟩;simp only[cB,aC] at hi;obtain⟨ti,PU,rfl⟩:=hi;exact⟨fun _ _ e=>(by cases e),(f3 i ti PU).2⟩
theorem aiQ (h:Inv C S ρ σ own hv w0 σ0 A a w)(hC:CtxOK C σ0)(ht:¬A dst)(af:dst<a.tmps.size){T:TypeId}{x:Operand}{r:St×List PI}(hr:Dr C S dst T x=some r){o:Oper}(hd:o.dst=some dst)(ho:o.op=.assign x):bW C w0 σ0 Φ S ρ A a w o r:=by
 unfold Dr at hr;split at hr
 case h_2=>cases hr
 rename_i e0 e1 E hu hT;simp only[aC] at hr;obtain⟨e,he,rfl⟩:=hr;have hx:=cj h hC rfl hu;have cq:a.eval x=.slice none 0 0:=by
  generalize a.eval x=v at hx;generalize e1.ev ρ=d at hx;cases hx;rfl
 refine bW.value hd fun ρ' ak=>⟨.slice none 0 0,w,by simp[execOp,ho,cq],?_⟩
 rw[B3 ak];exact h.mkObj ht af (.row E e) _ _ (fun _=>false) (.refl _ _) (by simp) ⟨[],[],by simp[Env.setO,aK,PE.ev],by rw[aK];exact World.ownsRow_nil _ _ _ _,⟨fun _=>undef,by simp,by simp⟩,by rw[aK];simp[Value.ownBlock]⟩
theorem aim (h:Inv C S ρ σ own hv w0 σ0 A a w)(ht:¬A dst)(af:dst<a.tmps.size){T:TypeId}{r:St×List PI}(hr:Dg C S dst T=some r){o:Oper}(hd:o.dst=some dst)(ho:o.op=.alloc T):bW C w0 σ0 Φ S ρ A a w o r:=by
 unfold Dg at hr;split at hr
 case h_2=>cases hr
 rename_i t inf ag PW hi ha;cases hc:(uo inf t&&(t.rowT||t.one))<;>simp only[hc,cond_true,cond_false] at hr
 ·cases hr
 simp only[aq,gF] at hc;simp only[aC] at hr;obtain⟨z,hz,rfl⟩:=hr;obtain⟨v0,tF,AZ⟩:∃v0,inf.zero=some v0∧jH t v0=true:=by
  have:=hc.1;unfold uo at this;split at this
  ·exact⟨_,by assumption,this⟩
  ·cases this
 obtain⟨k1,k2,k3⟩:=yG (cap:=C.cap) (σ:=σ) hz AZ;have xm:z.1.rowT=true∨z.1.one=true:=by
  rcases hc.2 with e|e
  ·left;cases t<;>simp[Ty.rowT] at e;simp[po] at hz;obtain⟨_,_,rfl⟩:=hz;rfl
  ·right;rw[k3];exact e
 refine bW.value hd fun ρ' ak=>⟨.pointer (some ⟨w.heap.size,0,none⟩),w.alloc (.cells v0.cells T),?_,?_⟩
 ·simp[execOp,ho,Instr.alloc,zeroValue,run_typeInfo w hi,tF,newVar,newRow]
 ·rw[B3 ak];exact h.mkPtr ht af _ _ _ (fun k=>Nat.beq k w.heap.size) ((Below.refl _ _).alloc (bl _) _) (fun k hk=>by simp at hk;simp;omega) (Xv h k1 xm ag T)
theorem Compat.newO (S:St)(hv:Nat→Value)(j:Nat)(ob:Ob)(v:Value):Compat S hv (S.newO j ob) (bV hv j v):=by
 refine⟨fun i=>?_,fun i e=>?_⟩
 ·simp only[St.newO,eZ];split<;>rename_i e
  ·subst e;omega
  ·omega
 ·simp only[St.newO,eZ] at e;split at e
  ·rename_i e';subst e';omega
  ·rename_i aE;exact br _ _ aE
theorem aiq (h:Inv C S ρ σ own hv w0 σ0 A a w)(hC:CtxOK C σ0)(ht:¬A dst)(af:dst<a.tmps.size){T:TypeId}{x:Operand}{r:St×List PI}(hr:Di C S dst T x=some r){o:Oper}(hd:o.dst=some dst)(ho:o.op=.box T x):bW C w0 σ0 Φ S ρ A a w o r:=by
 unfold Di at hr;split at hr
 case h_3=>cases hr
 case h_2=>
  rename_i hu ha;split at hr
  case h_2=>cases hr
  rename_i l gN;cases hr;have gg:=(sq h (gs:=[]) rfl x).1;rw[gN] at gg;obtain⟨vs,ds,e1,e2,e3,e4,e5⟩:=gg;refine bW.value hd fun ρ' ak=>⟨.pointer (some ⟨w.heap.size,0,none⟩),w.alloc (.cells (a.eval x).cells T),?_,?_⟩
  ·simp[execOp,ho,Instr.box,newVar,newRow]
  ·rw[B3 ak,e2];refine h.mkPtr ht af _ _ _ (fun k=>Nat.beq k w.heap.size) ((Below.refl _ _).alloc (bl _) _) (fun k hk=>by simp at hk;simp;omega) ⟨w.heap.size,(a.eval x).cells,T,ds,aK _ _ _,by simp[fy],heap_alloc_new w _,by rw[e1];simp[Value.cells,e3],by simp[Env.setO,aK],by simp[e4],fun i s hi=>?_⟩;simp only[cB,aC] at hi;obtain⟨c,hc,rfl⟩:=hi;have bL:(a.eval x).cells.getD i undef=vs.getD i undef:=by rw[e1];simp[Value.cells,aJ,dT]
   have h6:=(e5 i c hc).monoR (Im.le.leR (.refl σ)) (Compat.newO S hv dst (.box true (l.map AgC.sh)) (.pointer (some ⟨w.heap.size,0,none⟩)));rw[bL];cases c with
   |dat t=>exact⟨fun _ _ e=>(by cases e),h6.2⟩
   |obj j ver=>exact⟨fun _ _ e=>(by cases e),h6⟩
 rename_i t e ag hu ha;cases hc:(t.rowT||t.one)<;>simp only[hc,cond_true,cond_false] at hr
 ·cases hr
 cases hr;simp only[gF] at hc;have hx:=cj h hC rfl hu;refine bW.value hd fun ρ' ak=>⟨.pointer (some ⟨w.heap.size,0,none⟩),w.alloc (.cells (a.eval x).cells T),?_,?_⟩
 ·simp[execOp,ho,Instr.box,newVar,newRow]
 ·rw[B3 ak];have:(PE.mk [e]).ev ρ=.agg (e.ev ρ).cells:=by simp[PE.ev,PE.evc]
  rw[this];exact h.mkPtr ht af _ _ _ (fun k=>Nat.beq k w.heap.size) ((Below.refl _ _).alloc (bl _) _) (fun k hk=>by simp at hk;simp;omega) (Xv h hx hc ag T)
theorem aiK (h:Inv C S ρ σ own hv w0 σ0 A a w)(ht:¬A dst)(af:dst<a.tmps.size){T:TypeId}{m:Option Operand}{r:St×List PI}(hr:Dn C S dst T m=some r){o:Oper}(hd:o.dst=some dst)(ho:o.op=.makeMap T m):bW C w0 σ0 Φ S ρ A a w o r:=by
 unfold Dn at hr;split at hr
 case h_2=>cases hr
 rename_i K E hT;simp only[av,aC] at hr;obtain⟨kt,hk,et,he,rfl⟩:=hr;refine bW.value hd fun ρ' ak=>⟨.map (some w.heap.size),w.alloc (.map #[] 0),?_,?_⟩
 ·simp[execOp,ho,Instr.makeMap]
 ·rw[B3 ak]
  exact h.mkObj ht af (.mp kt et) _ _ (fun k=>Nat.beq k w.heap.size) ((Below.refl _ _).alloc (bl _) _) (fun k hk=>by simp at hk;simp;omega)
   ⟨w.heap.size,#[],0,[],aK _ _ _,by simp[fy],heap_alloc_new w _,by simp[Env.setO,aK,PE.ev],rfl,⟨by simp,by simp[m3]⟩,by simp⟩
theorem aiS (h:Inv C S ρ σ own hv w0 σ0 A a w)(ht:¬A dst)(af:dst<a.tmps.size){T:TypeId}{x:Operand}{r:St×List PI}(hr:Ds C S dst T x=some r){o:Oper}(hd:o.dst=some dst)(ho:o.op=.range T x):bW C w0 σ0 Φ S ρ A a w o r:=by
 unfold Ds at hr;split at hr
 case h_2=>cases hr
 rename_i K E j ver hT es;obtain⟨eJ,_⟩:=sq h (gs:=[]) rfl x;rw[es] at eJ;cases hb:(Nat.beq ver (S.ver j)&& !Nat.beq j dst)<;>simp only[hb,cond_true,cond_false] at hr
 ·cases hr
 simp only[aq,iy] at hb;have cq:=eJ.2 (aB hb.1);have aE:j≠dst:=fun e=>by subst e;simp at hb
 have bh:=h.objs j;split at hr
 case h_2=>cases hr
 rename_i kt et eo;cases hr;rw[eo] at bh;obtain⟨m,arr,clock,ds,h1,h2,h3,h4,h5,⟨h6,ru⟩,h7⟩:=bh;have lJ:=h.mv aE (by rw[eo];rfl);have ql:m<w.heap.size:=(gp.1 h3).1;have O9:w0.heap.size≤m:=(h.owns m j h2).1;refine bW.value hd fun ρ' ak=>⟨.pointer (some ⟨w.heap.size,0,none⟩),w.alloc (.mapIter (some m) clock #[] clock),?_,?_⟩
 ·simp[execOp,ho,Instr.range,cq,h1,run_underlying hT,getObj,Sem.run,h3]
 have hρ:ρ'=((ρ.setO dst (.tup [.list [],.map ds])).setR dst .none):=by
  simp[PI.runs,PI.run,PE.ev,PE.evs,h4] at ak;exact ak.symm
 subst hρ;have gx:Below w.heap.size w (w.alloc (.mapIter (some m) clock #[] clock)):=(Below.refl _ _).alloc (bl _) _;have PN:=lJ.step (S':=(S.mv j dst).newO dst (.it kt et)) (ρ':=(ρ.setO dst (.tup [.list [],.map ds]))) (σ':=σ) (hv':=bV (bV hv dst (hv j)) dst (.pointer (some ⟨w.heap.size,0,none⟩)))
  (own':=fun k=>if k=w.heap.size then some dst else(if own k=some j then some dst else if own k=some dst then none else own k)) (a':=a) (A':=A) (w':=w.alloc (.mapIter (some m) clock #[] clock)) (fun i=>i=dst)
  rfl (.refl σ) (h.ok.below gx) (fun _ _ _ hx=>.inl hx) (fun _ _ hx=>.inl hx) (gx.mono h.below.size) ⟨fun i=>?_,fun i e=>?_⟩ (fun i hi=>⟨?_,?_,?_,fun k hk=>⟨?_,?_⟩⟩) (fun i hi=>?_) (fun k i hk=>?_) (fun _=>id) (fun t=>.inl ⟨rfl,rfl,rfl⟩) (fun _ _=>rfl) (fun k hk _=>gx.block k hk) (fun k i hk=>?_) (fun i hi=>by subst hi;simp[St.newO,aK])
 ·have gK:=PN.setObj ht (j:=dst) (v:=.pointer (some ⟨w.heap.size,0,none⟩)) (aK _ _ _) af;have e:((S.mv j dst).newO dst (.it kt et)).ver dst=(S.mv j dst).ver dst+1:=aK _ _ _;rw[e] at gK;exact⟨_,_,_,gK⟩
 ·simp only[St.newO,eZ];split<;>rename_i e
  ·subst e;omega
  ·omega
 ·simp only[St.newO,eZ] at e;split at e
  ·rename_i e';subst e';omega
  ·rename_i Ph;exact br _ _ Ph
 ·simp[St.newO,br _ _ hi]
 ·simp[Env.setO,br _ _ hi]
 ·exact br _ _ hi
 ·have aCf:=(lJ.owns k i hk).2.1;have bu:k≠w.heap.size:=by omega
  simp only[if_neg bu];exact hk
 ·exact gx.block k (lJ.owns k i hk).2.1
 ·subst hi;simp only[St.newO,aK];have fm:m≠w.heap.size:=by omega
  refine⟨w.heap.size,m,arr,clock,ds,[],aK _ _ _,by simp,by simp[fm,h2],by omega,?_,heap_alloc_new w _,by simp[Env.setO,aK,gD],List.nodup_nil,by simp,h5,ru,h7⟩;rw[gx.block m ql];exact h3
 ·split at hk
  ·rename_i e;subst e;refine⟨h.below.size,by simp,fun o=>?_,?_⟩
   ·cases hc:σ.c w.heap.size o with
    |none=>rfl
    |some u=>have:=h.lt hc;omega
   ·cases hc:σ.m w.heap.size with
    |none=>rfl
    |some u=>have:=h.ltm hc;omega
  ·obtain⟨g1,g2,g3,g4⟩:=lJ.owns k i hk;exact⟨g1,by simp;omega,g3,g4⟩
 ·split at hk
  ·rename_i e;subst e;exact .inr (bl _)
  ·exact .inl ⟨i,hk⟩
theorem aiu (h:Inv C S ρ σ own hv w0 σ0 A a w)(hC:CtxOK C σ0)(ht:¬A dst)(af:dst<a.tmps.size){T U:TypeId}{x:Operand}{r:St×List PI}(hr:Dj C S dst T U x=some r){o:Oper}(hd:o.dst=some dst)(ho:o.op=.convert T U x):bW C w0 σ0 Φ S ρ A a w o r:=by
 unfold Dj at hr;split at hr
 case h_2=>cases hr
 rename_i e E hu hT hU;split at hr
 case h_2=>cases hr
 rename_i hE;cases hr;have hx:=cj h hC rfl hu;obtain⟨s,aS,bp,hs⟩:=hx.str_inv;have oE:=Lib.run_convert_string_bytes (P:=C.P) w T U E s hT hU hE;refine bW.value hd fun ρ' ak=>⟨.slice (some ⟨w.heap.size,0,none⟩) s.size (grownCap w s.size 0 E),Lib.bytesWorld w E s,by simp[execOp,ho,aS,oE],?_⟩
 simp only[PI.runs,PI.run,av] at ak;obtain⟨ρ1,g1,ρ2,g2,g3⟩:=ak;cases c1:((PE.ci BinOp.leq (.slen e) (.con (.int nD))).ev ρ).b<;>simp only[c1,cond_true,cond_false] at g1
 ·cases g1
 cases g1;cases g2;cases g3;have amB:s.size≤4294967296:=by
  simp[PE.ev,bp,D.s,D.i,D.b,jh,D.int,nD] at c1;omega
 have gx:Below w.heap.size w (Lib.bytesWorld w E s):=⟨rfl,rfl,rfl,by rw[Lib.bytesWorld_size];omega,fun k hk=>Lib.bytesWorld_at_old w E s k hk⟩
 have aI:(Lib.bytesWorld w E s).heap.size=w.heap.size+1:=Lib.bytesWorld_size w E s
 let σ':Im:={c:=fun k i=>if k=w.heap.size then(if i<s.size then some (.int .u8 (s.data.toList.getD i 0).toNat) else none) else σ.c k i,m:=σ.m}
 have hle:σ.le σ':=by
  refine⟨fun k o v hc=>?_,fun k es hc=>hc⟩;have:k≠w.heap.size:=by have:=h.lt hc;omega
  simp[σ',this,hc]
 have aD:σ'.ok (Lib.bytesWorld w E s):=by
  refine⟨fun k i v hc=>?_,(h.ok.below gx).m⟩;simp only[σ'] at hc;split at hc
  ·rename_i ek;subst ek;split at hc
   ·rename_i hi;cases hc;exact Lib.bytesWorld_cell w E s i hi
   ·cases hc
  ·exact(h.ok.below gx).c k i v hc
 have h1:=h.step (S':=S) (ρ':=ρ) (σ':=σ') (own':=own) (hv':=hv) (A':=A) (a':=a) (w':=Lib.bytesWorld w E s) (fun _=>False) rfl hle aD (fun k i v hc=>?_) (fun k es hc=>.inl hc) (gx.mono h.below.size) ⟨fun _=>bl _,fun _ _=>rfl⟩
  (fun j _=>⟨rfl,rfl,rfl,fun k hk=>⟨hk,gx.block k (h.owns k j hk).2.1⟩⟩) (fun j hj=>hj.elim) (fun k j hk=>?_) (fun _=>id) (fun t=>.inl ⟨rfl,rfl,rfl⟩) (fun _ _=>rfl) (fun k hk _=>gx.block k hk) (fun k i hk=>.inl ⟨i,hk⟩) (fun _ hf=>hf.elim)
 ·refine⟨_,_,_,h1.setReg ht (s:=.dat (.slice (.int .u8))) ?_ af (fun _ _ e=>by cases e)⟩;show Rep C.cap σ' _ _ _;simp only[PE.ev,bp,D.s];refine .slice (.int .u8) w.heap.size 0 s.size _ _ (fun i=>.int .u8 (s.data.toList.getD i 0).toNat) (by simp) (grownCap_ge w s.size 0 E) (grownCap_le_maxLen w s.size 0 E (by unfold maxLen;omega)) (fun i x hx=>?_) (fun i j u hi hu=>?_)
  ·simp only[cB,aC] at hx;obtain⟨b,hb,rfl⟩:=hx;have:s.data.toList.getD i 0=b:=by simp[aJ,hb]
   rw[this];have:=b.toNat_lt;exact .int .u8 _ (by show(0:Int)≤_;omega) (by show _≤(255:Int);omega)
  ·have hj:j=0:=by
        have:=(gp.1 hu).1;simp[Value.cells] at this;exact this
   subst hj;simp[Value.cells] at hu;subst hu;simp[σ',Ty.size,hi]
 ·simp only[σ'] at hc;split at hc
  ·rename_i ek;exact .inr ⟨by have:=h.below.size;omega,.inr (by omega)⟩
  ·exact .inl hc
 ·obtain⟨g1,g2,g3,g4⟩:=h.owns k j hk;refine⟨g1,by omega,fun i=>?_,g4⟩;have:k≠w.heap.size:=by omega
  simp[σ',this,g3 i]
end
end Cx
namespace Cx
open Go Go.RowKit
def IQ (C:Ctx)(S:St)(gs:List (Nat×Bool))(e:Ty)(z:D)(parts:List (Nat×Operand))(i:Nat):Option PE:=
 match parts.find? (fun p=>Nat.beq p.1 i) with
 |some p=>(use C S gs p.2).bind fun a=>bif Ty.sub a.1 e then some a.2 else Option.none
 |Option.none=>some (PE.con z)
def wF (C:Ctx)(S:St)(gs:List (Nat×Bool))(dst:Nat)(T:TypeId)(len:Nat)(parts:List (Nat×Operand)):kM:=
 match C.P.underlying T with
 |some (.slice E)=>
  (pk C.P E).bind fun e=>(po e).bind fun z=>
    bif rk C.P E e&&Ty.sub z.1 e&&gA (parts.map (·.1))&&parts.all (fun p=>Nat.blt p.1 len)&&Nat.ble (len*e.size) 16777216 then
     ((List.range len).mapM (IQ C S gs e z.2 parts)).map fun es=>(mkObj S dst (.row E e),[.setO dst (.lst es),.setR dst (.con .none)])
    else Option.none
 |_=>Option.none
def Ah (C:Ctx)(S:St)(gs:List (Nat×Bool))(dst:Nat)(T:TypeId)(len:Nat)(parts:List (Nat×Operand)):kM:=
 match C.P.underlying T,wF C S gs dst T len parts with
 |some (.slice E),some r=>
  (pk C.P E).bind fun e=>
    match r.2 with
    |.setO _ x::_=>some ((S.newO dst .dead).setR dst (match gs with|[]=>.dat (.slice e.rol)|_=>.opt gs (.dat (.slice e.rol))),[.setR dst x])
    |_=>Option.none
 |_,_=>Option.none
def Oq (S:St):AgC→Bool
 |.dat _=>true
 |.obj j ver=>Nat.beq ver (S.ver j)&&lb (S.o j)
def uI (C:Ctx)(S:St)(T:TypeId)(x v:Operand):kM:=
 match C.P.info? T with
 |some inf=>
  match fC S [] x with
  |.ptr j ver off=>
   bif Nat.beq ver (S.ver j) then
    match S.o j with
    |.box ag shs=>
     match use C S [] v with
     |some (t,e)=>
      bif Nat.beq inf.size t.size&&(t.rowT||t.one)&&Nat.ble (off+t.size) shs.length then
             some (S.setO j (.box ag (shs.take off++t.flat.map .dat++shs.drop (off+t.size))),[.setO j (.setc (.o j) off e)])
      else Option.none
     |Option.none=>
      match fC S [] v with
      |.obj j' mX=>
       bif Nat.beq mX (S.ver j')&&lb (S.o j')&&Nat.beq inf.size 1&&Nat.blt off shs.length then
              some (S.setO j (.box ag (shs.set off (.obj j' mX))),[.setO j (.setc (.o j) off (.con .none))])
       else Option.none
      |.agg l=>
       bif Nat.beq inf.size l.length&&Nat.ble (off+l.length) shs.length&&l.all (Oq S) then
              some (S.setO j (.box ag (shs.take off++l.map AgC.sh++shs.drop (off+l.length))),[.setO j (.setc (.o j) off (sk v))])
       else Option.none
      |_=>Option.none
    |_=>Option.none
   else Option.none
  |.eptr j ver size off=>
   bif Nat.beq ver (S.ver j) then
    match S.o j,use C S [] v with
    |.row _ (.agg ts),some (t,e)=>
     bif Nat.beq inf.size t.size&&(t.rowT||t.one)&&Nat.beq size ts.length&&Nat.ble (off+t.size) ts.length&&Ty.subs t.flat ((ts.drop off).take t.size) then
         some (S,[.setO j (.setn (.o j) (sk x) off e)])
     else Option.none
    |.row _ e0,some (t,e)=>
     bif Nat.beq inf.size 1&&Nat.beq size 1&&Nat.beq off 0&&e0.one&&Ty.sub t e0 then some (S,[.setO j (.setn (.o j) (sk x) 0 e)]) else Option.none
    |_,_=>Option.none
   else Option.none
  |_=>Option.none
 |Option.none=>Option.none
def sX (C:Ctx)(S:St)(T:TypeId)(m k v:Operand):kM:=
 match C.P.underlying T,fC S [] m with
 |some (.map K _),.obj j ver=>
  bif Nat.beq ver (S.ver j) then
   match S.o j,use C S [] k,use C S [] v with
   |.mp kt et,some (tk,ek),some (tv,ev)=>
    bif Ty.beq tk kt&&vk C.P K kt&&Ty.sub tv et then some (S,[.chk (.ci .lss (.mlen (.o j)) (.con (.int nD))),.setO j (.put (.o j) ek ev)]) else Option.none
   |_,_,_=>Option.none
  else Option.none
 |_,_=>Option.none
def J8 (x y:PE):PE:=.ci .leq (.llen (.app x y)) (.con (.int nD))
def LY:Ty→Ty→Bool
 |.slice e',e=>Ty.beq e'.unf e
 |.nils _,_=>true
 |_,_=>false
def Dh (C:Ctx)(S:St)(dst:Nat)(T:TypeId)(s x:Operand):kM:=
 match C.P.underlying T with
 |some (.slice E)=>
  (pk C.P E).bind fun e=>
    match view C S [] x with
    |some (tx,ex)=>
     bif rk C.P E e&&LY tx e then
        match use C S [] s with
        |some (.nils _,_)=>some (mkObj S dst (.row E e),[.chk (J8 (.con (.list [])) ex),.setO dst (.app (.con (.list [])) ex),.setR dst (.con .none)])
        |some _=>Option.none
        |Option.none=>
         match fC S [] s with
         |.obj j ver=>
          bif Nat.beq ver (S.ver j) then
             match S.o j with
             |.row E' e'=>
              bif Nat.beq E' E&&Ty.beq e' e then
                some ((S.newO j (.row E e)).setR dst (.obj j (S.ver j+1)),[.chk (J8 (.o j) ex),.setO j (.app (.o j) ex),.setR dst (.con .none)])
              else Option.none
             |_=>Option.none
          else Option.none
         |_=>Option.none
     else Option.none
    |Option.none=>Option.none
 |_=>Option.none
theorem N7 {P:Program}{T:TypeId}{e:Ty}(h:rk P T e=true):∃inf z,P.info? T=some inf∧inf.size=e.size∧inf.bytes≤xD∧1≤e.size∧inf.zero=some z∧jH e z=true:=by
 unfold rk at h;split at h
 ·rename_i i hi;simp only[aq] at h;have h4:=h.2;unfold uo at h4;split at h4
  ·rename_i z hz;exact⟨i,z,hi,aB h.1.1.1,jJ h.1.1.2,jJ h.1.2,hz,h4⟩
  ·cases h4
 ·cases h
theorem Wu {e:Ty}{z:Value}(h:jH e z=true):z.cells.size=e.size:=by
 cases e with
 |agg ts=>
  cases z with
  |agg vs=>simp only[jH] at h;have:=(Wv ts vs.toList h).1;simpa [Value.cells,Ty.size] using this
  |_=>simp[jH] at h
 |_=>cases z<;>simp_all [jH,yF,Value.cells,Ty.size]
theorem ahL {ρ:Env}{x y:PE}(h:((PE.ci .lss x y).ev ρ).b=true):(x.ev ρ).i<(y.ev ρ).i:=by
 simpa [PE.ev,D.b_bool,jh] using h
theorem XK {ρ:Env}{x y:PE}(h:((PE.ci .leq x y).ev ρ).b=true):(x.ev ρ).i≤(y.ev ρ).i:=by
 simpa [PE.ev,D.b_bool,jh] using h
theorem aov {n:Nat}(h:(n:Int)<nD):n<4294967296:=by unfold nD at h;omega
theorem aaM {n:Nat}(h:(n:Int)≤nD):n≤4294967296:=by unfold nD at h;omega
theorem St.setO_self {S:St}{j:Nat}{ob:Ob}(h:S.o j=ob):S.setO j ob=S:=by
 have:bV S.o j ob=S.o:=by
  funext i;rw[eZ];split
  ·rename_i e;subst e;exact h.symm
  ·rfl
 cases S;simp only[St.setO] at this ⊢;rw[this]
section
variable {C:Ctx} {S:St} {ρ:Env} {σ:Im} {own:Nat→Option Nat} {hv:Nat→Value} {w0:World} {σ0:Base} {A:Nat→Prop} {a:Act} {w:World} {gs:List (Nat×Bool)} {Φ:aR} {dst:Nat}
theorem Inv.updO (h:Inv C S ρ σ own hv w0 σ0 A a w)(j:Nat)(ob:Ob)(d:D)(v:Value)(nb:Nat→Bool){w':World}(hw:Below w0.heap.size w w')
 (tq:∀k,k<w.heap.size→own k≠some j→w'.heap[k]?=w.heap[k]?) (dx:∀k,nb k=true→(own k=some j∨w.heap.size≤k)∧k<w'.heap.size)
 (cN:cg C (S.newO j ob) (ρ.setO j d) σ (fy own j nb) (bV hv j v) w' w0.heap.size j ob) (nr:ob≠.tr:=by intro h;cases h):Inv C (S.newO j ob) (ρ.setO j d) σ (fy own j nb) (bV hv j v) w0 σ0 A a w':=by
 have aI:w0.heap.size≤w.heap.size:=h.below.size;have cd:∀k i,i≠j→own k=some i→fy own j nb k=some i:=by
  intro k i hi hk;have h1:=h.owns k i hk;have h2:nb k=false:=by
   cases hn:nb k with
   |false=>rfl
   |true=>
    rcases(dx k hn).1 with e|e
    ·rw[hk] at e;simp at e;exact absurd e hi
    ·omega
  simp[fy,h2,hk,hi]
 have aD:σ.ok w':=by
  refine⟨fun k o u hc=>?_,fun k es hc=>?_⟩
  ·have aE:own k≠some j:=fun e=>by rw[(h.owns k j e).2.2.1 o] at hc;cases hc
   rw[World.cell?_of_block (tq k (h.lt hc) aE)];exact h.ok.c k o u hc
  ·have aE:own k≠some j:=fun e=>by rw[(h.owns k j e).2.2.2] at hc;cases hc
   exact(h.ok.m k es hc).keep (tq k (h.ltm hc) aE)
 refine h.step (fun i=>i=j) rfl (.refl σ) aD (fun _ _ _ hx=>.inl hx) (fun _ _ hx=>.inl hx) hw ⟨fun i=>?_,fun i e=>?_⟩ (fun i hi=>⟨?_,?_,?_,fun k hk=>⟨cd k i hi hk,?_⟩⟩) (fun i hi=>?_) (fun k i hk=>?_) (fun _=>id) (fun t=>.inl ⟨rfl,rfl,rfl⟩) (fun _ _=>rfl) (fun k hk e=>tq k hk (by rw[e];simp)) (fun k i hk=>by
  unfold fy at hk;split at hk
  ·rename_i hn;rcases(dx k hn).1 with e|e
   ·exact .inl ⟨j,e⟩
   ·exact .inr e
  ·split at hk
   ·cases hk
   ·exact .inl ⟨i,hk⟩) (fun i hi=>by subst hi;simpa only[St.newO,aK] using nr)
 ·simp only[St.newO,eZ];split<;>rename_i e
  ·subst e;omega
  ·omega
 ·simp only[St.newO,eZ] at e;split at e
  ·rename_i e';subst e';omega
  ·rename_i aE;exact br _ _ aE
 ·simp[St.newO,br _ _ hi]
 ·simp[Env.setO,br _ _ hi]
 ·exact br _ _ hi
 ·exact tq k (h.owns k i hk).2.1 (by rw[hk];simpa using hi)
 ·subst hi;simp only[St.newO,aK];exact cN
 ·unfold fy at hk;split at hk
  ·rename_i hn;obtain⟨g1,g2⟩:=dx k hn;rcases g1 with e|e
   ·obtain⟨f1,f2,f3,f4⟩:=h.owns k j e;exact⟨f1,g2,f3,f4⟩
   ·refine⟨by omega,g2,fun o=>?_,?_⟩
    ·cases hc:σ.c k o with
     |none=>rfl
     |some u=>have:=h.lt hc;omega
    ·cases hc:σ.m k with
     |none=>rfl
     |some u=>have:=h.ltm hc;omega
  ·split at hk
   ·cases hk
   ·obtain⟨g1,g2,g3,g4⟩:=h.owns k i hk;exact⟨g1,by have:=hw.size;omega,g3,g4⟩
theorem Inv.updB (h:Inv C S ρ σ own hv w0 σ0 A a w)(j:Nat)(ob:Ob)(d:D){w':World}(hw:Below w0.heap.size w w')
 (tq:∀k,k<w.heap.size→own k≠some j→w'.heap[k]?=w.heap[k]?)
 (cN:cg C (S.setO j ob) (ρ.setO j d) σ own hv w' w0.heap.size j ob) (nr:ob≠.tr:=by intro h;cases h):Inv C (S.setO j ob) (ρ.setO j d) σ own hv w0 σ0 A a w':=by
 have aD:σ.ok w':=by
  refine⟨fun k o u hc=>?_,fun k es hc=>?_⟩
  ·have aE:own k≠some j:=fun e=>by rw[(h.owns k j e).2.2.1 o] at hc;cases hc
   rw[World.cell?_of_block (tq k (h.lt hc) aE)];exact h.ok.c k o u hc
  ·have aE:own k≠some j:=fun e=>by rw[(h.owns k j e).2.2.2] at hc;cases hc
   exact(h.ok.m k es hc).keep (tq k (h.ltm hc) aE)
 refine h.step (fun i=>i=j) rfl (.refl σ) aD (fun _ _ _ hx=>.inl hx) (fun _ _ hx=>.inl hx) hw (Compat.setO _ _ _ _) (fun i hi=>⟨by simp[St.setO,br _ _ hi],by simp[Env.setO,br _ _ hi],rfl,fun k hk=>⟨hk,tq k (h.owns k i hk).2.1 (by rw[hk];simpa using hi)⟩⟩) (fun i hi=>?_) (fun k i hk=>?_) (fun _=>id) (fun t=>.inl ⟨rfl,rfl,rfl⟩) (fun _ _=>rfl) (fun k hk e=>tq k hk (by rw[e];simp)) (fun k i hk=>.inl ⟨i,hk⟩) (fun i hi=>by subst hi;rw[St.setO_o];exact nr)
 ·subst hi;rw[St.setO_o];exact cN
 ·obtain⟨g1,g2,g3,g4⟩:=h.owns k i hk;exact⟨g1,by have:=hw.size;omega,g3,g4⟩
theorem YH {B:Nat}{w w':World}{row:Option Nat}(hg:w.grownBy w' row)(hB:B≤w.heap.size)(hr:∀k,row=some k→B≤k):Below B w w':=(Below.refl B w).grown hg hB hr
theorem abh {z:Array Value}{n i q:Nat}(hz:0<z.size)(hi:i<n)(hq:q<z.size):(madeCells z (n*z.size))[i*z.size+q]?=z[q]?:=by
 have af:i*z.size+q<n*z.size:=by
  have:(i+1)*z.size≤n*z.size:=pB _ hi;rw[pz] at this;omega
 have hm:(i*z.size+q)%z.size=q:=by rw[Cv,ags,Nat.mod_eq_of_lt hq]
 simp[madeCells,Array.getElem?_range,af,hm,hq]
theorem aiM (h:Inv C S ρ σ own hv w0 σ0 A a w)(hC:CtxOK C σ0)(ht:¬A dst)(af:dst<a.tmps.size){T:TypeId}{l c:Operand}{r:St×List PI}(hr:Dp C S dst T l c=some r){o:Oper}(hd:o.dst=some dst)(ho:o.op=.makeSlice T l c):bW C w0 σ0 Φ S ρ A a w o r:=by
 unfold Dp at hr;split at hr
 case h_2=>cases hr
 rename_i E k1 n k2 m hT hl hc;simp only[av] at hr;obtain⟨e,he,hr⟩:=hr;cases hf:rk C.P E e<;>simp only[hf,cond_true,cond_false] at hr
 ·cases hr
 obtain⟨inf,z0,hi,hs,hb,h1,hz,mB⟩:=N7 hf;simp only[av] at hr;obtain⟨z,hzt,hr⟩:=hr;cases bN:Ty.sub z.1 e<;>simp only[bN,cond_true,cond_false] at hr
 ·cases hr
 cases hr;obtain⟨n1,aS,bp,b1,b2⟩:=(cj h hC rfl hl).int_inv;obtain⟨n2,ic,dW,b3,b4⟩:=(cj h hC rfl hc).int_inv;simp only at bp dW;have EJ:=((yG (cap:=C.cap) (σ:=σ) hzt mB).1).sub bN;refine bW.value hd fun ρ' ak=>?_;simp only[PI.runs,PI.run,av] at ak;obtain⟨ρ1,g1,ρ2,g2,ak⟩:=ak;cases c1:((Qm n).ev ρ).b<;>simp only[c1,cond_true,cond_false] at g1
 ·cases g1
 cases g1;cases c2:((PE.ci BinOp.eql n m).ev ρ).b<;>simp only[c2,cond_true,cond_false] at g2
 ·cases g2
 cases g2;have amO:n1=n2:=by simpa [PE.ev,bp,dW,D.i_int,D.b_bool,jh] using c2
 subst amO;have hb:0≤n1∧n1≤nD:=by simpa [Qm,PE.ev,bp,D.i_int,D.b_bool,jh,D.int] using c1
 obtain⟨nn,rfl⟩:=uw hb.1;have xh:nn≤4294967296:=by have:=hb.2;unfold nD at this;omega
 have tJ:z0.cells.size=e.size:=Wu mB;obtain⟨w',r1,r2,r3⟩:=run_make_full (P:=C.P) w w0.heap.size T E inf z0 e.size hT hi hz hs k1 k2 nn (by
  have:inf.bytes*nn≤xD*4294967296:=Nat.mul_le_mul (by assumption) xh;unfold xD at this;omega) (by unfold maxLen;omega) h.below.size
 refine⟨.slice (some ⟨w.heap.size,0,none⟩) nn nn,w',by simp[execOp,ho,aS,ic,r1],?_⟩;obtain⟨ρ3,g3,ρ4,g4,g5⟩:=ak;cases g3;cases g4;cases g5;simp only[PE.ev,bp,D.i_int,v8];have hlen:(List.replicate nn z.2).length=nn:=by simp
 refine h.mkObj ht af (.row E e) _ _ (fun k=>Nat.beq k w.heap.size) (YH r3 (bl _) (by simp)) (fun k hk=>?_) ⟨_,List.replicate nn z.2,by simp[Env.setO,aK],by rw[aK,hlen];exact r2,⟨fun _=>z0,fun i x hx=>?_,fun i j u hi hj=>?_⟩,fun k hk=>?_⟩
 ·have bu:k=w.heap.size:=aB hk;have:=(r2.lt _ rfl).2;subst bu;exact⟨bl _,this⟩
 ·have:=(eD.1 hx)
  obtain⟨q1,q2⟩:=this;simp at q2;subst q2;exact EJ
 ·rw[hlen] at hi;have cm:j<z0.cells.size:=(gp.1 hj).1;rw[Cn,←tJ];rw[abh (by omega) hi cm];exact hj
 ·rw[aK] at hk;simp[Value.ownBlock] at hk;simp[fy,hk]
theorem m3.push {arr:Array MapEntry}{clock:Nat}(h:m3 arr clock)(k v:Value):m3 (arr.push {key:=k,val:=v,born:=clock}) (clock+1):=by
 have key:∀(i:Nat) (e:MapEntry),(arr.push {key:=k,val:=v,born:=clock})[i]?=some e→(arr[i]?=some e∧e.born<clock)∨(i=arr.size∧e.born=clock):=by
  intro i e he;rw[Array.getElem?_push] at he;split at he
  ·rename_i hi;cases he;exact .inr ⟨hi,rfl⟩
  ·exact .inl ⟨he,h.1 i e he⟩
 refine⟨fun i e he=>?_,fun i j e f he hf hb=>?_⟩
 ·rcases key i e he with⟨_,h1⟩|⟨_,h1⟩<;>omega
 ·rcases key i e he with⟨h1,h2⟩|⟨h1,h2⟩<;>rcases key j f hf with⟨h3,h4⟩|⟨h3,h4⟩
  ·exact h.2 i j e f h1 h3 hb
  ·omega
  ·omega
  ·omega
theorem m3.modify {arr:Array MapEntry}{clock:Nat}(h:m3 arr clock)(i0:Nat)(k v:Value):m3 (arr.modify i0 fun e=>{e with key:=k,val:=v}) clock:=by
 have key:∀(i:Nat) (e:MapEntry),(arr.modify i0 fun e=>{e with key:=k,val:=v})[i]?=some e→∃e',arr[i]?=some e'∧e'.born=e.born:=by
  intro i e he;rw[Array.getElem?_modify] at he;split at he
  ·simp only[aC] at he;obtain⟨e',h1,rfl⟩:=he;exact⟨e',h1,rfl⟩
  ·exact⟨e,he,rfl⟩
 refine⟨fun i e he=>?_,fun i j e f he hf hb=>?_⟩
 ·obtain⟨e',h1,h2⟩:=key i e he;rw[←h2];exact h.1 i e' h1
 ·obtain⟨e',h1,h2⟩:=key i e he;obtain⟨f',h3,h4⟩:=key j f hf;exact h.2 i j e' f' h1 h3 (by rw[h2,h4,hb])
theorem X1 (h:Inv C S ρ σ own hv w0 σ0 A a w)(hC:CtxOK C σ0){T:TypeId}{m k v:Operand}{r:St×List PI}(hr:sX C S T m k v=some r){o:Oper}(hd:o.dst=none)(ho:o.op=.mapUpdate T m k v∨o.op=.insert T m k v):bW C w0 σ0 Φ S ρ A a w o r:=by
 unfold sX at hr;split at hr
 case h_2=>cases hr
 rename_i K E j ver hT es;obtain⟨eJ,_⟩:=sq h (gs:=[]) rfl m;rw[es] at eJ;cases hb:Nat.beq ver (S.ver j)<;>simp only[hb,cond_true,cond_false] at hr
 ·cases hr
 have cq:=eJ.2 (aB hb);have bh:=h.objs j;split at hr
 case h_2=>cases hr
 rename_i kt et tk ek tv ev eo hk xt;rw[eo] at bh;cases hc:(Ty.beq tk kt&&vk C.P K kt&&Ty.sub tv et)<;>simp only[hc,cond_true,cond_false] at hr
 ·cases hr
 cases hr;simp only[aq] at hc;obtain⟨⟨JD,Ee⟩,bN⟩:=hc;obtain⟨g,arr,clock,ds,h1,h2,h3,h4,h5,⟨h6,ru⟩,h7⟩:=bh;have bu:=cj h hC rfl hk;rw[Ty.beq_eq _ _ JD] at bu;have hv':=(cj h hC rfl xt).sub bN;refine bW.skip hd fun ρ' ak=>?_;simp only[PI.runs,PI.run,av] at ak;obtain⟨ρ1,g1,ρ2,g2,g3⟩:=ak;cases c1:((PE.ci BinOp.lss (.mlen (.o j)) (.con (.int nD))).ev ρ).b<;>simp only[c1,cond_true,cond_false] at g1
 ·cases g1
 cases g1;cases g2;cases g3;have amB:ds.length<4294967296:=by
  have h8:=ahL c1;simp only[PE.ev,h4,D.m,D.i_int,D.int] at h8;exact aov h8
 have qj:(Instr.checkKey false 10000 K (a.eval k)).run C.P w=.ok () w:=XJ (cap:=C.cap) (σ:=σ) Ee bu;have fN:∃uE z7 ds',(Instr.mapUpdate T (a.eval m) (a.eval k) (a.eval v)).run C.P w=.ok () {w with heap:=w.heap.setIfInBounds g (.map uE z7)}∧cY (ek.ev ρ) (ev.ev ρ) ds=ds'∧ds'.length=uE.size∧(ds'.length≤maxLen∧m3 uE z7)∧
  ∀(i:Nat) (e:MapEntry) (p:D×D),uE[i]?=some e→ds'[i]?=some p→Rep C.cap σ kt e.key p.1∧Rep C.cap σ et e.val p.2:=by
  rcases run_findKey Ee bu arr ds h5 h7 w with⟨f1,f2,f3⟩|⟨i,e,p,f1,f2,f3,f4,f5,f6⟩
  ·refine⟨arr.push {key:=a.eval k,val:=a.eval v,born:=clock},clock+1,ds++[(ek.ev ρ,ev.ev ρ)],?_,f3 _,by simp[h5],⟨by simp;unfold maxLen;omega,ru.push _ _⟩,fun q e p he hp=>?_⟩
   ·rw[cq,h1];simp[Instr.mapUpdate,run_underlying hT,getObj,Sem.run,h3,qj,f1,setObj]
   ·rw[Array.getElem?_push] at he;rw[ma] at hp;by_cases hq:q=arr.size
    ·subst hq;simp at he;rw[if_neg (by omega)] at hp;simp[h5] at hp;subst he;subst hp;exact⟨bu,hv'⟩
    ·rw[if_neg hq] at he;have JS:q<arr.size:=(gp.1 he).1;rw[if_pos (by omega)] at hp;exact h7 q e p he hp
  ·refine⟨arr.modify i fun e=>{e with key:=a.eval k,val:=a.eval v},clock,ds.set i (ek.ev ρ,ev.ev ρ),?_,f5 _,by simp[h5],⟨by simp;exact h6,ru.modify _ _ _⟩,fun q e' p' he hp=>?_⟩
   ·rw[cq,h1];have cn:(Instr.keyThatStays e.key (a.eval k)).run C.P w=.ok (a.eval k) w:=by simp[Instr.keyThatStays,f6]
    simp[Instr.mapUpdate,run_underlying hT,getObj,Sem.run,h3,qj,f3,f1,cn,setObj]
   ·rw[Array.getElem?_modify] at he;rw[Ct] at hp;by_cases hq:i=q
    ·subst hq;simp only[if_true] at he hp;rw[f1] at he;simp at he;split at hp
     ·cases hp;subst he;exact⟨bu,hv'⟩
     ·cases hp
    ·rw[if_neg hq] at he hp;exact h7 q e' p' he hp
 obtain⟨uE,z7,ds',r1,r2,r3,r4,r5⟩:=fN;refine⟨{w with heap:=w.heap.setIfInBounds g (.map uE z7)},by rcases ho with ho|ho<;>simp[execOp,ho,r1],?_⟩;have hgl:g<w.heap.size:=(gp.1 h3).1;have hgB:w0.heap.size≤g:=(h.owns g j h2).1;have bL:(PE.put (.o j) ek ev).ev ρ=.map ds':=by simp only[PE.ev,h4,D.m,r2]
 rw[bL]
 have:=h.updB j (.mp kt et) (.map ds') (w':={w with heap:=w.heap.setIfInBounds g (.map uE z7)}) ⟨rfl,rfl,rfl,by simp,fun k hk=>by simp;rw[Wy (by omega)]⟩
  (fun k hk aE=>by simp;rw[Wy (fun e=>aE (by rw[←e];exact h2))])
  ⟨g,uE,z7,ds',h1,h2,by simp[hgl],by simp[Env.setO,aK],r3,r4,r5⟩
 have eS:S.setO j (.mp kt et)=S:=St.setO_self eo;rw[eS] at this;exact⟨_,_,_,this⟩
end
end Cx
namespace Cx
open Go Go.RowKit
theorem awX {e:Ty}{z:Value}(h:jH e z=true):e.rowT=true∨e.one=true:=by
 cases e<;>first|exact .inl rfl|exact .inr rfl|(cases z<;>simp[jH,yF] at h)
theorem Rep.cellsOne {cap:Nat→Option CSig}{σ:Im}{t:Ty}{v:Value}{d:D}(h:Rep cap σ t v d)(ht:t.rowT=true∨t.one=true){m:Nat}{u:Value}(hu:v.cells[m]?=some u):u.oneCell'=true:=by
 obtain⟨f1,f2,f3⟩:=h.flat ht;have af:m<v.cells.size:=(gp.1 hu).1;rw[h.size] at af;obtain⟨g1,g2⟩:=f3 m _ (bF (by omega:m<t.flat.length));have:=(g2.oneCell g1).2;rw[dT,hu] at this;exact this
theorem ai9 {cap:Nat→Option CSig}{σ:Im}{e:Ty}{cells:List Value}{xs:List D}(h:ej cap σ e cells xs)(hl:cells.length=xs.length*e.size)(ia:e.rowT=true∨e.one=true):∀u∈cells,u.oneCell'=true:=by
 obtain⟨vs,h1,h2⟩:=h;intro u hu;obtain⟨p,hp,rfl⟩:=kf hu;rw[hl] at hp;have hs:0<e.size:=Nat.pos_of_ne_zero fun e0=>by rw[e0] at hp;simp at hp
 have hi:p/e.size<xs.length:=(Nat.div_lt_iff_lt_mul hs).2 hp;have hq:p%e.size<e.size:=Nat.mod_lt _ hs;have bS:=h1 _ _ (bF hi);have aI:=bS.size;have qh:(vs (p/e.size)).cells[p%e.size]?=some (vs (p/e.size)).cells[p%e.size]:=fF (by omega);have:=h2 _ _ _ hi qh;rw[Nat.mul_comm,Nat.div_add_mod] at this;have h3:cells[p]=(vs (p/e.size)).cells[p%e.size]:=by
  have h4:=bF (show p<cells.length by omega);rw[h4] at this;exact Cw this
 rw[h3];exact bS.cellsOne ia qh
theorem ai8 {cap:Nat→Option CSig}{σ:Im}{e:Ty}{c1 c2:List Value}{xs ys:List D}(h:ej cap σ e c1 xs)(k:ej cap σ e c2 ys)(hl:c1.length=xs.length*e.size):ej cap σ e (c1++c2) (xs++ys):=by
 obtain⟨vs,h1,h2⟩:=h;obtain⟨us,k1,k2⟩:=k;refine⟨fun i=>if i<xs.length then vs i else us (i-xs.length),fun i x hx=>?_,fun i j u hi hj=>?_⟩
 ·rw[ma] at hx;split at hx
  ·rename_i af;simp only[af,if_true];exact h1 i x hx
  ·rename_i af;simp only[af,if_false];exact k1 _ x hx
 ·by_cases af:i<xs.length
  ·simp only[af,if_true] at hj;have:=h2 i j u af hj;rw[kN (eD.1 this).1];exact this
  ·simp only[af,if_false] at hj;have df:i-xs.length<ys.length:=by simp at hi;omega
   have:=k2 _ j u df hj;have e1:i*e.size=c1.length+(i-xs.length)*e.size:=by rw[hl,←pz];congr 1;omega
   rw[ly (by omega)];rw[show i*e.size+j-c1.length=(i-xs.length)*e.size+j by omega];exact this
section
variable {C:Ctx} {S:St} {ρ:Env} {σ:Im} {own:Nat→Option Nat} {hv:Nat→Value} {w0:World} {σ0:Base} {A:Nat→Prop} {a:Act} {w:World} {gs:List (Nat×Bool)} {Φ:aR} {dst:Nat}
theorem awL (h:Inv C S ρ σ own hv w0 σ0 A a w){B:Nat}{e f:Ty}{v:Value}{d:D}(hs:0<e.size)(ia:e.rowT=true∨e.one=true)(hf:f.unf=e)(P3:MG C σ w B (.slice f) v d):
 ∃ys,d=.list ys∧ys.length≤maxLen∧((v=.slice none 0 0∧ys=[])∨∃(ad:Addr) (c:Nat) (news:List Value),v=.slice (some ad) ys.length c∧news.length=ys.length*e.size∧
  (∀j u,news[j]?=some u→w.cell? (ad.add j)=some u)∧ej C.cap σ e news ys):=by
 rcases P3 with hr|⟨T,e',cells,xs,ht,hd,cd,jn⟩|⟨k,arr,clock,es,kt,et,ht,_⟩
 ·obtain⟨xs,hd,Ax⟩:=hr.slice_inv;rw[←f.unf_size,hf] at Ax;rcases Ax with⟨⟨p0,aS⟩,rfl⟩|⟨k,o,c,aS,h1,h2,vs,h3,h4⟩
  ·cases p0 with
   |none=>exact⟨[],hd,by simp,.inl ⟨aS,rfl⟩⟩
   |some a0=>exact⟨[],hd,by simp,.inr ⟨a0,0,[],aS,by simp,fun j u hu=>by simp at hu,fun _=>undef,fun i x hx=>by simp at hx,fun i j u hi=>by simp at hi⟩⟩
  ·refine⟨xs,hd,by omega,.inr ⟨⟨k,o,none⟩,c,(List.range (xs.length*e.size)).map fun p=>(vs (p/e.size)).cells.getD (p%e.size) undef,aS,by simp,fun j u hu=>?_,vs,h3,fun i j u hi hj=>?_⟩⟩
   ·simp only[cB,aC] at hu;obtain⟨p,hp,rfl⟩:=hu;have eR:j<xs.length*e.size:=by have:=(eD.1 hp).1;simpa using this
    rw[qW eR] at hp;cases hp;have hi:j/e.size<xs.length:=(Nat.div_lt_iff_lt_mul hs).2 eR;have hq:j%e.size<e.size:=Nat.mod_lt _ hs;have bS:=h3 _ _ (bF hi);have aI:=bS.size;have qh:(vs (j/e.size)).cells[j%e.size]?=some ((vs (j/e.size)).cells.getD (j%e.size) undef):=by
     rw[dT,fF (by omega)];rfl
    have:=h.cell (h4 _ _ _ hi qh);rw[sQ]
    rwa [show o+j/e.size*e.size+j%e.size=o+j by rw[wh,Nat.mul_comm,Nat.div_add_mod]] at this
   ·have bS:=h3 _ _ (bF hi);have cm:j<e.size:=by rw[←bS.size];exact(gp.1 hj).1
    have af:i*e.size+j<xs.length*e.size:=by
     have:(i+1)*e.size≤xs.length*e.size:=pB _ hi;rw[pz] at this;omega
    have e1:(i*e.size+j)/e.size=i:=by rw[Nat.mul_comm,Nat.mul_add_div hs,Nat.div_eq_of_lt cm];omega
    have e2:(i*e.size+j)%e.size=j:=by rw[Cv,ags,Nat.mod_eq_of_lt cm]
    simp only[cB,qW af,km,e1,e2];rw[dT,hj];rfl
 ·cases ht;rw[Ty.unf_rol] at hf;obtain⟨b,c,aS,hm,_⟩:=xW cd;have jn:ej C.cap σ e cells xs:=by
   obtain⟨us,u1,u2⟩:=jn;refine⟨us,fun i x hx=>hf▸(u1 i x hx).unf,fun i j u hi hu=>?_⟩;rw[←hf,Ty.unf_size];exact u2 i j u hi hu
  have cd:w.ownsRow B T e.size v xs.length cells:=by rw[←hf,Ty.unf_size];exact cd
  rcases cd.2 with⟨e1,e2⟩|⟨g,cap,cur,e1,e2⟩
  ·have:xs=[]:=Mp e2;subst this;exact⟨[],hd,by simp,.inl ⟨e1,rfl⟩⟩
  ·exact⟨xs,hd,hm,.inr ⟨⟨g,0,none⟩,cap,cells,e1,cd.1,cd.cells (by rw[e1];rfl),jn⟩⟩
 ·cases ht
theorem ata {P:Program}{B:Nat}{T E ty:TypeId}{inf:TypeInfo}{z:Value}{size:Nat}{v x:Value}{n m:Nat}{xs news:List Value}(hT:P.underlying T=some (.slice E))(hi:P.info? E=some inf)(hz:inf.zero=some z)
 (hs:inf.size=size) (tJ:z.cells.size=size) (aI:0<size) (nj:inf.bytes≤xD) (cd:w.ownsRow B E size v n xs) (hB:B≤w.heap.size) (cM:n+m≤4294967296)
 (hx:(x=.slice none 0 0∧m=0∧news=[])∨∃(ad:Addr) (c:Nat),x=.slice (some ad) m c∧news.length=m*size∧(∀j u,news[j]?=some u→w.cell? (ad.add j)=some u)∧∀u∈news,u.oneCell'=true):
 ∃v' w',(Builtin.append_ #[T,T] ty #[v,x]).run P w=.ok v' w'∧w'.ownsRow B E size v' (n+m) (xs++news)∧w.grownBy w' v.ownBlock∧∀k,v'.ownBlock=some k→v.ownBlock=some k∨(w.heap.size≤k∧k<w'.heap.size):=by
 rcases hx with⟨rfl,rfl,rfl⟩|⟨ad,c,rfl,hl,JK,h1⟩
 ·refine⟨v,w,run_append_owned_none w B T ty E inf size hT hi v n xs cd,by simpa using cd,⟨rfl,rfl,rfl,bl _,fun _ _ _=>rfl⟩,fun k hk=>.inl hk⟩
 ·have OQ:(n+m)*inf.bytes≤140737488355328:=by
   have:(n+m)*inf.bytes≤4294967296*xD:=Nat.mul_le_mul cM nj;unfold xD at this;omega
  obtain⟨v',w',r1,r2,r3,r4⟩:=run_append_own (P:=P) w B T ty E inf z size inf.bytes hT hi hz hs rfl tJ aI v n xs cd ad m c news hl JK h1 (by unfold maxLen;omega) OQ hB;refine⟨v',w',r1,r2,r3,fun k hk=>?_⟩;have af:=(r2.lt k hk).2;subst hs;rcases cd.2 with⟨rfl,rfl⟩|⟨g,cap,cur,rfl,hbg,hg,cX,lH,dM,ve⟩
  ·by_cases hm:m=0
   ·subst hm;have:=r4.2 ⟨rfl,rfl⟩;subst this;simp[Value.ownBlock] at hk
   ·have hr:=run_append_nil (P:=P) w T ty E inf z hT hi hz ad m c news hl JK (by omega) (by omega) (by have hb:=OQ;simp only[gI] at hb;omega);rw[hr] at r1;cases r1;simp[Value.ownBlock] at hk;subst hk;exact .inr ⟨bl _,af⟩
  ·by_cases Z5:n+m≤cap
   ·have Ju:n*inf.size+news.length≤cur.size:=by rw[hl,dM,←pz];exact pB _ Z5
    have hr:=run_append_room (P:=P) w T ty E inf hT hi g n cap cur hg ad m c news hl JK h1 Z5 Ju;rw[hr] at r1;cases r1;exact .inl hk
   ·have hr:=run_append_grow (P:=P) w T ty E inf z hT hi hz ⟨g,0,none⟩ n cap xs cd.1 (cd.cells (g:=g) rfl) ad m c news hl JK (by omega) (by omega) (growslice_fits (by omega) OQ);rw[hr] at r1;cases r1;simp[Value.ownBlock] at hk;subst hk;exact .inr ⟨bl _,af⟩
theorem aio (h:Inv C S ρ σ own hv w0 σ0 A a w)(hC:CtxOK C σ0)(ht:¬A dst)(af:dst<a.tmps.size){T:TypeId}{s x:Operand}{r:St×List PI}(hr:Dh C S dst T s x=some r){o:Oper}(hd:o.dst=some dst)
 (ho:o.op=.call {callee:=.builtin .append,args:=#[s,x],argTypes:=#[T,T]}):bW C w0 σ0 Φ S ρ A a w o r:=by
 unfold Dh at hr;split at hr
 case h_2=>cases hr
 rename_i E hT;simp only[av] at hr;obtain⟨e,he,hr⟩:=hr;split at hr
 case h_2=>cases hr
 rename_i tx ex P3;have hv':=Wp h hC (gs:=[]) rfl P3;obtain⟨cs,ak⟩:=Tu (C:=C) (w:=w) (a:=a) ho;cases hc:(rk C.P E e&&LY tx e)<;>simp only[hc,cond_true,cond_false] at hr
 ·cases hr
 simp only[aq] at hc;obtain⟨inf,z,hi,hs,nj,h1,hz,mB⟩:=N7 hc.1;have tJ:=Wu mB;have ia:=awX mB;have P4:∃f:Ty,f.unf=e∧MG C σ w w0.heap.size (.slice f) (a.eval x) (ex.ev ρ):=by
  have cn:=hc.2;unfold LY at cn;split at cn
  ·exact⟨_,Ty.beq_eq _ _ cn,hv'⟩
  ·refine⟨e,Ty.unf_ro ia,?_⟩;rcases hv' with hr|⟨_,_,_,_,ht,_⟩|⟨_,_,_,_,_,_,ht,_⟩
   ·exact .inl (hr.sub (by simp[Ty.sub]))
   ·cases ht
   ·cases ht
  ·cases cn
 obtain⟨fv,eK,P4⟩:=P4;obtain⟨ys,Jt,kD,anG⟩:=awL h h1 ia eK P4;have hx:∃news,ej C.cap σ e news ys∧news.length=ys.length*e.size∧((a.eval x=.slice none 0 0∧ys.length=0∧news=[])∨∃(ad:Addr) (c:Nat),a.eval x=.slice (some ad) ys.length c∧news.length=ys.length*e.size∧(∀j u,news[j]?=some u→w.cell? (ad.add j)=some u)∧∀u∈news,u.oneCell'=true):=by
  rcases anG with⟨e1,rfl⟩|⟨ad,c,news,e1,e2,e3,e4⟩
  ·exact⟨[],⟨fun _=>undef,by simp,by simp⟩,by simp,.inl ⟨e1,rfl,rfl⟩⟩
  ·exact⟨news,e4,e2,.inr ⟨ad,c,e1,e2,e3,ai9 e4 e2 ia⟩⟩
 obtain⟨news,aE,ZT,hx⟩:=hx;have main:∀(j:Nat) (v:Value) (xs:List D) (cells:List Value),a.eval s=v→w.ownsRow w0.heap.size E e.size v xs.length cells→ej C.cap σ e cells xs→xs.length+ys.length≤4294967296→
  (∀k,v.ownBlock=some k→own k=some j)→
  ∃v' w',(execOp a.eval o).run C.P w=.ok (.value v') w'∧Good C w0 σ0 ((S.newO j (.row E e)).setR dst (.obj j (S.ver j+1))) ((ρ.setO j (.list (xs++ys))).setR dst .none) (fun u=>A u∨u=dst) (a.put (some dst) v') w':=by
  intro j v xs cells PO cd jn hlen cN;obtain⟨v',w',r1,r2,r3,r4⟩:=ata (P:=C.P) (ty:=o.type) hT hi hz hs tJ h1 nj cd h.below.size hlen hx;refine⟨v',w',by rw[ak];simp[builtin,PO,r1],?_⟩
  have P0:=h.updO j (.row E e) (.list (xs++ys)) v' (fun k=>decide (v'.ownBlock=some k)) (w':=w') (YH r3 h.below.size (fun k hk=>(h.owns k j (cN k hk)).1)) (fun k hk aE=>r3.block k hk (fun e=>aE (cN k e.symm))) (fun k hk=>by
        have bu:v'.ownBlock=some k:=by simpa using hk
        rcases r4 k bu with e|e
        ·exact⟨.inl (cN k e),(r2.lt k bu).2⟩
        ·exact⟨.inr e.1,e.2⟩)
   ⟨cells++news,xs++ys,by simp[Env.setO,aK],by rw[aK,kg];exact r2,ai8 jn aE cd.1,fun k hk=>by rw[aK] at hk;simp[fy,hk]⟩
  have h2:=P0.setObj ht (j:=j) (v:=v') (aK _ _ _) af;have e:(S.newO j (.row E e)).ver j=S.ver j+1:=aK _ _ _;rw[e] at h2;exact⟨_,_,_,h2⟩
 split at hr
 ·rename_i e0 pe0 hu;cases hr;refine bW.value hd fun ρ' rJ=>?_;have PQ:=cj h hC rfl hu;have PO:a.eval s=.slice none 0 0:=by
   generalize a.eval s=v at PQ;generalize pe0.ev ρ=d at PQ;cases PQ;rfl
  simp only[PI.runs,PI.run,av] at rJ;obtain⟨ρ1,g1,ρ2,g2,ρ3,g3,g4⟩:=rJ;cases c1:((J8 (.con (.list [])) ex).ev ρ).b<;>simp only[c1,cond_true,cond_false] at g1
  ·cases g1
  cases g1;cases g2;cases g3;cases g4;have hlen:=XK c1;simp only[PE.ev,D.l_list,Jt,uA,D.i_int,D.int] at hlen;have:=main dst (.slice none 0 0) [] [] PO (World.ownsRow_nil _ _ _ _) ⟨fun _=>undef,by simp,by simp⟩ (by simpa using aaM hlen) (by simp[Value.ownBlock]);simpa [PE.ev,D.l_list,Jt,mkObj] using this
 ·cases hr
 ·obtain⟨eJ,_⟩:=sq h (gs:=[]) rfl s;split at hr
  case h_2=>cases hr
  rename_i j ver es;rw[es] at eJ;cases hb:Nat.beq ver (S.ver j)<;>simp only[hb,cond_true,cond_false] at hr
  ·cases hr
  have cq:=eJ.2 (aB hb);have bh:=h.objs j;split at hr
  case h_2=>cases hr
  rename_i E' e' eo;rw[eo] at bh;cases gM:(Nat.beq E' E&&Ty.beq e' e)<;>simp only[gM,cond_true,cond_false] at hr
  ·cases hr
  cases hr;simp only[aq] at gM;have e1:=aB gM.1;have e2:=Ty.beq_eq _ _ gM.2;subst e1;subst e2;obtain⟨cells,xs,k1,k2,k3,k4⟩:=bh;refine bW.value hd fun ρ' rJ=>?_;simp only[PI.runs,PI.run,av] at rJ;obtain⟨ρ1,g1,ρ2,g2,ρ3,g3,g4⟩:=rJ;cases c1:((J8 (.o j) ex).ev ρ).b<;>simp only[c1,cond_true,cond_false] at g1
  ·cases g1
  cases g1;cases g2;cases g3;cases g4;have hlen:=XK c1;simp only[PE.ev,D.l_list,Jt,k1,D.i_int,D.int] at hlen;have:=main j (hv j) xs cells cq k2 k3 (by have:=aaM hlen;simpa using this) k4;simpa [PE.ev,D.l_list,Jt,k1] using this
end
end Cx
namespace Cx
open Go Go.RowKit
theorem Gv {P:Program}{a:Act}{w:World}{o:Oper}{T:TypeId}{x v:Operand}{inf:TypeInfo}{k off:Nat}{cs:Array Value}{E:TypeId}(ho:o.op=.store T x v)(hi:P.info? T=some inf)(hx:a.eval x=.pointer (some ⟨k,off,none⟩))
 (hs:(a.eval v).cells.size=inf.size) (dy:∀u∈(a.eval v).cells.toList,u.oneCell'=true) (hb:w.heap[k]?=some (.cells cs E (0,0))) (hle:off+inf.size≤cs.size):
 (execOp a.eval o).run P w=.ok .skip (w.setRow k (cs.toList.take off++(a.eval v).cells.toList++cs.toList.drop (off+inf.size)).toArray):=by
 have:=run_storeCells_at P k off E (a.eval v).cells.toList 0 cs w hb (by simp[hs];exact hle) dy;simp only[iI,Co,hs] at this;simp[execOp,ho,Instr.storeAt,hx,Instr.sureAddr,storeVar,Go.sizeOf,run_typeInfo w hi,hs,this]
theorem afj {w:World}{B k:Nat}{cs:Array Value}(hB:B≤k):Below B w (w.setRow k cs)∧∀i,i≠k→(w.setRow k cs).heap[i]?=w.heap[i]?:=
 ⟨⟨rfl,rfl,rfl,by simp[World.setRow],fun i hi=>setRow_other w k i cs (by omega)⟩,fun i hi=>setRow_other w k i cs hi⟩
theorem I3 {α:Type}(xs ys:List α)(off:Nat)(d:α)(hle:off+ys.length≤xs.length)(i:Nat):(xs.take off++ys++xs.drop (off+ys.length)).getD i d=if off≤i∧i<off+ys.length then ys.getD (i-off) d else xs.getD i d:=by
 simp only[aJ,px];rw[ma,dU,pA (by omega)];split
 ·rename_i h;rw[if_neg (by omega),fa,if_pos h]
 ·rename_i h;rw[ma];split
  ·rename_i h2;rw[if_pos (by omega)]
  ·rename_i h2;rw[if_neg (by omega),fY];congr 2;omega
section
variable {C:Ctx} {S:St} {ρ:Env} {σ:Im} {own:Nat→Option Nat} {hv:Nat→Value} {w0:World} {σ0:Base} {A:Nat→Prop} {a:Act} {w:World} {gs:List (Nat×Bool)} {Φ:aR} {dst:Nat}
theorem Inv.storeBox (h:Inv C S ρ σ own hv w0 σ0 A a w){j k off:Nat}{ag:Bool}{shs news:List Sh}{cs:Array Value}{E:TypeId}{ds dn:List D}{vs:List Value}(eo:S.o j=.box ag shs)
 (h1:hv j=.pointer (some ⟨k,0,none⟩)) (h2:own k=some j) (h3:w.heap[k]?=some (.cells cs E (0,0))) (h4:cs.size=shs.length) (h5:ρ.o j=.agg ds) (h6:ds.length=shs.length)
 (h7:∀i s,shs[i]?=some s→(∀gs s',s≠.opt gs s')∧aG C S ρ σ hv s (cs.getD i undef) (ds.getD i .none))
 (l1:news.length=vs.length) (l2:dn.length=vs.length) (hle:off+vs.length≤shs.length)
 (lL:∀i s,news[i]?=some s→(∀gs s',s≠.opt gs s')∧aG C S ρ σ hv s (vs.getD i undef) (dn.getD i .none)):
 Inv C (S.setO j (.box ag (shs.take off++news++shs.drop (off+vs.length)))) (ρ.setO j (.agg (bZ ds off dn))) σ own hv w0 σ0 A a (w.setRow k (cs.toList.take off++vs++cs.toList.drop (off+vs.length)).toArray):=by
 have JC:w0.heap.size≤k:=(h.owns k j h2).1;obtain⟨b1,b2⟩:=afj (w:=w) (B:=w0.heap.size) (k:=k) (cs:=(cs.toList.take off++vs++cs.toList.drop (off+vs.length)).toArray) JC;refine h.updB j _ _ b1 (fun i hi aE=>b2 i fun e=>aE (e▸h2)) ⟨k,_,E,bZ ds off dn,h1,h2,setRow_heap w k cs _ E _ h3,?_,by simp[Env.setO,aK],?_,fun i s hi=>?_⟩
 ·simp[l1];omega
 ·simp[bZ,l2,l1];omega
 ·have dM:(cs.toList.take off++vs++cs.toList.drop (off+vs.length)).toArray.getD i undef=if off≤i∧i<off+vs.length then vs.getD (i-off) undef else cs.getD i undef:=by
   have e0:∀l:List Value,l.toArray.getD i undef=l.getD i undef:=fun l=>by simp[dT,aJ]
   rw[e0,I3 cs.toList vs off undef (by simp;omega),Aq cs i]
  have wW:(bZ ds off dn).getD i .none=if off≤i∧i<off+vs.length then dn.getD (i-off) .none else ds.getD i .none:=by
   rw[bZ,I3 ds dn off .none (by omega),l2]
  rw[dM,wW];have ZO:∀s v d,(∀gs s',s≠.opt gs s')→aG C S ρ σ hv s v d→aG C (S.setO j (.box ag (shs.take off++news++shs.drop (off+vs.length)))) (ρ.setO j (.agg (bZ ds off dn))) σ hv s v d:=
   fun s v d hn hk=>aG.mono' (.refl σ) (Compat.setO _ _ _ _) hn hk
  have gN:(shs.take off++news++shs.drop (off+vs.length))[i]?=if off≤i∧i<off+vs.length then news[i-off]? else shs[i]?:=by
   rw[px,ma,dU,pA (by omega)];split
   ·rename_i h;rw[if_neg (by omega),fa,if_pos h]
   ·rename_i h;rw[ma,l1];split
    ·rename_i h2;rw[if_pos (by omega)]
    ·rename_i h2;rw[if_neg (by omega),fY];congr 1;omega
  rw[gN] at hi;split
  ·rename_i hc;rw[if_pos hc] at hi;obtain⟨g1,g2⟩:=lL _ s hi;exact⟨g1,ZO _ _ _ g1 g2⟩
  ·rename_i hc;rw[if_neg hc] at hi;obtain⟨g1,g2⟩:=h7 _ s hi;exact⟨g1,ZO _ _ _ g1 g2⟩
theorem ae9 (h:Inv C S ρ σ own hv w0 σ0 A a w){j:Nat}(hr:lb (S.o j)=true):(hv j).cells=#[hv j]∧(hv j).oneCell'=true:=by
 have bh:=h.objs j;cases cN:S.o j with
 |row T e=>
  rw[cN] at bh;obtain⟨cells,xs,h1,h2,h3,h4⟩:=bh;obtain⟨b,c,e1,_⟩:=xW h2;rw[e1];exact⟨rfl,rfl⟩
 |mp kt et=>
  rw[cN] at bh;obtain⟨k0,arr,clock,es,h1,_⟩:=bh;rw[h1];exact⟨rfl,rfl⟩
 |_=>rw[cN] at hr;simp[lb] at hr
theorem Inv.storeRow (h:Inv C S ρ σ own hv w0 σ0 A a w){j k n c i p:Nat}{T:TypeId}{e:Ty}{cells vs:List Value}{xs:List D}{v':Value}{d':D}(eo:S.o j=.row T e)(eL:hv j=.slice (some ⟨k,0,none⟩) n c)
 (h1:ρ.o j=.list xs) (h2:w.ownsRow w0.heap.size T e.size (hv j) xs.length cells) (h3:ej C.cap σ e cells xs) (h4:∀k,(hv j).ownBlock=some k→own k=some j) (hi:i<xs.length)
 (Et:i*e.size≤p) (fo:p+vs.length≤i*e.size+e.size) (hr:Rep C.cap σ e v' d')
 (hv':∀q u,v'.cells[q]?=some u→(cells.take p++vs++cells.drop (p+vs.length))[i*e.size+q]?=some u):
 ∃cur,w.heap[k]?=some (.cells cur T (0,0))∧p+vs.length≤cur.size∧Inv C S (ρ.setO j (.list (xs.set i d'))) σ own hv w0 σ0 A a (w.setRow k (cur.toList.take p++vs++cur.toList.drop (p+vs.length)).toArray):=by
 have ba:=h2.1;rcases h2.2 with⟨e0,e1⟩|⟨g,cap,cur,e1,e2,e3,e4,e5,e6,e7⟩
 ·omega
 rw[eL] at e1;cases e1;have amw:i*e.size+e.size≤xs.length*e.size:=by
  have:(i+1)*e.size≤xs.length*e.size:=pB _ hi;rw[pz] at this;omega
 have aB6:xs.length*e.size≤c*e.size:=pB _ e4;have anb:p+vs.length≤cur.size:=by omega
 refine⟨cur,e3,anb,?_⟩;have cd:own k=some j:=h4 k (by rw[eL];rfl);obtain⟨b1,b2⟩:=afj (w:=w) (B:=w0.heap.size) (k:=k) (cs:=(cur.toList.take p++vs++cur.toList.drop (p+vs.length)).toArray) e2;have ve:(cur.toList.take p++vs++cur.toList.drop (p+vs.length)).take (xs.length*e.size)=cells.take p++vs++cells.drop (p+vs.length):=by
  rw[←e7];apply WQ;intro q;simp only[px,fa,ma,dU,fY,Co];by_cases hq:q<xs.length*e.size
  ·rw[if_pos hq];by_cases hq1:q<p
   ·simp[hq1,Nat.lt_min,show q<cur.size by omega,hq]
   ·by_cases jr:q-p<vs.length
    ·rw[if_neg (by omega),pA (by omega),if_pos jr,if_neg (by omega),pA (by omega),if_pos jr]
    ·rw[if_neg (by omega),pA (by omega),if_neg jr,if_neg (by omega),pA (by omega),if_neg jr,if_pos (by omega)]
  ·rw[if_neg hq];have:¬q<p:=by omega
   rw[if_neg (by omega),pA (by omega),if_neg (by omega),if_neg (by omega)]
 have:=h.updB j (.row T e) (.list (xs.set i d')) b1 (fun q hq aE=>b2 q fun e=>aE (e▸cd))
  ⟨cells.take p++vs++cells.drop (p+vs.length),xs.set i d',by simp[Env.setO,aK],⟨by simp;omega,.inr ⟨k,c,_,by rw[eL];simp,e2,setRow_heap w k cur _ T _ e3,by simpa using e4,e5,by simp;omega,by simpa using ve⟩⟩,?_,h4⟩
 ·rw[St.setO_self eo] at this;exact this
 ·obtain⟨us,u1,u2⟩:=h3;refine⟨fun q=>if q=i then v' else us q,fun q x hx=>?_,fun q m u hq hm=>?_⟩
  ·rw[Ct] at hx;by_cases AQ:i=q
   ·subst AQ;simp only[if_true] at hx ⊢;rw[if_pos hi] at hx;cases hx;exact hr
   ·rw[if_neg AQ] at hx;simp only[show ¬q=i from fun e=>AQ e.symm,if_false];exact u1 q x hx
  ·by_cases AQ:q=i
   ·subst AQ;simp only[if_true] at hm;exact hv' m u hm
   ·simp only[AQ,if_false] at hm;simp only[List.length_set] at hq;have h9:=u2 q m u hq hm;have aCk:m<e.size:=by rw[←(u1 q _ (bF hq)).size];exact(gp.1 hm).1
    have kz:q*e.size+m<p∨p+vs.length≤q*e.size+m:=by
     rcases MA q i with af|fj
     ·left;have:(q+1)*e.size≤i*e.size:=pB _ af;rw[pz] at this;omega
     ·right;have:(i+1)*e.size≤q*e.size:=pB _ (by omega);rw[pz] at this;omega
    rw[px,ma,dU,pA (by omega)];rcases kz with ho|ho
    ·rw[if_pos ho,fa,if_pos ho];exact h9
    ·rw[if_neg (by omega),ly (by omega),fY];rw[show p+vs.length+(q*e.size+m-p-vs.length)=q*e.size+m by omega];exact h9
theorem aiU (h:Inv C S ρ σ own hv w0 σ0 A a w)(hC:CtxOK C σ0){T:TypeId}{x v:Operand}{r:St×List PI}(hr:uI C S T x v=some r){o:Oper}(hd:o.dst=none)(ho:o.op=.store T x v):bW C w0 σ0 Φ S ρ A a w o r:=by
 unfold uI at hr;split at hr
 case h_2=>cases hr
 rename_i inf hi;obtain⟨eJ,_⟩:=sq h (gs:=[]) rfl x;split at hr
 case h_3=>cases hr
 ·rename_i j ver off es;rw[es] at eJ;cases hb:Nat.beq ver (S.ver j)<;>simp only[hb,cond_true,cond_false] at hr
  ·cases hr
  obtain⟨k,eL,fK⟩:=eJ.2 (aB hb);have bh:=h.objs j;split at hr
  case h_2=>cases hr
  rename_i ag shs eo;rw[eo] at bh;obtain⟨k',cs,E,ds,h1,h2,h3,h4,h5,h6,h7⟩:=bh;have cH:=h1;rw[eL] at h1;cases h1;split at hr
  ·rename_i t e hu;have hv':=cj h hC rfl hu;cases hc:(Nat.beq inf.size t.size&&(t.rowT||t.one)&&Nat.ble (off+t.size) shs.length)<;>simp only[hc,cond_true,cond_false] at hr
   ·cases hr
   cases hr;simp only[aq,gF] at hc;obtain⟨⟨aI,ia⟩,hle⟩:=hc;have aI:=aB aI;have hle:=jJ hle;obtain⟨f1,f2,f3⟩:=hv'.flat ia;have ij:=hv'.size;refine bW.skip hd fun ρ' ak=>?_;rw[sm ak]
   refine⟨_,Gv ho hi fK (by rw[ij,aI]) (fun u hu=>by
        obtain⟨m,hm,rfl⟩:=kf hu;exact hv'.cellsOne ia (m:=m) (by simp at hm ⊢)) h3 (by omega),?_⟩
   have cn:=h.storeBox (off:=off) (news:=t.flat.map .dat) (vs:=(a.eval v).cells.toList) (dn:=(e.ev ρ).cells) eo cH h2 h3 h4 h5 h6 h7 (by simp[f1,ij]) (by simp[f2,ij]) (by simp[ij];omega) (fun i s hi=>by
        simp only[cB,aC] at hi;obtain⟨ti,PU,rfl⟩:=hi;refine⟨fun _ _ e=>(by cases e),?_⟩;rw[Aq];exact(f3 i ti PU).2)
   have e1:(a.eval v).cells.toList.length=t.size:=by simp[ij]
   rw[e1] at cn;rw[aI];refine⟨σ,own,hv,?_⟩;simpa [PE.ev,h5,D.cells] using cn
  ·split at hr
   case h_3=>cases hr
   case h_2=>
        rename_i l fI;obtain⟨AS,_⟩:=sq h (gs:=[]) rfl v;rw[fI] at AS;obtain⟨vs,ds',q1,q2,q3,q4,q5⟩:=AS;cases hc:(Nat.beq inf.size l.length&&Nat.ble (off+l.length) shs.length&&l.all (Oq S))<;>simp only[hc,cond_true,cond_false] at hr
        ·cases hr
        cases hr;simp only[aq] at hc;obtain⟨⟨aI,hle⟩,da⟩:=hc;have aI:=aB aI;have hle:=jJ hle;have iP:(a.eval v).cells.toList=vs:=by rw[q1];simp[Value.cells]
        have dM:(a.eval v).cells.size=vs.length:=by rw[←iP];simp
        have dy:∀u∈(a.eval v).cells.toList,u.oneCell'=true:=fun u hu=>by
         rw[iP] at hu;obtain⟨i,hi,rfl⟩:=kf hu;have wZ:i<l.length:=by omega
         have g:=q5 i l[i] (bF wZ);have hf:=bK.1 da l[i] (dq wZ);have O0:vs.getD i undef=vs[i]:=by simp[aJ,hi]
         rw[O0] at g;generalize l[i]=c at g hf;cases c with
         |dat t=>exact(g.2.oneCell g.1).2
         |obj j' mX=>
          simp only[Oq,aq] at hf;rw[g.2 (aB hf.1)];exact(ae9 h hf.2).2
        refine bW.skip hd fun ρ' ak=>?_;rw[sm ak];refine⟨_,Gv ho hi fK (by omega) dy h3 (by omega),?_⟩
        have cn:=h.storeBox (off:=off) (news:=l.map AgC.sh) (vs:=vs) (dn:=ds') eo cH h2 h3 h4 h5 h6 h7 (by simp[q3]) (by omega) (by omega) (fun i s hi=>by
         simp only[cB,aC] at hi;obtain⟨c,hc,rfl⟩:=hi;have g:=q5 i c hc;cases c with
         |dat t=>exact⟨fun _ _ e=>(by cases e),g.2⟩
         |obj j' mX=>exact⟨fun _ _ e=>(by cases e),g⟩)
        rw[iP,aI];have e1:vs.length=l.length:=q3;rw[e1] at cn;refine⟨σ,own,hv,?_⟩;simpa [PE.ev,h5,q2,D.cells] using cn
   rename_i j' mX fI;obtain⟨AS,_⟩:=sq h (gs:=[]) rfl v;rw[fI] at AS;cases hc:(Nat.beq mX (S.ver j')&&lb (S.o j')&&Nat.beq inf.size 1&&Nat.blt off shs.length)<;>simp only[hc,cond_true,cond_false] at hr
   ·cases hr
   cases hr;simp only[aq] at hc;obtain⟨⟨⟨an2,gz⟩,aI⟩,af⟩:=hc;have aI:=aB aI;have af:off<shs.length:=by simpa [iJ] using af
   have cq:=AS.2 (aB an2);obtain⟨c1,c2⟩:=ae9 h gz;have iP:(a.eval v).cells=#[a.eval v]:=by rw[cq];exact c1
   refine bW.skip hd fun ρ' ak=>?_;rw[sm ak];refine⟨_,Gv ho hi fK (by rw[iP,aI];rfl) (fun u hu=>by rw[iP] at hu;simp at hu;subst hu;rw[cq];exact c2) h3 (by omega),?_⟩
   have cn:=h.storeBox (off:=off) (news:=[.obj j' mX]) (vs:=[a.eval v]) (dn:=[.none]) eo cH h2 h3 h4 h5 h6 h7 rfl rfl (by simp;omega) (fun i s hi=>by
        match i,hi with
        |0,hi=>simp at hi;subst hi;exact⟨fun _ _ e=>(by cases e),AS.1,fun _=>by simpa using cq⟩
        |i+1,hi=>simp at hi)
   rw[iP,aI];have e2:shs.take off++[Sh.obj j' mX]++shs.drop (off+[a.eval v].length)=shs.set off (.obj j' mX):=by
        rw[List.set_eq_take_append_cons_drop,if_pos af];simp
   rw[e2] at cn;refine⟨σ,own,hv,?_⟩;simpa [PE.ev,h5,D.cells] using cn
 ·rename_i j ver size off es;rw[es] at eJ;cases hb:Nat.beq ver (S.ver j)<;>simp only[hb,cond_true,cond_false] at hr
  ·cases hr
  obtain⟨k,n,c,ik,i,eL,uU,bC,fK⟩:=eJ.2 (aB hb);have bh:=h.objs j;split at hr
  ·rename_i T' ts t e eo hu;rw[eo] at bh;have hv':=cj h hC rfl hu;cases hc:(Nat.beq inf.size t.size&&(t.rowT||t.one)&&Nat.beq size ts.length&&Nat.ble (off+t.size) ts.length&&Ty.subs t.flat ((ts.drop off).take t.size))<;>simp only[hc,cond_true,cond_false] at hr
   ·cases hr
   cases hr;simp only[aq,gF] at hc;obtain⟨⟨⟨⟨aI,ia⟩,xp⟩,hle⟩,bN⟩:=hc;have aI:=aB aI;have xp:=aB xp;have hle:=jJ hle;obtain⟨f1,f2,f3⟩:=hv'.flat ia;have ij:=hv'.size;have f1:t.flat.length=t.size:=f1;have f2:(e.ev ρ).cells.length=t.size:=f2;have ij:(a.eval v).cells.size=t.size:=ij;obtain⟨cells,xs,k1,k2,k3,k4⟩:=bh;obtain⟨b,c',e1,Ei,Ej⟩:=xW k2;rw[eL] at e1;cases e1;obtain⟨us,u1,u2⟩:=k3;obtain⟨y,hy⟩:∃y,xs[i]?=some y:=⟨_,bF bC⟩
   obtain⟨os,ds,vf,hd0,l1,l2,aP,dy⟩:=(u1 i y hy).agg_inv;have EF:(a.eval v).cells.toList.length=t.size:=by simp[ij]
   have lL:Rep C.cap σ (.agg ts) (.agg (os.take off++(a.eval v).cells.toList++os.drop (off+(a.eval v).cells.toList.length)).toArray) (.agg (bZ ds off (e.ev ρ).cells)):=by
        refine .agg _ _ _ (by simp[ij];omega) (by simp[bZ,f2];omega) (fun m tm hm=>?_) dy;rw[I3 os _ off undef (by rw[EF];omega),bZ,I3 ds _ off .none (by rw[f2];omega),EF,f2];split
        ·rename_i hc;have anL:=Ty.subs_get _ _ bN (m-off) tm (by
          rw[fa,if_pos (by omega),fY,show off+(m-off)=m by omega];exact hm)
         obtain⟨tf,htf,cn⟩:=anL;rw[Aq];exact((f3 _ tf htf).2).sub cn
        ·exact aP m tm hm
   have ba:=k2.1;have amw:i*(Ty.agg ts).size+(Ty.agg ts).size≤xs.length*(Ty.agg ts).size:=by
        have:(i+1)*(Ty.agg ts).size≤xs.length*(Ty.agg ts).size:=pB _ bC;rw[pz] at this;omega
   have aab:(Ty.agg ts).size=ts.length:=rfl
   obtain⟨cur,q1,q2,q3⟩:=h.storeRow (i:=i) (p:=i*(Ty.agg ts).size+off) (vs:=(a.eval v).cells.toList) eo eL k1 k2 ⟨us,u1,u2⟩ k4 bC (by omega) (by rw[EF];omega) lL (fun q u hq=>by
        have dE:(os.take off++(a.eval v).cells.toList++os.drop (off+(a.eval v).cells.toList.length))[q]?=some u:=by simpa [Value.cells] using hq
        have aCq:q<ts.length:=by have:=(eD.1 dE).1;simp[ij] at this;omega
        rw[px,ma,dU,pA (by omega)] at dE;rw[px,ma,dU,pA (by omega)];by_cases rI:q<off
        ·rw[if_pos rI,fa,if_pos rI] at dE;rw[if_pos (by omega),fa,if_pos (by omega)];exact u2 i q u bC (by rw[vf];simpa [Value.cells] using dE)
        ·rw[if_neg rI,ma] at dE;rw[if_neg (by omega),ma];rw[show i*(Ty.agg ts).size+q-(i*(Ty.agg ts).size+off)=q-off by omega];by_cases PG:q-off<(a.eval v).cells.toList.length
         ·rw[if_pos PG] at dE ⊢;exact dE
         ·rw[if_neg PG,fY] at dE;rw[if_neg PG,fY];rw[show off+(a.eval v).cells.toList.length+(q-off-(a.eval v).cells.toList.length)=q by omega] at dE;rw[show i*(Ty.agg ts).size+off+(a.eval v).cells.toList.length+(q-off-(a.eval v).cells.toList.length)=i*(Ty.agg ts).size+q by omega];exact u2 i q u bC (by rw[vf];simpa [Value.cells] using dE))
   refine bW.skip hd fun ρ' ak=>?_;rw[sm ak]
   refine⟨_,Gv ho hi (cs:=cur) (by rw[fK,xp]) (by rw[ij,aI]) (fun u hu=>by
        obtain⟨m,hm,rfl⟩:=kf hu;exact hv'.cellsOne ia (m:=m) (by simp at hm ⊢)) q1 (by rw[EF] at q2;rw[aI,←aab];exact q2),σ,own,hv,?_⟩
   rw[EF] at q3;simp only[PE.ev,k1,D.l_list,uU,D.i_int,v8,tl hy,hd0,vP];rw[aI,←aab];exact q3
  ·rename_i T' e0 t e aE eo hu;rw[eo] at bh;have hv':=cj h hC rfl hu;cases hc:(Nat.beq inf.size 1&&Nat.beq size 1&&Nat.beq off 0&&e0.one&&Ty.sub t e0)<;>simp only[hc,cond_true,cond_false] at hr
   ·cases hr
   cases hr;simp only[aq] at hc;obtain⟨⟨⟨⟨aI,xp⟩,jq⟩,dy⟩,bN⟩:=hc;have aI:=aB aI;have xp:=aB xp;have jq:=aB jq;subst jq;subst xp;have hve:=hv'.sub bN;obtain⟨c1,c2⟩:=hve.oneCell dy;have D4:e0.size=1:=by cases e0<;>simp_all [Ty.size,Ty.one]
   obtain⟨cells,xs,k1,k2,k3,k4⟩:=bh;obtain⟨b,c',e1,Ei,Ej⟩:=xW k2;rw[eL] at e1;cases e1;obtain⟨y,hy⟩:∃y,xs[i]?=some y:=⟨_,bF bC⟩
   have ba:=k2.1
   obtain⟨cur,q1,q2,q3⟩:=h.storeRow (i:=i) (p:=i*e0.size) (vs:=[a.eval v]) eo eL k1 k2 k3 k4 bC (bl _) (by rw[D4];simp) hve (fun q u hq=>by
        rw[c1] at hq;have xj:q=0:=by have:=(gp.1 hq).1;simpa using this
        subst xj;simp at hq;subst hq;have:i*e0.size≤cells.length:=by rw[ba];exact pB _ (by omega)
        rw[px,ly (by simp;omega)];simp[pA this])
   refine bW.skip hd fun ρ' ak=>?_;rw[sm ak];refine⟨_,Gv ho hi (cs:=cur) (by rw[fK]) (by rw[c1,aI];rfl) (fun u hu=>by rw[c1] at hu;simp at hu;subst hu;exact c2) q1 (by rw[D4] at q2;rw[aI];simpa using q2),σ,own,hv,?_⟩;rw[c1,aI];have EI:vP y 0 (e.ev ρ)=e.ev ρ:=by
        obtain⟨us,u1,u2⟩:=k3;have:=(u1 i y hy).dcells dy;cases y with
        |agg ds=>have h8:=u1 i _ hy;generalize us i=vv at h8;cases h8;simp[Ty.one] at dy
        |_=>rfl
   simp only[PE.ev,k1,D.l_list,uU,D.i_int,v8,tl hy,EI];rw[D4] at q3;simpa using q3
  ·cases hr
end
end Cx
namespace Cx
open Go Go.RowKit
section
variable {C:Ctx} {S:St} {ρ:Env} {σ:Im} {own:Nat→Option Nat} {hv:Nat→Value} {w0:World} {σ0:Base} {A:Nat→Prop} {a:Act} {w:World} {gs:List (Nat×Bool)} {Φ:aR} {dst:Nat}
theorem ajn {ρ:Env}{es:List PE}{i:Nat}{e:PE}(h:es[i]?=some e):(PE.evs ρ es)[i]?=some (e.ev ρ):=by
 rw[PE.evs_eq,cB,h];rfl
theorem XV (h:Inv C S ρ σ own hv w0 σ0 A a w)(hC:CtxOK C σ0)(hg:holds gs ρ=true){T:TypeId}{len:Nat}{ps:Array (Nat×Operand)}{r:St×List PI}(hr:wF C S gs dst T len ps.toList=some r){o:Oper}
 (ho:o.op=.buildSlice T len ps):∃(E:TypeId) (e:Ty) (es:List PE) (v:Value) (w':World),C.P.underlying T=some (.slice E)∧pk C.P E=some e∧r=(mkObj S dst (.row E e),[.setO dst (.lst es),.setR dst (.con .none)])∧
   (execOp a.eval o).run C.P w=.ok (.value v) w'∧Below w.heap.size w w'∧(∀k,Nat.beq k w.heap.size=true→w.heap.size≤k∧k<w'.heap.size)∧
   cg C (S.newO dst (.row E e)) (ρ.setO dst (.list (PE.evs ρ es))) σ (fy own dst (fun k=>Nat.beq k w.heap.size)) (bV hv dst v) w' w0.heap.size dst (.row E e):=by
 unfold wF at hr;split at hr
 case h_2=>cases hr
 rename_i E hT;simp only[av] at hr;obtain⟨e,he,z,hz,hr⟩:=hr;cases hc:(rk C.P E e&&Ty.sub z.1 e&&gA (ps.toList.map (·.1))&&ps.toList.all (fun p=>Nat.blt p.1 len)&&Nat.ble (len*e.size) 16777216)<;>simp only[hc,cond_true,cond_false] at hr
 ·cases hr
 simp only[aq] at hc;obtain⟨⟨⟨⟨hef,bN⟩,bq⟩,fp⟩,hle⟩:=hc;have hle:=jJ hle;obtain⟨inf,zv,hi,hs,nj,h1,hzv,mB⟩:=N7 hef;have tJ:=Wu mB;have jV:=mI bq;have EJ:=((yG (cap:=C.cap) (σ:=σ) hz mB).1).sub bN;simp only[aC] at hr;obtain⟨es,jo,rfl⟩:=hr;obtain⟨X8,el2⟩:=mapM_some _ _ _ jo;simp only[G1] at X8;have Zn:∀i,i<len→∃pe,es[i]?=some pe∧IQ C S gs e z.2 ps.toList i=some pe:=by
  intro i hi;obtain⟨y,hy1,tI⟩:=el2 i i (by rw[qW hi]);exact⟨y,hy1,tI⟩
 have ns:∀x,x∈ps.toList→x.1<len∧∃t pe,use C S gs x.2=some (t,pe)∧Ty.sub t e=true∧es[x.1]?=some pe:=by
  intro x hx;have xw:x.1<len:=by
   have:=bK.1 fp x hx;simpa [iJ] using this
  refine⟨xw,?_⟩;obtain⟨pe,Et,fo⟩:=Zn x.1 xw;have D7:=Yo jV (i:=x.1) (x:=x.2) hx;simp only[IQ,D7,av] at fo;obtain⟨y,hy,fo⟩:=fo;cases hs:Ty.sub y.1 e<;>simp only[hs,cond_true,cond_false] at fo
  ·cases fo
  cases fo;exact⟨y.1,y.2,hy,hs,Et⟩
 let c0:Array Value:=madeCells zv.cells (len*e.size)
 have DZ:c0.size=len*e.size:=size_madeCells _ _
 have jY:∀p,p∈(ps.toList.map fun(x:Nat×Operand)=>(x.1,a.eval x.2))→∃o,(fun i=>some (i*e.size,e.size)) p.1=some (o,p.2.cells.size)∧o+p.2.cells.size≤c0.size:=by
  intro p hp;obtain⟨x,hx,rfl⟩:=dJ.1 hp;obtain⟨xw,t,pe,hu,cn,_⟩:=ns x hx;have vd:=((cj h hC hg hu).sub cn).size;simp only;refine⟨x.1*e.size,by rw[vd],?_⟩;rw[vd,DZ];have:(x.1+1)*e.size≤len*e.size:=pB _ xw;rw[pz] at this;omega
 have AB:∀(i j oi si oj sj:Nat),i≠j→(fun i=>some (i*e.size,e.size)) i=some (oi,si)→(fun i=>some (i*e.size,e.size)) j=some (oj,sj)→oi+si≤oj∨oj+sj≤oi:=by
  intro i j oi si oj sj aE hi hj;simp only[aT,oa] at hi hj;obtain⟨rfl,rfl⟩:=hi;obtain⟨rfl,rfl⟩:=hj;rcases MA i j with af|fj
  ·left;have:(i+1)*e.size≤j*e.size:=pB _ af;rw[pz] at this;omega
  ·right;have:(j+1)*e.size≤i*e.size:=pB _ (by omega);rw[pz] at this;omega
 obtain⟨dA,f1,f2,f3,f4⟩:=Og (fun i=>some (i*e.size,e.size)) (ps.toList.map fun(x:Nat×Operand)=>(x.1,a.eval x.2)) c0 jY AB (by simpa [GW] using jV);have ak:(execOp a.eval o).run C.P w=.ok (.value (.slice (some ⟨w.heap.size,0,none⟩) len len)) (w.alloc (.cells dA E)):=by
  have n1:¬(len*inf.size>2^24):=by rw[hs];omega
  have IV:Instr.fill (fun i=>some (i*inf.size,inf.size)) c0 (ps.toList.map fun(x:Nat×Operand)=>(x.1,a.eval x.2))=some dA:=by rw[hs];exact f1
  by_cases h0:len*inf.size=0
  ·have OR:c0=#[]:=by
        apply Ml;rw[DZ,←hs];exact h0
   rw[OR] at IV
   have ajp:Instr.fill (fun i=>some (i*inf.size,inf.size)) (Array.map (fun _=>default) (Array.range 0)) (ps.toList.map fun(x:Nat×Operand)=>(x.1,a.eval x.2))=some dA:=by
        have:(Array.map (fun _=>(default:Value)) (Array.range 0))=#[]:=by simp
        rw[this];exact IV
   simp[execOp,ho,Instr.buildSlice,run_underlying hT,Go.sizeOf,run_typeInfo w hi,n1,h0,ajp,newRow]
  ·have OR:c0=(Array.range (len*inf.size)).map (fun x=>zv.cells[x%zv.cells.size]!):=by simp only[c0,madeCells,hs]
   rw[OR] at IV;have h00:¬(len=0∨inf.size=0):=by rw[←Nat.mul_eq_zero];exact h0
   simp[execOp,ho,Instr.buildSlice,run_underlying hT,Go.sizeOf,run_typeInfo w hi,n1,h0,h00,zeroValue,hzv,IV,newRow]
 refine⟨E,e,es,_,_,hT,he,rfl,ak,(Below.refl _ _).alloc (bl _) _,fun k hk=>by simp at hk;simp;omega,?_⟩;have jn:(PE.evs ρ es).length=len:=by rw[PE.evs_eq,fG,X8]
 have ami:∀(i:Nat) (x:D),(PE.evs ρ es)[i]?=some x→∃v,Rep C.cap σ e v x∧∀q u,v.cells[q]?=some u→dA.toList[i*e.size+q]?=some u:=by
  intro i x hx;have wZ:i<len:=by have:=(eD.1 hx).1;omega
  obtain⟨pe,Et,fo⟩:=Zn i wZ;rw[ajn Et] at hx;cases hx;unfold IQ at fo;split at fo
  ·rename_i p hp;have Z0:=yQ hp;have JR:p.1=i:=by have:=Mr hp;simpa using this
   obtain⟨_,t,pe',hu,cn,u9⟩:=ns p Z0;rw[JR,Et] at u9;cases u9;have bS:=(cj h hC hg hu).sub cn;refine⟨_,bS,fun q u hq=>?_⟩;have JS:q<(a.eval p.2).cells.size:=(gp.1 hq).1;have:=f3 p.1 (a.eval p.2) (p.1*e.size) (dJ.2 ⟨p,Z0,rfl⟩) (by simp[bS.size]) q JS;rw[JR] at this;simp[this,hq]
  ·rename_i hp;cases fo;refine⟨zv,EJ,fun q u hq=>?_⟩;have JS:q<zv.cells.size:=(gp.1 hq).1
   have rF:i∉(ps.toList.map fun(x:Nat×Operand)=>(x.1,a.eval x.2)).map (·.1):=by
        intro cP;simp only[G2,dJ,GW] at cP;obtain⟨x,AY,e⟩:=cP;have:=v9.1 hp x AY;simp[e] at this
   have:=f4 i (i*e.size) e.size rF rfl q (by omega);have h9:c0[i*e.size+q]?=zv.cells[q]?:=by
        simp only[c0];rw[←tJ];exact abh (by omega) wZ JS
   simp[this,h9,hq]
 have ij:∃vs:Nat→Value,∀(i:Nat) (x:D),(PE.evs ρ es)[i]?=some x→Rep C.cap σ e (vs i) x∧∀q u,(vs i).cells[q]?=some u→dA.toList[i*e.size+q]?=some u:=by
  have mm:∀i,∃v,∀x,(PE.evs ρ es)[i]?=some x→Rep C.cap σ e v x∧∀q u,v.cells[q]?=some u→dA.toList[i*e.size+q]?=some u:=by
   intro i;cases hx:(PE.evs ρ es)[i]? with
   |none=>exact⟨undef,fun x dg=>by cases dg⟩
   |some x=>
    obtain⟨v,hv⟩:=ami i x hx;exact⟨v,fun y hy=>by cases hy;exact hv⟩
  exact⟨fun i=>Classical.choose (mm i),fun i x hx=>WE (mm i) x hx⟩
 obtain⟨vs,ij⟩:=ij;have dM:dA.size=len*e.size:=by rw[f2,DZ]
 refine⟨dA.toList,PE.evs ρ es,by simp[Env.setO,aK],?_,⟨vs,fun i x hx=>(ij i x hx).1,fun i j u hi hj=>(ij i _ (bF hi)).2 j u hj⟩,fun k hk=>by rw[aK] at hk;simp[Value.ownBlock] at hk;simp[fy,hk]⟩;rw[aK,jn];have O6:len≤maxLen:=by
  have:len*1≤len*e.size:=Nat.mul_le_mul_left _ h1;unfold maxLen;omega
 exact⟨by simp[dM],.inr ⟨w.heap.size,len,dA,rfl,h.below.size,heap_alloc_new w _,bl _,O6,dM,by rw[wg (by simp[dM])]⟩⟩
theorem ais (h:Inv C S ρ σ own hv w0 σ0 A a w)(hC:CtxOK C σ0)(ht:¬A dst)(af:dst<a.tmps.size){T:TypeId}{len:Nat}{ps:Array (Nat×Operand)}{r:St×List PI}(hr:wF C S [] dst T len ps.toList=some r){o:Oper}(hd:o.dst=some dst)
 (ho:o.op=.buildSlice T len ps):bW C w0 σ0 Φ S ρ A a w o r:=by
 obtain⟨E,e,es,v,w',_,_,rfl,ak,hb,dx,cN⟩:=XV h hC rfl hr ho;refine bW.value hd fun ρ' rJ=>⟨_,_,ak,?_⟩
 rw[B3 rJ];exact h.mkObj ht af (.row E e) _ _ (fun k=>Nat.beq k w.heap.size) hb dx cN
theorem Inv.kill (h:Inv C S ρ σ own hv w0 σ0 A a w)(j:Nat):Inv C (S.newO j .dead) ρ σ own hv w0 σ0 A a w:=by
 have dP:∀i,S.ver i≤(S.newO j .dead).ver i:=by
  intro i;show S.ver i≤bV S.ver j (S.ver j+1) i;rw[eZ];by_cases e:i=j
  ·subst e;simp
  ·simp[e]
 have hc:Compat S hv (S.newO j .dead) hv:=⟨dP,fun _ _=>rfl⟩
 refine h.step (·=j) rfl (.refl σ) h.ok (fun _ _ _ hx=>.inl hx) (fun _ _ hx=>.inl hx) (.refl _ _) hc (fun i hi=>⟨by simp[St.newO,br _ _ hi],rfl,rfl,fun k hk=>⟨hk,rfl⟩⟩) (fun i hi=>?_) h.owns (fun _=>id) (fun t=>.inl ⟨rfl,rfl,rfl⟩) (fun _ _=>rfl) (fun _ _ _=>rfl) (fun k i hk=>.inl ⟨i,hk⟩) (fun i hi=>by subst hi;simp[St.newO,aK]);subst hi;simp only[St.newO,aK];trivial
theorem aiI (h:Inv C S ρ σ own hv w0 σ0 A a w)(hC:CtxOK C σ0)(ht:¬A dst)(af:dst<a.tmps.size)(dN:∀g,g∈gs→A g.1)(hg:holds gs ρ=true){T:TypeId}{len:Nat}{ps:Array (Nat×Operand)}{r:St×List PI}(hr:Ah C S gs dst T len ps.toList=some r){o:Oper}(hd:o.dst=some dst)
 (ho:o.op=.buildSlice T len ps):bW C w0 σ0 Φ S ρ A a w o r:=by
 unfold Ah at hr;split at hr
 case h_2=>cases hr
 rename_i E q hT hq;simp only[av] at hr;obtain⟨e,he,hr⟩:=hr;obtain⟨E',e',es,v,w',At,qk,rfl,ak,hb,dx,cN⟩:=XV h hC hg hq ho;rw[hT] at At;cases At;rw[he] at qk;cases qk;cases hr;refine bW.value hd fun ρ' rJ=>⟨_,_,ak,?_⟩
 have hρ:ρ'=ρ.setR dst (.list (PE.evs ρ es)):=by simp[PI.runs,PI.run,PE.ev] at rJ;exact rJ.symm
 subst hρ;have h1:=h.newO dst (.row E e) (.list (PE.evs ρ es)) v (fun k=>Nat.beq k w.heap.size) hb dx cN;obtain⟨σ2,iV,_,h2⟩:=h1.fz dst;have D9:(S.newO dst (.row E e)).fz dst=(S.newO dst (.row E e)).setO dst (.fz (.slice e.rol)):=by
  have:(S.newO dst (.row E e)).o dst=.row E e:=aK _ _ _;unfold St.fz;rw[this]
 rw[D9] at h2;have bh:=h2.objs dst;have e1:((S.newO dst (.row E e)).setO dst (.fz (.slice e.rol))).o dst=.fz (.slice e.rol):=aK _ _ _;rw[e1] at bh;have bS:Rep C.cap σ2 (.slice e.rol) v (.list (PE.evs ρ es)):=by
  have:=bh.2
  rwa [aK,show(ρ.setO dst (.list (PE.evs ρ es))).o dst=.list (PE.evs ρ es) from aK _ _ _] at this
 have h3:Inv C (S.newO dst .dead) ρ σ2 iV (bV hv dst v) w0 σ0 A a w':=by
  refine h2.step (·=dst) rfl (.refl σ2) h2.ok (fun _ _ _ hx=>.inl hx) (fun _ _ hx=>.inl hx) (.refl _ _) ⟨fun i=>bl _,fun _ _=>rfl⟩ (fun i hi=>⟨?_,?_,rfl,fun k hk=>⟨hk,rfl⟩⟩) (fun i hi=>?_) h2.owns (fun _=>id) (fun t=>.inl ⟨rfl,rfl,rfl⟩) (fun _ _=>rfl) (fun _ _ _=>rfl) (fun k i hk=>.inl ⟨i,hk⟩) (fun i hi=>by subst hi;simp[St.newO,aK])
  ·simp[St.newO,St.setO,br _ _ hi]
  ·simp[Env.setO,br _ _ hi]
  ·subst hi;simp only[St.newO,aK];trivial
 have hh:holds gs (ρ.setR dst (.list (PE.evs ρ es)))=true:=by rw[Ep (t:=dst) fun g hm e=>ht (by rw[←e];exact dN g hm)];exact hg
 cases gs with
 |nil=>exact⟨_,_,_,h3.setReg ht (s:=.dat (.slice e.rol)) bS af (fun _ _ e=>by cases e)⟩
 |cons g bM=>
  refine⟨_,_,_,h3.setReg ht (s:=.opt (g::bM) (.dat (.slice e.rol))) ⟨fun _=>bS,fun e=>absurd (hh.symm.trans e) (by decide)⟩ af (fun gs s e=>?_)⟩;cases e;exact⟨dN,fun _ _ e=>by cases e⟩
end
end Cx
