/-
  Shared texts of this claim.
-/
import Derived.Test.YtmnnipoiigfapaaGreatDoorHAB
import Derived.Laws.OwnMore
import Derived.Lib.ConvBytes
set_option linter.unusedSimpArgs false
set_option linter.unusedVariables false
namespace Cx
open Go Go.RowKit
def gu (b i:Nat):Nat:=4096*(i+1)+b
def St.fz (S:St)(j:Nat):St:=
 match S.o j with
 |.row _ e=>S.setO j (.fz (.slice e.rol))
 |.mp k e=>S.setO j (.fz (.map k e))
 |_=>S
def CQ (S:St)(b:Nat):Option (St×List PI):=
 match S.o b with
 |.box ag shs=>
  (qF S (.o b) shs 0).bind fun x=>
    bif ag then some (S.setO b (.fbox (.agg x.1)),[.setO b (.mk x.2)])
    else match x.1,x.2 with
     |[t],[e]=>some (S.setO b (.fbox t),[.setO b e])
     |_,_=>Option.none
 |_=>Option.none
def St.mv (S:St)(j j':Nat):St:=
 {S with o:=bY (bY S.o j' (S.o j)) j .dead,ver:=bY (bY S.ver j' (S.ver j'+1)) j (S.ver j+1)}
def kT:Ob→Bool
 |.row ..=>true
 |.mp ..=>true
 |_=>false
def xT (S:St)(t j':Nat):Option (St×List PI):=
 match S.r t with
 |.obj j ver=>
  bif Nat.beq ver (S.ver j)&&kT (S.o j)&& !Nat.beq j j' then some ((S.mv j j').setR t (.obj j' (S.ver j'+1)),[.setO j' (.o j)])
  else some (S,[])
 |_=>some (S,[])
def Fu (S:St)(b i j':Nat):Option (St×List PI):=
 match S.o b with
 |.box ag shs=>
  match shs[i]? with
  |some (.obj j ver)=>
   bif Nat.beq ver (S.ver j)&&kT (S.o j)&& !Nat.beq j j'&& !Nat.beq b j'&& !Nat.beq b j then
    some ((S.mv j j').setO b (.box ag (shs.set i (.obj j' (S.ver j'+1)))),[.setO j' (.o j)])
   else some (S,[])
  |_=>some (S,[])
 |_=>some (S,[])
def DA (C:Ctx)(S:St)(b i j:Nat)(T:TypeId):Option (St×List PI):=
 match S.o b with
 |.box ag shs=>
  match shs[i]?,oS C.P T with
  |some (.dat (.nils _)),some e=>
   bif !Nat.beq b j then some ((S.newO j (.row T e)).setO b (.box ag (shs.set i (.obj j (S.ver j+1)))),[.setO j (.con (.list []))])
   else some (S,[])
  |_,_=>some (S,[])
 |_=>some (S,[])
section
variable {C:Ctx} {S:St} {ρ:Env} {σ:Im} {own:Nat→Option Nat} {hv:Nat→Value} {w0:World} {σ0:Base} {A:Nat→Prop} {a:Act} {w:World} {gs:List (Nat×Bool)} {Φ:aQ} {dst:Nat}
theorem Inv.lt (h:Inv C S ρ σ own hv w0 σ0 A a w){k o:Nat}{u:Value}(hc:σ.c k o=some u):k<w.heap.size:=World.block_lt_of_cell? w (a:=⟨k,o,none⟩) (h.ok.c _ _ _ hc)
theorem Inv.ltm (h:Inv C S ρ σ own hv w0 σ0 A a w){k:Nat}{es:List (Value×Value)}(hc:σ.m k=some es):k<w.heap.size:=by
 exact(h.ok.m _ _ hc).lt
theorem Im.ok.below {σ:Im}{w w':World}(h:σ.ok w)(hb:Below w.heap.size w w'):σ.ok w':=by
 refine⟨fun k o v hc=>?_,fun k es hc=>?_⟩
 ·have h1:=h.c k o v hc;rw[hb.cell (World.block_lt_of_cell? w (a:=⟨k,o,none⟩) h1)];exact h1
 ·exact(h.m k es hc).keep (hb.block k (h.m k es hc).lt)
def fq (own:Nat→Option Nat)(j:Nat)(nb:Nat→Bool):Nat→Option Nat:=fun k=>if nb k then some j else if own k=some j then none else own k
theorem Inv.newOσ (h:Inv C S ρ σ own hv w0 σ0 A a w)(j:Nat)(ob:Ob)(d:D)(v:Value)(nb:Nat→Bool){σ':Im}{w':World}(hle:σ.le σ')(aB:σ'.ok w')(da:∀k o x,σ'.c k o=some x→σ.c k o=some x∨w.heap.size≤k)(cR:∀k x,σ'.m k=some x→σ.m k=some x∨w.heap.size≤k)
 (hw:Below w.heap.size w w') (dA:∀k,nb k=true→w.heap.size≤k∧k<w'.heap.size) (dg:∀k,nb k=true→(∀o,σ'.c k o=none)∧σ'.m k=none)
 (cS:cn C (S.newO j ob) (ρ.setO j d) σ' (fq own j nb) (bY hv j v) w' w0.heap.size j ob) (m8:ob≠.tr:=by intro h;cases h):Inv C (S.newO j ob) (ρ.setO j d) σ' (fq own j nb) (bY hv j v) w0 σ0 A a w':=by
 have aK:w0.heap.size≤w.heap.size:=h.below.size;have cm:∀k i,i≠j→own k=some i→fq own j nb k=some i:=by
  intro k i hi hk;have h1:=h.owns k i hk;have h2:nb k=false:=by
   cases hn:nb k with
   |false=>rfl
   |true=>have:=dA k hn;omega
  simp[fq,h2,hk,hi]
 refine h.step (fun i=>i=j) rfl hle aB (fun k o x hx=>(da k o x hx).imp id fun e=>⟨by omega,.inr e⟩) (fun k x hx=>(cR k x hx).imp id fun e=>⟨by omega,.inr e⟩) (hw.mono aK) ⟨fun i=>?_,fun i e=>?_⟩ (fun i hi=>⟨?_,?_,?_,fun k hk=>⟨cm k i hi hk,?_⟩⟩) (fun i hi=>?_) (fun k i hk=>?_) (fun _=>id) (fun t=>.inl ⟨rfl,rfl,rfl⟩) (fun _ _=>rfl) (fun k hk _=>hw.block k hk) (fun k i hk=>by
  unfold fq at hk;split at hk
  ·rename_i hn;exact .inr (dA k hn).1
  ·split at hk
   ·cases hk
   ·exact .inl ⟨i,hk⟩) (fun i hi=>by subst hi;simpa only[St.newO,aL] using m8)
 ·simp only[St.newO,eV];split<;>rename_i e
  ·subst e;omega
  ·omega
 ·simp only[St.newO,eV] at e;split at e
  ·rename_i e';subst e';omega
  ·rename_i ay;exact bq _ _ ay
 ·simp[St.newO,bq _ _ hi]
 ·simp[Env.setO,bq _ _ hi]
 ·exact bq _ _ hi
 ·exact hw.block k (h.owns k i hk).2.1
 ·subst hi;simp only[St.newO,aL];exact cS
 ·unfold fq at hk;split at hk
  ·rename_i hn;obtain⟨g1,g2⟩:=dA k hn;exact⟨by omega,g2,(dg k hn).1,(dg k hn).2⟩
  ·split at hk
   ·cases hk
   ·obtain⟨g1,g2,g3,g4⟩:=h.owns k i hk;refine⟨g1,by have:=hw.size;omega,fun o=>?_,?_⟩
    ·cases hc:σ'.c k o with
     |none=>rfl
     |some u=>
      rcases da k o u hc with e|e
      ·rw[g3 o] at e;cases e
      ·omega
    ·cases hc:σ'.m k with
     |none=>rfl
     |some u=>
      rcases cR k u hc with e|e
      ·rw[g4] at e;cases e
      ·omega
theorem Inv.newO (h:Inv C S ρ σ own hv w0 σ0 A a w)(j:Nat)(ob:Ob)(d:D)(v:Value)(nb:Nat→Bool){w':World}(hw:Below w.heap.size w w')(dA:∀k,nb k=true→w.heap.size≤k∧k<w'.heap.size)
 (cS:cn C (S.newO j ob) (ρ.setO j d) σ (fq own j nb) (bY hv j v) w' w0.heap.size j ob) (m8:ob≠.tr:=by intro h;cases h):Inv C (S.newO j ob) (ρ.setO j d) σ (fq own j nb) (bY hv j v) w0 σ0 A a w':=by
 refine h.newOσ j ob d v nb (.refl σ) (h.ok.below hw) (fun _ _ _ hx=>.inl hx) (fun _ _ hx=>.inl hx) hw dA (fun k hn=>⟨fun o=>?_,?_⟩) cS m8
 ·cases hc:σ.c k o with
  |none=>rfl
  |some u=>have:=h.lt hc;have:=(dA k hn).1;omega
 ·cases hc:σ.m k with
  |none=>rfl
  |some u=>have:=h.ltm hc;have:=(dA k hn).1;omega
theorem Inv.setObj (h:Inv C S ρ σ own hv w0 σ0 A a w){t j:Nat}(ht:¬A t){v:Value}(eL:hv j=v)(ah:t<a.tmps.size):
 Inv C (S.setR t (.obj j (S.ver j))) (ρ.setR t .none) σ own hv w0 σ0 (fun u=>A u∨u=t) (a.put (some t) v) w:=
 h.setReg ht (s:=.obj j (S.ver j)) (v:=v) (d:=.none) ⟨bk _,fun _=>eL.symm⟩ ah (fun _ _ e=>by cases e)
theorem HX (S:St)(j:Nat):(S.fz j).ver=S.ver∧(S.fz j).r=S.r:=by
 unfold St.fz;split<;>exact⟨rfl,rfl⟩
theorem Inv.fz (h:Inv C S ρ σ own hv w0 σ0 A a w)(j:Nat):∃σ' own',σ.le σ'∧Inv C (S.fz j) ρ σ' own' hv w0 σ0 A a w:=by
 have bf:=h.objs j;unfold St.fz;split
 ·rename_i T e eo;rw[eo] at bf;obtain⟨cells,xs,h1,h2,⟨vs,h3,h4⟩,h5⟩:=bf;have aK:w0.heap.size≤w.heap.size:=h.below.size
  let nb:Nat→Bool:=fun k=>decide ((hv j).ownBlock=some k)
  let σ':Im:={c:=fun k o=>if nb k then cells[o]? else σ.c k o,m:=σ.m}
  have dA:∀k,nb k=true→own k=some j:=fun k hk=>h5 k (by simpa [nb] using hk);have hle:σ.le σ':=by
   refine⟨fun k o v hc=>?_,fun k es hc=>hc⟩;have:nb k=false:=by
        cases hn:nb k with
        |false=>rfl
        |true=>have:=(h.owns k j (dA k hn)).2.2.1 o;rw[this] at hc;cases hc
   simp[σ',this,hc]
  refine⟨σ',fun k=>if nb k then none else own k,hle,h.step (fun i=>i=j) rfl hle ?_ (fun k o x hx=>?_) (fun _ _ hx=>.inl hx) (.refl _ _) ⟨fun _=>bk _,fun _ _=>rfl⟩ (fun i hi=>⟨?_,rfl,rfl,fun k hk=>⟨?_,rfl⟩⟩) (fun i hi=>?_) (fun k i hk=>?_) (fun _=>id) (fun t=>.inl ⟨rfl,rfl,rfl⟩) (fun _ _=>rfl) (fun _ _ _=>rfl) (fun k i hk=>by
        split at hk
        ·cases hk
        ·exact .inl ⟨i,hk⟩) (fun i hi=>by subst hi;simp[St.setO,aL])⟩
  ·refine⟨fun k o v hc=>?_,h.ok.m⟩;simp only[σ'] at hc;split at hc
   ·rename_i hn;have cS:(hv j).ownBlock=some k:=by simpa [nb] using hn
    have:=h2.cells cS o v hc;rw[se] at this;simpa using this
   ·exact h.ok.c k o v hc
  ·simp only[σ'] at hx;split at hx
   ·rename_i hn;exact .inr ⟨(h.owns k j (dA k hn)).1,.inl ⟨j,dA k hn⟩⟩
   ·exact .inl hx
  ·simp[St.setO,bq _ _ hi]
  ·have:nb k=false:=by
        cases hn:nb k with
        |false=>rfl
        |true=>rw[dA k hn] at hk;simp at hk;exact absurd hk.symm hi
   simp[this,hk]
  ·subst hi;simp only[St.setO,aL];refine⟨rfl,?_⟩;rw[h1];rcases h2.2 with⟨e1,e2⟩|⟨g,cap,cur,e1,e2,e3,e4,e5,e6,e7⟩
   ·rw[e1];have:xs=[]:=Lm e2;subst this;exact .nil _
   ·rw[e1];refine .slice e.rol g 0 xs.length cap xs vs rfl e4 e5 (fun i x hx=>((h3 i x hx).mono hle).unf_rol) (fun i m u hi hu=>?_);rw[Ty.rol_size];have hn:nb g=true:=by simp[nb,e1,Value.ownBlock]
    simp only[σ',hn,if_true,gF];exact h4 i m u hi hu
  ·split at hk
   ·cases hk
   ·rename_i hn;obtain⟨g1,g2,g3,g4⟩:=h.owns k i hk;exact⟨g1,g2,fun o=>by simp[σ',hn,g3 o],g4⟩
 ·rename_i kt et eo;rw[eo] at bf;obtain⟨k0,arr,clock,fD,h1,h2,h3,h4,h5,⟨hx,_⟩,h6⟩:=bf;have aK:w0.heap.size≤w.heap.size:=h.below.size
  let σ':Im:={c:=σ.c,m:=fun k=>if k=k0 then some (entriesOf arr) else σ.m k}
  have hle:σ.le σ':=by
   refine⟨fun k o v hc=>hc,fun k es hc=>?_⟩;have:k≠k0:=fun e=>by subst e;rw[(h.owns k j h2).2.2.2] at hc;cases hc
   simp[σ',this,hc]
  refine⟨σ',fun k=>if k=k0 then none else own k,hle,h.step (fun i=>i=j) rfl hle ?_ (fun k o x hx=>.inl hx) (fun k x hx=>?_) (.refl _ _) ⟨fun _=>bk _,fun _ _=>rfl⟩ (fun i hi=>⟨?_,rfl,rfl,fun k hk=>⟨?_,rfl⟩⟩) (fun i hi=>?_) (fun k i hk=>?_) (fun _=>id) (fun t=>.inl ⟨rfl,rfl,rfl⟩) (fun _ _=>rfl) (fun _ _ _=>rfl) (fun k i hk=>by
        split at hk
        ·cases hk
        ·exact .inl ⟨i,hk⟩) (fun i hi=>by subst hi;simp[St.setO,aL])⟩
  ·refine⟨h.ok.c,fun k es hc=>?_⟩;simp only[σ'] at hc;split at hc
   ·rename_i e;subst e;cases hc;refine .inl ⟨fun e=>?_,arr,clock,h3,rfl⟩;refine D8 (cap:=C.cap) (σ:=σ) (kt:=kt) (es:=fD) (by simp[entriesOf,h5]) (fun i p q hp hq=>?_) e;simp only[entriesOf,cC,aA] at hp;obtain⟨x,dm,rfl⟩:=hp;exact(h6 i x q (by simpa using dm) hq).1
   ·exact h.ok.m k es hc
  ·simp only[σ'] at hx;split at hx
   ·rename_i e;subst e;exact .inr ⟨(h.owns k j h2).1,.inl ⟨j,h2⟩⟩
   ·exact .inl hx
  ·simp[St.setO,bq _ _ hi]
  ·have:k≠k0:=fun e=>by subst e;rw[h2] at hk;simp at hk;exact hi hk.symm
   simp[this,hk]
  ·subst hi;simp only[St.setO,aL];refine⟨rfl,?_⟩;rw[h1,h4];refine .map kt et k0 (entriesOf arr) fD (by simp[σ']) (by simp[entriesOf,h5]) hx (fun i p q hp hq=>?_) (fun i p q hp hq=>?_)
   ·simp only[entriesOf,cC,aA] at hp;obtain⟨e,he,rfl⟩:=hp;exact((h6 i e q (by simpa using he) hq).1).mono hle
   ·simp only[entriesOf,cC,aA] at hp;obtain⟨e,he,rfl⟩:=hp;exact((h6 i e q (by simpa using he) hq).2).mono hle
  ·split at hk
   ·cases hk
   ·rename_i hn;obtain⟨g1,g2,g3,g4⟩:=h.owns k i hk;exact⟨g1,g2,g3,by simp[σ',hn,g4]⟩
 ·exact⟨σ,own,.refl σ,h⟩
end
end Cx
namespace Cx
open Go Go.RowKit
section
variable {C:Ctx} {S:St} {ρ:Env} {σ:Im} {own:Nat→Option Nat} {hv:Nat→Value} {w0:World} {σ0:Base} {A:Nat→Prop} {a:Act} {w:World} {gs:List (Nat×Bool)} {Φ:aQ} {dst:Nat}
theorem rF {j:Nat}{e:PE}{ρ':Env}(h:PI.runs Φ [.setO j e] ρ=some ρ'):ρ'=ρ.setO j (e.ev ρ):=by
 simp[PI.runs,PI.run] at h;exact h.symm
theorem nA {ρ':Env}(h:PI.runs Φ [] ρ=some ρ'):ρ'=ρ:=by
 simp[PI.runs] at h;exact h.symm
def BJ (C:Ctx)(w0:World)(σ0:Base)(Φ:aQ)(S:St)(ρ:Env)(A:Nat→Prop)(a:Act)(w:World)(r:St×List PI):Prop:=
 ∀ρ',PI.runs Φ r.2 ρ=some ρ'→Good C w0 σ0 r.1 ρ' A a w
theorem aiu (h:Inv C S ρ σ own hv w0 σ0 A a w){b:Nat}{r:St×List PI}(hr:CQ S b=some r):BJ C w0 σ0 Φ S ρ A a w r:=by
 unfold CQ at hr;split at hr
 case h_2=>cases hr
 rename_i ag shs eo;simp only[av] at hr;obtain⟨x,hx,hr⟩:=hr;have bf:=h.objs b;rw[eo] at bf;obtain⟨k,cs,T,ds,h1,h2,h3,h4,h5,h6,h7⟩:=bf;obtain⟨l1,es,⟨he,pO⟩,l2,bW⟩:=MD (b:=.o b) h (cs:=cs.toList) h5 shs 0 x (fun m s hm=>by rw[zL,gF];exact(h7 m s hm).2) hx
 let σ':Im:={c:=fun k' o=>if k'=k then cs[o]? else σ.c k' o,m:=σ.m}
 have hle:σ.le σ':=by
  refine⟨fun k' o v hc=>?_,fun k es hc=>hc⟩;have:k'≠k:=fun e=>by subst e;rw[(h.owns k' b h2).2.2.1 o] at hc;cases hc
  simp[σ',this,hc]
 have key:∀(t:Ty) (v:Value) (d:D),Rep C.cap σ' t v d→(∀(i:Nat) (u:Value),v.cells[i]?=some u→cs[i]?=some u)→
  Inv C (S.setO b (.fbox t)) (ρ.setO b d) σ' (fun k'=>if k'=k then none else own k') hv w0 σ0 A a w:=by
  intro t v d hrv be
  refine h.step (fun i=>i=b) rfl hle ?_ (fun k' o x hx=>?_) (fun _ _ hx=>.inl hx) (.refl _ _) ⟨fun _=>bk _,fun _ _=>rfl⟩ (fun i hi=>⟨?_,?_,rfl,fun k' hk=>⟨?_,rfl⟩⟩) (fun i hi=>?_) (fun k' i hk=>?_) (fun _=>id) (fun t=>.inl ⟨rfl,rfl,rfl⟩) (fun _ _=>rfl) (fun _ _ _=>rfl) (fun k' i hk=>by
        split at hk
        ·cases hk
        ·exact .inl ⟨i,hk⟩) (fun i hi=>by subst hi;simp[St.setO,aL])
  ·refine⟨fun k' o v hc=>?_,h.ok.m⟩;simp only[σ'] at hc;split at hc
   ·rename_i e;subst e;simp[World.cell?,h3,hc]
   ·exact h.ok.c k' o v hc
  ·simp only[σ'] at hx;split at hx
   ·rename_i e;subst e;exact .inr ⟨(h.owns k' b h2).1,.inl ⟨b,h2⟩⟩
   ·exact .inl hx
  ·simp[St.setO,bq _ _ hi]
  ·simp[Env.setO,bq _ _ hi]
  ·have:k'≠k:=fun e=>by subst e;rw[h2] at hk;simp at hk;exact hi hk.symm
   simp[this,hk]
  ·subst hi;simp only[St.setO,aL];exact⟨k,v,h1,by simp only[Env.setO,aL];exact hrv,fun i u hu=>by simp[σ',be i u hu]⟩
  ·split at hk
   ·cases hk
   ·rename_i hn;obtain⟨g1,g2,g3,g4⟩:=h.owns k' i hk;exact⟨g1,g2,fun o=>by simp[σ',hn,g3 o],g4⟩
 have iN:∀(m:Nat) (t:Ty),x.1[m]?=some t→t.one=true∧Rep C.cap σ' t (cs.toList.getD m undef) (es.getD m .none):=fun m t hm=>by
  obtain⟨g1,g2⟩:=bW m t hm;rw[gF] at g2;exact⟨g1,g2.mono hle⟩
 intro ρ' ak;cases ag with
 |true=>
  simp only[cond_true] at hr;cases hr;have:=rF ak;subst this;refine⟨_,_,_,key (.agg x.1) (.agg cs.toList.toArray) _ ?_ (fun i u hu=>by simpa [Value.cells] using hu)⟩;simp only[PE.ev,he];exact .agg _ _ _ (by simp;omega) (by omega) (fun m t hm=>(iN m t hm).2) (fun m t hm=>(iN m t hm).1)
 |false=>
  simp only[cond_false] at hr;split at hr
  ·rename_i t e et ee;cases hr;have:=rF ak;subst this;obtain⟨g1,g2⟩:=iN 0 t (by rw[et];rfl);have jm:es=[e.ev ρ]:=by rw[←pO,ee];rfl
   subst jm;refine⟨_,_,_,key t (cs.toList.getD 0 undef) _ (by simpa using g2) (fun i u hu=>?_)⟩;rw[(g2.oneCell g1).1] at hu;have hi:i=0:=by
        have:=(gj.1 hu).1;simpa using this
   subst hi;simp at hu;subst hu;have:0<cs.size:=by rw[h4];rw[et] at l1;simp at l1;omega
   rw[fB this];simp[aJ,fB this]
  ·cases hr
theorem Inv.mv (h:Inv C S ρ σ own hv w0 σ0 A a w){j j':Nat}(ay:j≠j')(hk:kT (S.o j)=true):
 Inv C (S.mv j j') (ρ.setO j' (ρ.o j)) σ (fun k=>if own k=some j then some j' else if own k=some j' then none else own k) (bY hv j' (hv j)) w0 σ0 A a w:=by
 have bf:=h.objs j
 refine h.step (fun i=>i=j∨i=j') rfl (.refl σ) h.ok (fun _ _ _ hx=>.inl hx) (fun _ _ hx=>.inl hx) (.refl _ _) ⟨fun i=>?_,fun i e=>?_⟩ (fun i hi=>?_) (fun i hi=>?_) (fun k i hk=>?_) (fun _=>id) (fun t=>.inl ⟨rfl,rfl,rfl⟩) (fun _ _=>rfl) (fun _ _ _=>rfl) (fun k i hk=>by
        split at hk
        ·rename_i e;exact .inl ⟨j,e⟩
        ·split at hk
         ·cases hk
         ·exact .inl ⟨i,hk⟩) (fun i hi=>by
        rcases hi with rfl|rfl
        ·simp[St.mv,aL]
        ·simp only[St.mv,bq _ _ (tS ay),aL];intro e;rw[e] at hk;cases hk)
 ·simp only[St.mv,eV];split
  ·rename_i e;subst e;omega
  ·split
   ·rename_i e;subst e;omega
   ·omega
 ·simp only[St.mv,eV] at e;split at e
  ·rename_i e';subst e';omega
  ·split at e
   ·rename_i e';subst e';omega
   ·rename_i N7;exact bq _ _ N7
 ·simp only[not_or] at hi;refine⟨by simp[St.mv,bq _ _ hi.1,bq _ _ hi.2],by simp[Env.setO,bq _ _ hi.2],bq _ _ hi.2,fun k hk=>⟨?_,rfl⟩⟩;have e1:i≠j:=hi.1;have e2:i≠j':=hi.2;simp[hk,e1,e2]
 ·rcases hi with rfl|rfl
  ·simp only[St.mv,aL];trivial
  ·simp only[St.mv,bq _ _ (tS ay),aL];cases cS:S.o j with
   |row T e=>
    rw[cS] at bf;obtain⟨cells,xs,h1,h2,h3,h4⟩:=bf;refine⟨cells,xs,by simp only[Env.setO,aL];exact h1,by rw[aL];exact h2,h3,fun k hk=>?_⟩;rw[aL] at hk;simp[h4 k hk]
   |mp kt et=>
    rw[cS] at bf;obtain⟨k0,arr,clock,es,h1,h2,h3,h4,h5,h6⟩:=bf;exact⟨k0,arr,clock,es,by rw[aL];exact h1,by simp[h2],h3,by simp only[Env.setO,aL];exact h4,h5,h6⟩
   |_=>rw[cS] at hk;simp[kT] at hk
 ·split at hk
  ·rename_i e;exact h.owns k j e
  ·split at hk
   ·cases hk
   ·exact h.owns k i hk
theorem aqD (h:Inv C S ρ σ own hv w0 σ0 A a w){t j':Nat}{r:St×List PI}(hr:xT S t j'=some r):BJ C w0 σ0 Φ S ρ A a w r:=by
 intro ρ' ak;unfold xT at hr;split at hr
 ·rename_i j ver es;cases hb:(Nat.beq ver (S.ver j)&&kT (S.o j)&& !Nat.beq j j')<;>simp only[hb,cond_true,cond_false] at hr
  ·cases hr;rw[nA ak];exact⟨_,_,_,h⟩
  ·cases hr;simp only[ao,gS] at hb;have dQ:=az hb.1.1;have ay:j≠j':=fun e=>by subst e;simp at hb
   have lx:=h.mv ay hb.1.2;have fY:=h.regs t;rw[es] at fY;have cu:=fY.2 dQ;rw[rF ak];refine⟨_,_,_,lx.step (S':=(S.mv j j').setR t (.obj j' (S.ver j'+1))) (fun _=>False) rfl (.refl σ) lx.ok (fun _ _ _ hx=>.inl hx) (fun _ _ hx=>.inl hx) (.refl _ _) ⟨fun _=>bk _,fun _ _=>rfl⟩ (fun i _=>⟨rfl,rfl,rfl,fun k hk=>⟨hk,rfl⟩⟩) (fun _ hf=>hf.elim) lx.owns (fun _=>id) (fun u=>?_) (fun _ _=>rfl) (fun _ _ _=>rfl) (fun k i hk=>.inl ⟨i,hk⟩) (fun _ hf=>hf.elim)⟩;by_cases hu:u=t
   ·subst hu;refine .inr ⟨?_,fun gs s e=>by simp[St.setR,aL] at e⟩;simp only[St.setR,aL];refine⟨?_,fun _=>?_⟩
    ·simp[St.mv,bq _ _ (tS ay),aL]
    ·rw[aL];exact cu
   ·exact .inl ⟨by simp[St.setR,bq _ _ hu],rfl,rfl⟩
 ·cases hr;rw[nA ak];exact⟨_,_,_,h⟩
theorem aqC (h:Inv C S ρ σ own hv w0 σ0 A a w){b i j':Nat}{r:St×List PI}(hr:Fu S b i j'=some r):BJ C w0 σ0 Φ S ρ A a w r:=by
 intro ρ' ak;unfold Fu at hr;split at hr
 ·rename_i ag shs eo;split at hr
  ·rename_i j ver es;cases hb:(Nat.beq ver (S.ver j)&&kT (S.o j)&& !Nat.beq j j'&& !Nat.beq b j'&& !Nat.beq b j)<;>simp only[hb,cond_true,cond_false] at hr
   ·cases hr;rw[nA ak];exact⟨_,_,_,h⟩
   ·cases hr;simp only[ao,gS] at hb;have dQ:=az hb.1.1.1.1;have ay:j≠j':=fun e=>by subst e;simp at hb
    have gZ:b≠j':=fun e=>by subst e;simp at hb
    have dk:b≠j:=fun e=>by subst e;simp at hb
    have bf:=h.objs b;rw[eo] at bf;obtain⟨k,cs,T,ds,h1,h2,h3,h4,h5,h6,h7⟩:=bf;have cu:=(h7 i _ es).2.2 dQ;have lx:=h.mv ay hb.1.1.1.2;rw[rF ak];have M2:(S.mv j j').o b=.box ag shs:=by simp[St.mv,bq _ _ gZ,bq _ _ dk,eo]
    have Dy:=lx.objs b;rw[M2] at Dy;refine⟨_,_,_,lx.step (S':=(S.mv j j').setO b (.box ag (shs.set i (.obj j' (S.ver j'+1))))) (fun m=>m=b) rfl (.refl σ) lx.ok (fun _ _ _ hx=>.inl hx) (fun _ _ hx=>.inl hx) (.refl _ _) ⟨fun _=>bk _,fun _ _=>rfl⟩ (fun m hm=>⟨by simp[St.setO,bq _ _ hm],rfl,rfl,fun k hk=>⟨hk,rfl⟩⟩) (fun m hm=>?_) lx.owns (fun _=>id) (fun t=>.inl ⟨rfl,rfl,rfl⟩) (fun _ _=>rfl) (fun _ _ _=>rfl) (fun k i hk=>.inl ⟨i,hk⟩) (fun m hm=>by subst hm;simp[St.setO,aL])⟩;subst hm;rw[St.setO_o];obtain⟨k1,Ck,T1,Cn,g1,g2,g3,g4,g5,g6,g7⟩:=Dy;have e1:Ck=cs:=by
     rw[bq _ _ gZ,h1] at g1;cases g1;rw[h3] at g3;cases g3;rfl
    refine⟨k1,Ck,T1,Cn,g1,g2,g3,by simpa using g4,g5,by simpa using g6,fun q x hq=>?_⟩;rw[BM] at hq;split at hq
    ·rename_i e;subst e;split at hq
     ·cases hq;refine⟨(fun _ _ e=>by cases e),?_,fun _=>?_⟩
      ·simp[St.setO,St.mv,bq _ _ (tS ay),aL]
      ·rw[aL,e1];exact cu
     ·cases hq
    ·obtain⟨f1,f2⟩:=g7 q x hq;exact⟨f1,f2.mono' (.refl σ) (Compat.setO _ _ _ _) f1⟩
  ·cases hr;rw[nA ak];exact⟨_,_,_,h⟩
 ·cases hr;rw[nA ak];exact⟨_,_,_,h⟩
theorem akN (h:Inv C S ρ σ own hv w0 σ0 A a w){b i j:Nat}{T:TypeId}{r:St×List PI}(hr:DA C S b i j T=some r):BJ C w0 σ0 Φ S ρ A a w r:=by
 intro ρ' ak;unfold DA at hr;split at hr
 ·rename_i ag shs eo;split at hr
  ·rename_i e0 e es et;cases hb:(!Nat.beq b j)<;>simp only[hb,cond_true,cond_false] at hr
   ·cases hr;rw[nA ak];exact⟨_,_,_,h⟩
   ·cases hr;have ay:b≠j:=fun e=>by subst e;simp at hb
    have bf:=h.objs b;rw[eo] at bf;obtain⟨k,cs,T0,ds,h1,h2,h3,h4,h5,h6,h7⟩:=bf;have cu:cs.getD i undef=.slice none 0 0:=by
     have:=(h7 i _ es).2;generalize cs.getD i undef=v at this;generalize ds.getD i .none=d at this;cases this;rfl
    have lz:=h.newO j (.row T e) (.list []) (.slice none 0 0) (fun _=>false) (.refl _ _) (by simp) ⟨[],[],by simp[Env.setO,aL],by rw[aL];exact World.ownsRow_nil _ _ _ _,⟨fun _=>undef,by simp,by simp⟩,by rw[aL];simp[Value.ownBlock]⟩;rw[rF ak];have M2:(S.newO j (.row T e)).o b=.box ag shs:=by simp[St.newO,bq _ _ ay,eo]
    have Dy:=lz.objs b;rw[M2] at Dy;refine⟨_,_,_,lz.step (S':=(S.newO j (.row T e)).setO b (.box ag (shs.set i (.obj j (S.ver j+1))))) (fun m=>m=b) rfl (.refl σ) lz.ok (fun _ _ _ hx=>.inl hx) (fun _ _ hx=>.inl hx) (.refl _ _) ⟨fun _=>bk _,fun _ _=>rfl⟩ (fun m hm=>⟨by simp[St.setO,bq _ _ hm],rfl,rfl,fun k hk=>⟨hk,rfl⟩⟩) (fun m hm=>?_) lz.owns (fun _=>id) (fun t=>.inl ⟨rfl,rfl,rfl⟩) (fun _ _=>rfl) (fun _ _ _=>rfl) (fun k i hk=>.inl ⟨i,hk⟩) (fun m hm=>by subst hm;simp[St.setO,aL])⟩;subst hm;rw[St.setO_o];obtain⟨k1,Ck,T1,Cn,g1,g2,g3,g4,g5,g6,g7⟩:=Dy;have e1:Ck=cs:=by
     rw[bq _ _ ay,h1] at g1;cases g1;rw[h3] at g3;cases g3;rfl
    refine⟨k1,Ck,T1,Cn,g1,g2,g3,by simpa using g4,g5,by simpa using g6,fun q x hq=>?_⟩;rw[BM] at hq;split at hq
    ·rename_i e';subst e';split at hq
     ·cases hq;refine⟨(fun _ _ e=>by cases e),?_,fun _=>?_⟩
      ·simp[St.setO,St.newO,aL]
      ·rw[aL,e1];exact cu
     ·cases hq
    ·obtain⟨f1,f2⟩:=g7 q x hq;exact⟨f1,f2.mono' (.refl σ) (Compat.setO _ _ _ _) f1⟩
  ·cases hr;rw[nA ak];exact⟨_,_,_,h⟩
 ·cases hr;rw[nA ak];exact⟨_,_,_,h⟩
end
end Cx
namespace Cx
open Go Go.RowKit
def mkObj (S:St)(dst:Nat)(ob:Ob):St:=(S.newO dst ob).setR dst (.obj dst (S.ver dst+1))
def mkPtr (S:St)(dst:Nat)(ob:Ob):St:=(S.newO dst ob).setR dst (.ptr dst (S.ver dst+1) 0)
abbrev kH:=Option (St×List PI)
def Cz (C:Ctx)(S:St)(dst:Nat)(T:TypeId)(x:Operand):kH:=
 match use C S [] x,C.P.underlying T with
 |some (.nils _,_),some (.slice E)=>(oS C.P E).map fun e=>(mkObj S dst (.row E e),[.setO dst (.con (.list [])),.setR dst (.con .none)])
 |_,_=>Option.none
def Co (C:Ctx)(S:St)(dst:Nat)(T:TypeId):kH:=
 match oS C.P T,C.P.info? T,pV C.P T with
 |some t,some inf,some ag=>
  bif tI inf t&&(t.rowT||t.one) then
   (oT t).map fun z=>(mkPtr S dst (.box ag (z.1.flat.map .dat)),[.setO dst (.con (.agg z.2.cells)),.setR dst (.con .none)])
  else Option.none
 |_,_,_=>Option.none
def Cq (C:Ctx)(S:St)(dst:Nat)(T:TypeId)(x:Operand):kH:=
 match use C S [] x,pV C.P T with
 |some (t,e),some ag=>
  bif t.rowT||t.one then some (mkPtr S dst (.box ag (t.flat.map .dat)),[.setO dst (.mk [e]),.setR dst (.con .none)]) else Option.none
 |Option.none,some true=>
  match fw S [] x with
  |.agg l=>some (mkPtr S dst (.box true (l.map AgC.sh)),[.setO dst (rD x),.setR dst (.con .none)])
  |_=>Option.none
 |_,_=>Option.none
def Cv (C:Ctx)(S:St)(dst:Nat)(T:TypeId)(r:Option Operand):kH:=
 match C.P.underlying T,r with
 |some (.map K E),Option.none=>
  (oS C.P K).bind fun kt=>(oS C.P E).map fun et=>(mkObj S dst (.mp kt et),[.setO dst (.con (.map [])),.setR dst (.con .none)])
 |_,_=>Option.none
def Cw (C:Ctx)(S:St)(dst:Nat)(T:TypeId)(l c:Operand):kH:=
 match C.P.underlying T,use C S [] l,use C S [] c with
 |some (.slice E),some (.int _,n),some (.int _,m)=>
  (oS C.P E).bind fun e=>
    bif qJ C.P E e then
     (oT e).bind fun z=>
        bif Ty.sub z.1 e then some (mkObj S dst (.row E e),[.chk (Pe n),.chk (.ci .eql n m),.setO dst (.rep n (.con z.2)),.setR dst (.con .none)]) else Option.none
    else Option.none
 |_,_,_=>Option.none
def CA (C:Ctx)(S:St)(dst:Nat)(T:TypeId)(x:Operand):kH:=
 match C.P.underlying T,fw S [] x with
 |some (.map _ _),.obj j ver=>
  bif Nat.beq ver (S.ver j)&& !Nat.beq j dst then
   match S.o j with
   |.mp kt et=>some (mkObj (S.mv j dst) dst (.it kt et),[.setO dst (.tup [.lst [],.o j]),.setR dst (.con .none)])
   |_=>Option.none
  else Option.none
 |_,_=>Option.none
def Cr (C:Ctx)(S:St)(dst:Nat)(s d:TypeId)(x:Operand):kH:=
 match use C S [] x,C.P.underlying s,C.P.underlying d with
 |some (.str,e),some .string,some (.slice E)=>
  (match C.P.underlying E with
   |some (.int .u8)=>some (S.setR dst (.dat (.slice (.int .u8))),[.chk (.ci .leq (.slen e) (.con (.int np))),.setR dst (.bytes e)])
   |_=>Option.none)
 |_,_,_=>Option.none
section
variable {C:Ctx} {S:St} {ρ:Env} {σ:Im} {own:Nat→Option Nat} {hv:Nat→Value} {w0:World} {σ0:Base} {A:Nat→Prop} {a:Act} {w:World} {gs:List (Nat×Bool)} {Φ:aQ} {dst:Nat}
def bZ (C:Ctx)(w0:World)(σ0:Base)(Φ:aQ)(S:St)(ρ:Env)(A:Nat→Prop)(a:Act)(w:World)(o:Oper)(r:St×List PI):Prop:=
 ∀ρ',PI.runs Φ r.2 ρ=some ρ'→∀(K:Act→World→Prop) (Q:Exit→Act→World→Prop),(∀a' w',Good C w0 σ0 r.1 ρ' (fun u=>A u∨o.dst=some u) a' w'→a'.tmps.size=a.tmps.size→K a' w')→o.wp C.P a w K Q
theorem size_put (a:Act)(d:Option Tmp)(v:Value):(a.put d v).tmps.size=a.tmps.size:=by
 cases d<;>simp[Act.put]
theorem bZ.value {o:Oper}{r:St×List PI}(hd:o.dst=some dst)(hx:∀ρ',PI.runs Φ r.2 ρ=some ρ'→∃v w',(execOp a.eval o).run C.P w=.ok (.value v) w'∧Good C w0 σ0 r.1 ρ' (fun u=>A u∨u=dst) (a.put (some dst) v) w'):bZ C w0 σ0 Φ S ρ A a w o r:=by
 intro ρ' ak K Q hK;obtain⟨v,w',h1,h2⟩:=hx ρ' ak;simp only[Oper.wp,h1,Oper.upon,hd];refine hK _ _ ?_ (size_put _ _ _)
 have:(fun u=>A u∨o.dst=some u)=(fun u=>A u∨u=dst):=by
  funext u;rw[hd];simp[eq_comm]
 rw[this];exact h2
theorem bZ.skip {o:Oper}{r:St×List PI}(hd:o.dst=none)(hx:∀ρ',PI.runs Φ r.2 ρ=some ρ'→∃w',(execOp a.eval o).run C.P w=.ok .skip w'∧Good C w0 σ0 r.1 ρ' A a w'):bZ C w0 σ0 Φ S ρ A a w o r:=by
 intro ρ' ak K Q hK;obtain⟨w',h1,h2⟩:=hx ρ' ak;simp only[Oper.wp,h1,Oper.upon,hd]
 have:(fun u=>A u∨o.dst=some u)=A:=by
  funext u;rw[hd];simp
 rw[this] at hK;exact hK _ _ h2 (size_put _ _ _)
theorem ei.eff (h:Inv C S ρ σ own hv w0 σ0 A a w)(ht:¬A dst)(ah:dst<a.tmps.size){o:Oper}(hd:o.dst=some dst){s:Sh}{Eh:List PI}(hq:ei C S ρ σ hv Φ dst a w o (s,Eh)):bZ C w0 σ0 Φ S ρ A a w o (S.setR dst s,Eh):=by
 refine bZ.value hd fun ρ' ak=>?_;obtain⟨v,d,rfl,h1,h2,h3⟩:=hq ρ' ak;exact⟨v,w,h1,σ,own,hv,h.setReg ht (aH.mono' (.refl σ) (.refl S hv) h3 h2) ah (fun gs s' e=>absurd e (h3 gs s'))⟩
theorem ei.effG (h:Inv C S ρ σ own hv w0 σ0 A a w)(ht:¬A dst)(ah:dst<a.tmps.size)(dt:∀g,g∈gs→A g.1)(hg:holds gs ρ=true){o:Oper}(hd:o.dst=some dst){s:Sh}{Eh:List PI}(hq:ei C S ρ σ hv Φ dst a w o (s,Eh)):bZ C w0 σ0 Φ S ρ A a w o (S.setR dst (.opt gs s),Eh):=by
 refine bZ.value hd fun ρ' ak=>?_;obtain⟨v,d,rfl,h1,h2,h3⟩:=hq ρ' ak;have hh:holds gs (ρ.setR dst d)=true:=by rw[Dz (t:=dst) (d:=d) fun g hm e=>ht (by rw[←e];exact dt g hm)];exact hg
 refine⟨v,w,h1,σ,own,hv,h.setReg ht ⟨fun _=>aH.mono' (.refl σ) (.refl S hv) h3 h2,fun e=>absurd (hh.symm.trans e) (by decide)⟩ ah (fun bR s' e=>?_)⟩;cases e;exact⟨dt,h3⟩
theorem Inv.passed (h:Inv C S ρ σ own hv w0 σ0 A a w)(ht:¬A dst)(ah:dst<a.tmps.size)(dt:∀g,g∈gs→A g.1)(hg:holds gs ρ=false){s:Sh}(hs:∀bR s',s≠.opt bR s')(d:D):Inv C (S.setR dst (.opt gs s)) (ρ.setR dst d) σ own hv w0 σ0 (fun u=>A u∨u=dst) (a.put (some dst) undef) w:=by
 have hh:holds gs (ρ.setR dst d)=false:=by rw[Dz (t:=dst) (d:=d) fun g hm e=>ht (by rw[←e];exact dt g hm)];exact hg
 refine h.setReg ht (s:=.opt gs s) (v:=undef) (d:=d) ⟨fun e=>absurd (hh.symm.trans e) (by decide),fun _=>rfl⟩ ah (fun bR s' e=>?_);cases e;exact⟨dt,hs⟩
theorem Inv.mkObj (h:Inv C S ρ σ own hv w0 σ0 A a w)(ht:¬A dst)(ah:dst<a.tmps.size)(ob:Ob)(d:D)(v:Value)(nb:Nat→Bool){w':World}(hw:Below w.heap.size w w')(dA:∀k,nb k=true→w.heap.size≤k∧k<w'.heap.size)
 (cS:cn C (S.newO dst ob) (ρ.setO dst d) σ (fq own dst nb) (bY hv dst v) w' w0.heap.size dst ob) (m8:ob≠.tr:=by intro h;cases h):
 Good C w0 σ0 (Cx.mkObj S dst ob) ((ρ.setO dst d).setR dst .none) (fun u=>A u∨u=dst) (a.put (some dst) v) w':=by
 have h1:=h.newO dst ob d v nb hw dA cS m8;have h2:=h1.setObj ht (j:=dst) (v:=v) (aL _ _ _) ah;have e:(S.newO dst ob).ver dst=S.ver dst+1:=aL _ _ _;rw[e] at h2;exact⟨_,_,_,h2⟩
theorem Inv.mkPtr (h:Inv C S ρ σ own hv w0 σ0 A a w)(ht:¬A dst)(ah:dst<a.tmps.size)(ob:Ob)(d:D)(k:Nat)(nb:Nat→Bool){w':World}(hw:Below w.heap.size w w')(dA:∀k,nb k=true→w.heap.size≤k∧k<w'.heap.size)
 (cS:cn C (S.newO dst ob) (ρ.setO dst d) σ (fq own dst nb) (bY hv dst (.pointer (some ⟨k,0,none⟩))) w' w0.heap.size dst ob) (m8:ob≠.tr:=by intro h;cases h):
 Good C w0 σ0 (Cx.mkPtr S dst ob) ((ρ.setO dst d).setR dst .none) (fun u=>A u∨u=dst) (a.put (some dst) (.pointer (some ⟨k,0,none⟩))) w':=by
 have h1:=h.newO dst ob d _ nb hw dA cS m8;have e:(S.newO dst ob).ver dst=S.ver dst+1:=aL _ _ _;have h2:=h1.setReg ht (s:=.ptr dst (S.ver dst+1) 0) (v:=.pointer (some ⟨k,0,none⟩)) (d:=.none) ⟨Nat.le_of_eq e.symm,fun _=>⟨k,aL _ _ _,rfl⟩⟩ ah (fun _ _ e=>by cases e);exact⟨_,_,_,h2⟩
theorem Bo {e:PE}{ρ':Env}(h:PI.runs Φ [.setO dst e,.setR dst (.con .none)] ρ=some ρ'):ρ'=(ρ.setO dst (e.ev ρ)).setR dst .none:=by
 simp[PI.runs,PI.run,PE.ev] at h;exact h.symm
theorem VU (h:Inv C S ρ σ own hv w0 σ0 A a w){t:Ty}{v:Value}{d:D}(hr:Rep C.cap σ t v d)(ho:t.rowT=true∨t.one=true)(ag:Bool)(T:TypeId):
 cn C (S.newO dst (.box ag (t.flat.map .dat))) (ρ.setO dst (.agg d.cells)) σ (fq own dst (fun k=>Nat.beq k w.heap.size)) (bY hv dst (.pointer (some ⟨w.heap.size,0,none⟩))) (w.alloc (.cells v.cells T)) w0.heap.size dst (.box ag (t.flat.map .dat)):=by
 obtain⟨f1,f2,f3⟩:=hr.flat ho;refine⟨w.heap.size,v.cells,T,d.cells,aL _ _ _,by simp[fq],heap_alloc_new w _,by rw[hr.size];simp[f1],by simp[Env.setO,aL],by simp[f1,f2],fun i s hi=>?_⟩;simp only[cC,aA] at hi;obtain⟨ti,OL,rfl⟩:=hi;exact⟨fun _ _ e=>(by cases e),(f3 i ti OL).2⟩
theorem agz (h:Inv C S ρ σ own hv w0 σ0 A a w)(hC:CtxOK C σ0)(ht:¬A dst)(ah:dst<a.tmps.size){T:TypeId}{x:Operand}{r:St×List PI}(hr:Cz C S dst T x=some r){o:Oper}(hd:o.dst=some dst)(ho:o.op=.assign x):bZ C w0 σ0 Φ S ρ A a w o r:=by
 unfold Cz at hr;split at hr
 case h_2=>cases hr
 rename_i e0 e1 E hu hT;simp only[aA] at hr;obtain⟨e,he,rfl⟩:=hr;have hx:=cq h hC rfl hu;have cu:a.eval x=.slice none 0 0:=by
  generalize a.eval x=v at hx;generalize e1.ev ρ=d at hx;cases hx;rfl
 refine bZ.value hd fun ρ' ak=>⟨.slice none 0 0,w,by simp[execOp,ho,cu],?_⟩
 rw[Bo ak];exact h.mkObj ht ah (.row E e) _ _ (fun _=>false) (.refl _ _) (by simp) ⟨[],[],by simp[Env.setO,aL,PE.ev],by rw[aL];exact World.ownsRow_nil _ _ _ _,⟨fun _=>undef,by simp,by simp⟩,by rw[aL];simp[Value.ownBlock]⟩
theorem af4 (h:Inv C S ρ σ own hv w0 σ0 A a w)(ht:¬A dst)(ah:dst<a.tmps.size){T:TypeId}{r:St×List PI}(hr:Co C S dst T=some r){o:Oper}(hd:o.dst=some dst)(ho:o.op=.alloc T):bZ C w0 σ0 Φ S ρ A a w o r:=by
 unfold Co at hr;split at hr
 case h_2=>cases hr
 rename_i t inf ag ON hi ha;cases hc:(tI inf t&&(t.rowT||t.one))<;>simp only[hc,cond_true,cond_false] at hr
 ·cases hr
 simp only[ao,gC] at hc;simp only[aA] at hr;obtain⟨z,hz,rfl⟩:=hr;obtain⟨v0,sT,Ao⟩:∃v0,inf.zero=some v0∧jE t v0=true:=by
  have:=hc.1;unfold tI at this;split at this
  ·exact⟨_,by assumption,this⟩
  ·cases this
 obtain⟨k1,k2,k3⟩:=yf (cap:=C.cap) (σ:=σ) hz Ao;have w5:z.1.rowT=true∨z.1.one=true:=by
  rcases hc.2 with e|e
  ·left;cases t<;>simp[Ty.rowT] at e;simp[oT] at hz;obtain⟨_,_,rfl⟩:=hz;rfl
  ·right;rw[k3];exact e
 refine bZ.value hd fun ρ' ak=>⟨.pointer (some ⟨w.heap.size,0,none⟩),w.alloc (.cells v0.cells T),?_,?_⟩
 ·simp[execOp,ho,Instr.alloc,zeroValue,run_typeInfo w hi,sT,newVar,newRow]
 ·rw[Bo ak];exact h.mkPtr ht ah _ _ _ (fun k=>Nat.beq k w.heap.size) ((Below.refl _ _).alloc (bk _) _) (fun k hk=>by simp at hk;simp;omega) (VU h k1 w5 ag T)
theorem Compat.newO (S:St)(hv:Nat→Value)(j:Nat)(ob:Ob)(v:Value):Compat S hv (S.newO j ob) (bY hv j v):=by
 refine⟨fun i=>?_,fun i e=>?_⟩
 ·simp only[St.newO,eV];split<;>rename_i e
  ·subst e;omega
  ·omega
 ·simp only[St.newO,eV] at e;split at e
  ·rename_i e';subst e';omega
  ·rename_i ay;exact bq _ _ ay
theorem af8 (h:Inv C S ρ σ own hv w0 σ0 A a w)(hC:CtxOK C σ0)(ht:¬A dst)(ah:dst<a.tmps.size){T:TypeId}{x:Operand}{r:St×List PI}(hr:Cq C S dst T x=some r){o:Oper}(hd:o.dst=some dst)(ho:o.op=.box T x):bZ C w0 σ0 Φ S ρ A a w o r:=by
 unfold Cq at hr;split at hr
 case h_3=>cases hr
 case h_2=>
  rename_i hu ha;split at hr
  case h_2=>cases hr
  rename_i l gM;cases hr;have fY:=(rH h (gs:=[]) rfl x).1;rw[gM] at fY;obtain⟨vs,ds,e1,e2,e3,e4,e5⟩:=fY;refine bZ.value hd fun ρ' ak=>⟨.pointer (some ⟨w.heap.size,0,none⟩),w.alloc (.cells (a.eval x).cells T),?_,?_⟩
  ·simp[execOp,ho,Instr.box,newVar,newRow]
  ·rw[Bo ak,e2];refine h.mkPtr ht ah _ _ _ (fun k=>Nat.beq k w.heap.size) ((Below.refl _ _).alloc (bk _) _) (fun k hk=>by simp at hk;simp;omega) ⟨w.heap.size,(a.eval x).cells,T,ds,aL _ _ _,by simp[fq],heap_alloc_new w _,by rw[e1];simp[Value.cells,e3],by simp[Env.setO,aL],by simp[e4],fun i s hi=>?_⟩;simp only[cC,aA] at hi;obtain⟨c,hc,rfl⟩:=hi;have bQ:(a.eval x).cells.getD i undef=vs.getD i undef:=by rw[e1];simp[Value.cells,aJ,dU]
   have h6:=(e5 i c hc).monoR (Im.le.leR (.refl σ)) (Compat.newO S hv dst (.box true (l.map AgC.sh)) (.pointer (some ⟨w.heap.size,0,none⟩)));rw[bQ];cases c with
   |dat t=>exact⟨fun _ _ e=>(by cases e),h6.2⟩
   |obj j ver=>exact⟨fun _ _ e=>(by cases e),h6⟩
 rename_i t e ag hu ha;cases hc:(t.rowT||t.one)<;>simp only[hc,cond_true,cond_false] at hr
 ·cases hr
 cases hr;simp only[gC] at hc;have hx:=cq h hC rfl hu;refine bZ.value hd fun ρ' ak=>⟨.pointer (some ⟨w.heap.size,0,none⟩),w.alloc (.cells (a.eval x).cells T),?_,?_⟩
 ·simp[execOp,ho,Instr.box,newVar,newRow]
 ·rw[Bo ak];have:(PE.mk [e]).ev ρ=.agg (e.ev ρ).cells:=by simp[PE.ev,PE.evc]
  rw[this];exact h.mkPtr ht ah _ _ _ (fun k=>Nat.beq k w.heap.size) ((Below.refl _ _).alloc (bk _) _) (fun k hk=>by simp at hk;simp;omega) (VU h hx hc ag T)
theorem agt (h:Inv C S ρ σ own hv w0 σ0 A a w)(ht:¬A dst)(ah:dst<a.tmps.size){T:TypeId}{m:Option Operand}{r:St×List PI}(hr:Cv C S dst T m=some r){o:Oper}(hd:o.dst=some dst)(ho:o.op=.makeMap T m):bZ C w0 σ0 Φ S ρ A a w o r:=by
 unfold Cv at hr;split at hr
 case h_2=>cases hr
 rename_i K E hT;simp only[av,aA] at hr;obtain⟨kt,hk,et,he,rfl⟩:=hr;refine bZ.value hd fun ρ' ak=>⟨.map (some w.heap.size),w.alloc (.map #[] 0),?_,?_⟩
 ·simp[execOp,ho,Instr.makeMap]
 ·rw[Bo ak]
  exact h.mkObj ht ah (.mp kt et) _ _ (fun k=>Nat.beq k w.heap.size) ((Below.refl _ _).alloc (bk _) _) (fun k hk=>by simp at hk;simp;omega)
   ⟨w.heap.size,#[],0,[],aL _ _ _,by simp[fq],heap_alloc_new w _,by simp[Env.setO,aL,PE.ev],rfl,⟨by simp,by simp[mP]⟩,by simp⟩
theorem agC (h:Inv C S ρ σ own hv w0 σ0 A a w)(ht:¬A dst)(ah:dst<a.tmps.size){T:TypeId}{x:Operand}{r:St×List PI}(hr:CA C S dst T x=some r){o:Oper}(hd:o.dst=some dst)(ho:o.op=.range T x):bZ C w0 σ0 Φ S ρ A a w o r:=by
 unfold CA at hr;split at hr
 case h_2=>cases hr
 rename_i K E j ver hT es;obtain⟨eJ,_⟩:=rH h (gs:=[]) rfl x;rw[es] at eJ;cases hb:(Nat.beq ver (S.ver j)&& !Nat.beq j dst)<;>simp only[hb,cond_true,cond_false] at hr
 ·cases hr
 simp only[ao,gS] at hb;have cu:=eJ.2 (az hb.1);have ay:j≠dst:=fun e=>by subst e;simp at hb
 have bf:=h.objs j;split at hr
 case h_2=>cases hr
 rename_i kt et eo;cases hr;rw[eo] at bf;obtain⟨m,arr,clock,ds,h1,h2,h3,h4,h5,⟨h6,qO⟩,h7⟩:=bf;have lx:=h.mv ay (by rw[eo];rfl);have l7:m<w.heap.size:=(gj.1 h3).1;have NY:w0.heap.size≤m:=(h.owns m j h2).1;refine bZ.value hd fun ρ' ak=>⟨.pointer (some ⟨w.heap.size,0,none⟩),w.alloc (.mapIter (some m) clock #[] clock),?_,?_⟩
 ·simp[execOp,ho,Instr.range,cu,h1,run_underlying hT,getObj,Sem.run,h3]
 have hρ:ρ'=((ρ.setO dst (.tup [.list [],.map ds])).setR dst .none):=by
  simp[PI.runs,PI.run,PE.ev,PE.evs,h4] at ak;exact ak.symm
 subst hρ;have gr:Below w.heap.size w (w.alloc (.mapIter (some m) clock #[] clock)):=(Below.refl _ _).alloc (bk _) _;have OF:=lx.step (S':=(S.mv j dst).newO dst (.it kt et)) (ρ':=(ρ.setO dst (.tup [.list [],.map ds]))) (σ':=σ) (hv':=bY (bY hv dst (hv j)) dst (.pointer (some ⟨w.heap.size,0,none⟩)))
  (own':=fun k=>if k=w.heap.size then some dst else(if own k=some j then some dst else if own k=some dst then none else own k)) (a':=a) (A':=A) (w':=w.alloc (.mapIter (some m) clock #[] clock)) (fun i=>i=dst)
  rfl (.refl σ) (h.ok.below gr) (fun _ _ _ hx=>.inl hx) (fun _ _ hx=>.inl hx) (gr.mono h.below.size) ⟨fun i=>?_,fun i e=>?_⟩ (fun i hi=>⟨?_,?_,?_,fun k hk=>⟨?_,?_⟩⟩) (fun i hi=>?_) (fun k i hk=>?_) (fun _=>id) (fun t=>.inl ⟨rfl,rfl,rfl⟩) (fun _ _=>rfl) (fun k hk _=>gr.block k hk) (fun k i hk=>?_) (fun i hi=>by subst hi;simp[St.newO,aL])
 ·have iK:=OF.setObj ht (j:=dst) (v:=.pointer (some ⟨w.heap.size,0,none⟩)) (aL _ _ _) ah;have e:((S.mv j dst).newO dst (.it kt et)).ver dst=(S.mv j dst).ver dst+1:=aL _ _ _;rw[e] at iK;exact⟨_,_,_,iK⟩
 ·simp only[St.newO,eV];split<;>rename_i e
  ·subst e;omega
  ·omega
 ·simp only[St.newO,eV] at e;split at e
  ·rename_i e';subst e';omega
  ·rename_i N7;exact bq _ _ N7
 ·simp[St.newO,bq _ _ hi]
 ·simp[Env.setO,bq _ _ hi]
 ·exact bq _ _ hi
 ·have azd:=(lx.owns k i hk).2.1;have aW:k≠w.heap.size:=by omega
  simp only[if_neg aW];exact hk
 ·exact gr.block k (lx.owns k i hk).2.1
 ·subst hi;simp only[St.newO,aL];have fg:m≠w.heap.size:=by omega
  refine⟨w.heap.size,m,arr,clock,ds,[],aL _ _ _,by simp,by simp[fg,h2],by omega,?_,heap_alloc_new w _,by simp[Env.setO,aL,gz],List.nodup_nil,by simp,h5,qO,h7⟩;rw[gr.block m l7];exact h3
 ·split at hk
  ·rename_i e;subst e;refine⟨h.below.size,by simp,fun o=>?_,?_⟩
   ·cases hc:σ.c w.heap.size o with
    |none=>rfl
    |some u=>have:=h.lt hc;omega
   ·cases hc:σ.m w.heap.size with
    |none=>rfl
    |some u=>have:=h.ltm hc;omega
  ·obtain⟨g1,g2,g3,g4⟩:=lx.owns k i hk;exact⟨g1,by simp;omega,g3,g4⟩
 ·split at hk
  ·rename_i e;subst e;exact .inr (bk _)
  ·exact .inl ⟨i,hk⟩
theorem agc (h:Inv C S ρ σ own hv w0 σ0 A a w)(hC:CtxOK C σ0)(ht:¬A dst)(ah:dst<a.tmps.size){T U:TypeId}{x:Operand}{r:St×List PI}(hr:Cr C S dst T U x=some r){o:Oper}(hd:o.dst=some dst)(ho:o.op=.convert T U x):bZ C w0 σ0 Φ S ρ A a w o r:=by
 unfold Cr at hr;split at hr
 case h_2=>cases hr
 rename_i e E hu hT hU;split at hr
 case h_2=>cases hr
 rename_i hE;cases hr;have hx:=cq h hC rfl hu;obtain⟨s,aS,bo,hs⟩:=hx.str_inv;have oh:=Lib.run_convert_string_bytes (P:=C.P) w T U E s hT hU hE;refine bZ.value hd fun ρ' ak=>⟨.slice (some ⟨w.heap.size,0,none⟩) s.size (grownCap w s.size 0 E),Lib.bytesWorld w E s,by simp[execOp,ho,aS,oh],?_⟩
 simp only[PI.runs,PI.run,av] at ak;obtain⟨ρ1,g1,ρ2,g2,g3⟩:=ak;cases c1:((PE.ci BinOp.leq (.slen e) (.con (.int np))).ev ρ).b<;>simp only[c1,cond_true,cond_false] at g1
 ·cases g1
 cases g1;cases g2;cases g3;have akm:s.size≤4294967296:=by
  simp[PE.ev,bo,D.s,D.i,D.b,je,D.int,np] at c1;omega
 have gr:Below w.heap.size w (Lib.bytesWorld w E s):=⟨rfl,rfl,rfl,by rw[Lib.bytesWorld_size];omega,fun k hk=>Lib.bytesWorld_at_old w E s k hk⟩
 have aK:(Lib.bytesWorld w E s).heap.size=w.heap.size+1:=Lib.bytesWorld_size w E s
 let σ':Im:={c:=fun k i=>if k=w.heap.size then(if i<s.size then some (.int .u8 (s.data.toList.getD i 0).toNat) else none) else σ.c k i,m:=σ.m}
 have hle:σ.le σ':=by
  refine⟨fun k o v hc=>?_,fun k es hc=>hc⟩;have:k≠w.heap.size:=by have:=h.lt hc;omega
  simp[σ',this,hc]
 have aB:σ'.ok (Lib.bytesWorld w E s):=by
  refine⟨fun k i v hc=>?_,(h.ok.below gr).m⟩;simp only[σ'] at hc;split at hc
  ·rename_i ek;subst ek;split at hc
   ·rename_i hi;cases hc;exact Lib.bytesWorld_cell w E s i hi
   ·cases hc
  ·exact(h.ok.below gr).c k i v hc
 have h1:=h.step (S':=S) (ρ':=ρ) (σ':=σ') (own':=own) (hv':=hv) (A':=A) (a':=a) (w':=Lib.bytesWorld w E s) (fun _=>False) rfl hle aB (fun k i v hc=>?_) (fun k es hc=>.inl hc) (gr.mono h.below.size) ⟨fun _=>bk _,fun _ _=>rfl⟩
  (fun j _=>⟨rfl,rfl,rfl,fun k hk=>⟨hk,gr.block k (h.owns k j hk).2.1⟩⟩) (fun j hj=>hj.elim) (fun k j hk=>?_) (fun _=>id) (fun t=>.inl ⟨rfl,rfl,rfl⟩) (fun _ _=>rfl) (fun k hk _=>gr.block k hk) (fun k i hk=>.inl ⟨i,hk⟩) (fun _ hf=>hf.elim)
 ·refine⟨_,_,_,h1.setReg ht (s:=.dat (.slice (.int .u8))) ?_ ah (fun _ _ e=>by cases e)⟩;show Rep C.cap σ' _ _ _;simp only[PE.ev,bo,D.s];refine .slice (.int .u8) w.heap.size 0 s.size _ _ (fun i=>.int .u8 (s.data.toList.getD i 0).toNat) (by simp) (grownCap_ge w s.size 0 E) (grownCap_le_maxLen w s.size 0 E (by unfold maxLen;omega)) (fun i x hx=>?_) (fun i j u hi hu=>?_)
  ·simp only[cC,aA] at hx;obtain⟨b,hb,rfl⟩:=hx;have:s.data.toList.getD i 0=b:=by simp[aJ,hb]
   rw[this];have:=b.toNat_lt;exact .int .u8 _ (by show(0:Int)≤_;omega) (by show _≤(255:Int);omega)
  ·have hj:j=0:=by
        have:=(gj.1 hu).1;simp[Value.cells] at this;exact this
   subst hj;simp[Value.cells] at hu;subst hu;simp[σ',Ty.size,hi]
 ·simp only[σ'] at hc;split at hc
  ·rename_i ek;exact .inr ⟨by have:=h.below.size;omega,.inr (by omega)⟩
  ·exact .inl hc
 ·obtain⟨g1,g2,g3,g4⟩:=h.owns k j hk;refine⟨g1,by omega,fun i=>?_,g4⟩;have:k≠w.heap.size:=by omega
  simp[σ',this,g3 i]
end
end Cx
namespace Cx
open Go Go.RowKit
def HK (C:Ctx)(S:St)(gs:List (Nat×Bool))(e:Ty)(z:D)(parts:List (Nat×Operand))(i:Nat):Option PE:=
 match parts.find? (fun p=>Nat.beq p.1 i) with
 |some p=>(use C S gs p.2).bind fun a=>bif Ty.sub a.1 e then some a.2 else Option.none
 |Option.none=>some (PE.con z)
def wu (C:Ctx)(S:St)(gs:List (Nat×Bool))(dst:Nat)(T:TypeId)(len:Nat)(parts:List (Nat×Operand)):kH:=
 match C.P.underlying T with
 |some (.slice E)=>
  (oS C.P E).bind fun e=>(oT e).bind fun z=>
    bif qJ C.P E e&&Ty.sub z.1 e&&gx (parts.map (·.1))&&parts.all (fun p=>Nat.blt p.1 len)&&Nat.ble (len*e.size) 16777216 then
     ((List.range len).mapM (HK C S gs e z.2 parts)).map fun es=>(mkObj S dst (.row E e),[.setO dst (.lst es),.setR dst (.con .none)])
    else Option.none
 |_=>Option.none
def zB (C:Ctx)(S:St)(gs:List (Nat×Bool))(dst:Nat)(T:TypeId)(len:Nat)(parts:List (Nat×Operand)):kH:=
 match C.P.underlying T,wu C S gs dst T len parts with
 |some (.slice E),some r=>
  (oS C.P E).bind fun e=>
    match r.2 with
    |.setO _ x::_=>some ((S.newO dst .dead).setR dst (match gs with|[]=>.dat (.slice e.rol)|_=>.opt gs (.dat (.slice e.rol))),[.setR dst x])
    |_=>Option.none
 |_,_=>Option.none
def Na (S:St):AgC→Bool
 |.dat _=>true
 |.obj j ver=>Nat.beq ver (S.ver j)&&kT (S.o j)
def uc (C:Ctx)(S:St)(T:TypeId)(x v:Operand):kH:=
 match C.P.info? T with
 |some inf=>
  match fw S [] x with
  |.ptr j ver off=>
   bif Nat.beq ver (S.ver j) then
    match S.o j with
    |.box ag shs=>
     match use C S [] v with
     |some (t,e)=>
      bif Nat.beq inf.size t.size&&(t.rowT||t.one)&&Nat.ble (off+t.size) shs.length then
             some (S.setO j (.box ag (shs.take off++t.flat.map .dat++shs.drop (off+t.size))),[.setO j (.setc (.o j) off e)])
      else Option.none
     |Option.none=>
      match fw S [] v with
      |.obj j' mL=>
       bif Nat.beq mL (S.ver j')&&kT (S.o j')&&Nat.beq inf.size 1&&Nat.blt off shs.length then
              some (S.setO j (.box ag (shs.set off (.obj j' mL))),[.setO j (.setc (.o j) off (.con .none))])
       else Option.none
      |.agg l=>
       bif Nat.beq inf.size l.length&&Nat.ble (off+l.length) shs.length&&l.all (Na S) then
              some (S.setO j (.box ag (shs.take off++l.map AgC.sh++shs.drop (off+l.length))),[.setO j (.setc (.o j) off (rD v))])
       else Option.none
      |_=>Option.none
    |_=>Option.none
   else Option.none
  |.eptr j ver size off=>
   bif Nat.beq ver (S.ver j) then
    match S.o j,use C S [] v with
    |.row _ (.agg ts),some (t,e)=>
     bif Nat.beq inf.size t.size&&(t.rowT||t.one)&&Nat.beq size ts.length&&Nat.ble (off+t.size) ts.length&&Ty.subs t.flat ((ts.drop off).take t.size) then
         some (S,[.setO j (.setn (.o j) (rD x) off e)])
     else Option.none
    |.row _ e0,some (t,e)=>
     bif Nat.beq inf.size 1&&Nat.beq size 1&&Nat.beq off 0&&e0.one&&Ty.sub t e0 then some (S,[.setO j (.setn (.o j) (rD x) 0 e)]) else Option.none
    |_,_=>Option.none
   else Option.none
  |_=>Option.none
 |Option.none=>Option.none
def sr (C:Ctx)(S:St)(T:TypeId)(m k v:Operand):kH:=
 match C.P.underlying T,fw S [] m with
 |some (.map K _),.obj j ver=>
  bif Nat.beq ver (S.ver j) then
   match S.o j,use C S [] k,use C S [] v with
   |.mp kt et,some (tk,ek),some (tv,ev)=>
    bif Ty.beq tk kt&&uR C.P K kt&&Ty.sub tv et then some (S,[.chk (.ci .lss (.mlen (.o j)) (.con (.int np))),.setO j (.put (.o j) ek ev)]) else Option.none
   |_,_,_=>Option.none
  else Option.none
 |_,_=>Option.none
def I7 (x y:PE):PE:=.ci .leq (.llen (.app x y)) (.con (.int np))
def KX:Ty→Ty→Bool
 |.slice e',e=>Ty.beq e'.unf e
 |.nils _,_=>true
 |_,_=>false
def Cp (C:Ctx)(S:St)(dst:Nat)(T:TypeId)(s x:Operand):kH:=
 match C.P.underlying T with
 |some (.slice E)=>
  (oS C.P E).bind fun e=>
    match view C S [] x with
    |some (tx,ex)=>
     bif qJ C.P E e&&KX tx e then
        match use C S [] s with
        |some (.nils _,_)=>some (mkObj S dst (.row E e),[.chk (I7 (.con (.list [])) ex),.setO dst (.app (.con (.list [])) ex),.setR dst (.con .none)])
        |some _=>Option.none
        |Option.none=>
         match fw S [] s with
         |.obj j ver=>
          bif Nat.beq ver (S.ver j) then
             match S.o j with
             |.row E' e'=>
              bif Nat.beq E' E&&Ty.beq e' e then
                some ((S.newO j (.row E e)).setR dst (.obj j (S.ver j+1)),[.chk (I7 (.o j) ex),.setO j (.app (.o j) ex),.setR dst (.con .none)])
              else Option.none
             |_=>Option.none
          else Option.none
         |_=>Option.none
     else Option.none
    |Option.none=>Option.none
 |_=>Option.none
theorem MX {P:Program}{T:TypeId}{e:Ty}(h:qJ P T e=true):∃inf z,P.info? T=some inf∧inf.size=e.size∧inf.bytes≤xl∧1≤e.size∧inf.zero=some z∧jE e z=true:=by
 unfold qJ at h;split at h
 ·rename_i i hi;simp only[ao] at h;have h4:=h.2;unfold tI at h4;split at h4
  ·rename_i z hz;exact⟨i,z,hi,az h.1.1.1,jI h.1.1.2,jI h.1.2,hz,h4⟩
  ·cases h4
 ·cases h
theorem U4 {e:Ty}{z:Value}(h:jE e z=true):z.cells.size=e.size:=by
 cases e with
 |agg ts=>
  cases z with
  |agg vs=>simp only[jE] at h;have:=(U5 ts vs.toList h).1;simpa [Value.cells,Ty.size] using this
  |_=>simp[jE] at h
 |_=>cases z<;>simp_all [jE,ye,Value.cells,Ty.size]
theorem afz {ρ:Env}{x y:PE}(h:((PE.ci .lss x y).ev ρ).b=true):(x.ev ρ).i<(y.ev ρ).i:=by
 simpa [PE.ev,D.b_bool,je] using h
theorem Wb {ρ:Env}{x y:PE}(h:((PE.ci .leq x y).ev ρ).b=true):(x.ev ρ).i≤(y.ev ρ).i:=by
 simpa [PE.ev,D.b_bool,je] using h
theorem ama {n:Nat}(h:(n:Int)<np):n<4294967296:=by unfold np at h;omega
theorem YW {n:Nat}(h:(n:Int)≤np):n≤4294967296:=by unfold np at h;omega
theorem St.setO_self {S:St}{j:Nat}{ob:Ob}(h:S.o j=ob):S.setO j ob=S:=by
 have:bY S.o j ob=S.o:=by
  funext i;rw[eV];split
  ·rename_i e;subst e;exact h.symm
  ·rfl
 cases S;simp only[St.setO] at this ⊢;rw[this]
section
variable {C:Ctx} {S:St} {ρ:Env} {σ:Im} {own:Nat→Option Nat} {hv:Nat→Value} {w0:World} {σ0:Base} {A:Nat→Prop} {a:Act} {w:World} {gs:List (Nat×Bool)} {Φ:aQ} {dst:Nat}
theorem Inv.updO (h:Inv C S ρ σ own hv w0 σ0 A a w)(j:Nat)(ob:Ob)(d:D)(v:Value)(nb:Nat→Bool){w':World}(hw:Below w0.heap.size w w')
 (sI:∀k,k<w.heap.size→own k≠some j→w'.heap[k]?=w.heap[k]?) (dA:∀k,nb k=true→(own k=some j∨w.heap.size≤k)∧k<w'.heap.size)
 (cS:cn C (S.newO j ob) (ρ.setO j d) σ (fq own j nb) (bY hv j v) w' w0.heap.size j ob) (m8:ob≠.tr:=by intro h;cases h):Inv C (S.newO j ob) (ρ.setO j d) σ (fq own j nb) (bY hv j v) w0 σ0 A a w':=by
 have aK:w0.heap.size≤w.heap.size:=h.below.size;have cm:∀k i,i≠j→own k=some i→fq own j nb k=some i:=by
  intro k i hi hk;have h1:=h.owns k i hk;have h2:nb k=false:=by
   cases hn:nb k with
   |false=>rfl
   |true=>
    rcases(dA k hn).1 with e|e
    ·rw[hk] at e;simp at e;exact absurd e hi
    ·omega
  simp[fq,h2,hk,hi]
 have aB:σ.ok w':=by
  refine⟨fun k o u hc=>?_,fun k es hc=>?_⟩
  ·have ay:own k≠some j:=fun e=>by rw[(h.owns k j e).2.2.1 o] at hc;cases hc
   rw[World.cell?_of_block (sI k (h.lt hc) ay)];exact h.ok.c k o u hc
  ·have ay:own k≠some j:=fun e=>by rw[(h.owns k j e).2.2.2] at hc;cases hc
   exact(h.ok.m k es hc).keep (sI k (h.ltm hc) ay)
 refine h.step (fun i=>i=j) rfl (.refl σ) aB (fun _ _ _ hx=>.inl hx) (fun _ _ hx=>.inl hx) hw ⟨fun i=>?_,fun i e=>?_⟩ (fun i hi=>⟨?_,?_,?_,fun k hk=>⟨cm k i hi hk,?_⟩⟩) (fun i hi=>?_) (fun k i hk=>?_) (fun _=>id) (fun t=>.inl ⟨rfl,rfl,rfl⟩) (fun _ _=>rfl) (fun k hk e=>sI k hk (by rw[e];simp)) (fun k i hk=>by
  unfold fq at hk;split at hk
  ·rename_i hn;rcases(dA k hn).1 with e|e
   ·exact .inl ⟨j,e⟩
   ·exact .inr e
  ·split at hk
   ·cases hk
   ·exact .inl ⟨i,hk⟩) (fun i hi=>by subst hi;simpa only[St.newO,aL] using m8)
 ·simp only[St.newO,eV];split<;>rename_i e
  ·subst e;omega
  ·omega
 ·simp only[St.newO,eV] at e;split at e
  ·rename_i e';subst e';omega
  ·rename_i ay;exact bq _ _ ay
 ·simp[St.newO,bq _ _ hi]
 ·simp[Env.setO,bq _ _ hi]
 ·exact bq _ _ hi
 ·exact sI k (h.owns k i hk).2.1 (by rw[hk];simpa using hi)
 ·subst hi;simp only[St.newO,aL];exact cS
 ·unfold fq at hk;split at hk
  ·rename_i hn;obtain⟨g1,g2⟩:=dA k hn;rcases g1 with e|e
   ·obtain⟨f1,f2,f3,f4⟩:=h.owns k j e;exact⟨f1,g2,f3,f4⟩
   ·refine⟨by omega,g2,fun o=>?_,?_⟩
    ·cases hc:σ.c k o with
     |none=>rfl
     |some u=>have:=h.lt hc;omega
    ·cases hc:σ.m k with
     |none=>rfl
     |some u=>have:=h.ltm hc;omega
  ·split at hk
   ·cases hk
   ·obtain⟨g1,g2,g3,g4⟩:=h.owns k i hk;exact⟨g1,by have:=hw.size;omega,g3,g4⟩
theorem Inv.updB (h:Inv C S ρ σ own hv w0 σ0 A a w)(j:Nat)(ob:Ob)(d:D){w':World}(hw:Below w0.heap.size w w')
 (sI:∀k,k<w.heap.size→own k≠some j→w'.heap[k]?=w.heap[k]?)
 (cS:cn C (S.setO j ob) (ρ.setO j d) σ own hv w' w0.heap.size j ob) (m8:ob≠.tr:=by intro h;cases h):Inv C (S.setO j ob) (ρ.setO j d) σ own hv w0 σ0 A a w':=by
 have aB:σ.ok w':=by
  refine⟨fun k o u hc=>?_,fun k es hc=>?_⟩
  ·have ay:own k≠some j:=fun e=>by rw[(h.owns k j e).2.2.1 o] at hc;cases hc
   rw[World.cell?_of_block (sI k (h.lt hc) ay)];exact h.ok.c k o u hc
  ·have ay:own k≠some j:=fun e=>by rw[(h.owns k j e).2.2.2] at hc;cases hc
   exact(h.ok.m k es hc).keep (sI k (h.ltm hc) ay)
 refine h.step (fun i=>i=j) rfl (.refl σ) aB (fun _ _ _ hx=>.inl hx) (fun _ _ hx=>.inl hx) hw (Compat.setO _ _ _ _) (fun i hi=>⟨by simp[St.setO,bq _ _ hi],by simp[Env.setO,bq _ _ hi],rfl,fun k hk=>⟨hk,sI k (h.owns k i hk).2.1 (by rw[hk];simpa using hi)⟩⟩) (fun i hi=>?_) (fun k i hk=>?_) (fun _=>id) (fun t=>.inl ⟨rfl,rfl,rfl⟩) (fun _ _=>rfl) (fun k hk e=>sI k hk (by rw[e];simp)) (fun k i hk=>.inl ⟨i,hk⟩) (fun i hi=>by subst hi;rw[St.setO_o];exact m8)
 ·subst hi;rw[St.setO_o];exact cS
 ·obtain⟨g1,g2,g3,g4⟩:=h.owns k i hk;exact⟨g1,by have:=hw.size;omega,g3,g4⟩
theorem W2 {B:Nat}{w w':World}{row:Option Nat}(hg:w.grownBy w' row)(hB:B≤w.heap.size)(hr:∀k,row=some k→B≤k):Below B w w':=(Below.refl B w).grown hg hB hr
theorem ZA {z:Array Value}{n i q:Nat}(hz:0<z.size)(hi:i<n)(hq:q<z.size):(madeCells z (n*z.size))[i*z.size+q]?=z[q]?:=by
 have ah:i*z.size+q<n*z.size:=by
  have:(i+1)*z.size≤n*z.size:=oZ _ hi;rw[oX] at this;omega
 have hm:(i*z.size+q)%z.size=q:=by rw[BP,ael,Nat.mod_eq_of_lt hq]
 simp[madeCells,Array.getElem?_range,ah,hm,hq]
theorem agv (h:Inv C S ρ σ own hv w0 σ0 A a w)(hC:CtxOK C σ0)(ht:¬A dst)(ah:dst<a.tmps.size){T:TypeId}{l c:Operand}{r:St×List PI}(hr:Cw C S dst T l c=some r){o:Oper}(hd:o.dst=some dst)(ho:o.op=.makeSlice T l c):bZ C w0 σ0 Φ S ρ A a w o r:=by
 unfold Cw at hr;split at hr
 case h_2=>cases hr
 rename_i E k1 n k2 m hT hl hc;simp only[av] at hr;obtain⟨e,he,hr⟩:=hr;cases hf:qJ C.P E e<;>simp only[hf,cond_true,cond_false] at hr
 ·cases hr
 obtain⟨inf,z0,hi,hs,hb,h1,hz,mc⟩:=MX hf;simp only[av] at hr;obtain⟨z,hzt,hr⟩:=hr;cases bS:Ty.sub z.1 e<;>simp only[bS,cond_true,cond_false] at hr
 ·cases hr
 cases hr;obtain⟨n1,aS,bo,b1,b2⟩:=(cq h hC rfl hl).int_inv;obtain⟨n2,ia,dI,b3,b4⟩:=(cq h hC rfl hc).int_inv;simp only at bo dI;have DV:=((yf (cap:=C.cap) (σ:=σ) hzt mc).1).sub bS;refine bZ.value hd fun ρ' ak=>?_;simp only[PI.runs,PI.run,av] at ak;obtain⟨ρ1,g1,ρ2,g2,ak⟩:=ak;cases c1:((Pe n).ev ρ).b<;>simp only[c1,cond_true,cond_false] at g1
 ·cases g1
 cases g1;cases c2:((PE.ci BinOp.eql n m).ev ρ).b<;>simp only[c2,cond_true,cond_false] at g2
 ·cases g2
 cases g2;have aky:n1=n2:=by simpa [PE.ev,bo,dI,D.i_int,D.b_bool,je] using c2
 subst aky;have hb:0≤n1∧n1≤np:=by simpa [Pe,PE.ev,bo,D.i_int,D.b_bool,je,D.int] using c1
 obtain⟨nn,rfl⟩:=vQ hb.1;have wX:nn≤4294967296:=by have:=hb.2;unfold np at this;omega
 have sY:z0.cells.size=e.size:=U4 mc;obtain⟨w',r1,r2,r3⟩:=run_make_full (P:=C.P) w w0.heap.size T E inf z0 e.size hT hi hz hs k1 k2 nn (by
  have:inf.bytes*nn≤xl*4294967296:=Nat.mul_le_mul (by assumption) wX;unfold xl at this;omega) (by unfold maxLen;omega) h.below.size
 refine⟨.slice (some ⟨w.heap.size,0,none⟩) nn nn,w',by simp[execOp,ho,aS,ia,r1],?_⟩;obtain⟨ρ3,g3,ρ4,g4,g5⟩:=ak;cases g3;cases g4;cases g5;simp only[PE.ev,bo,D.i_int,vR];have hlen:(List.replicate nn z.2).length=nn:=by simp
 refine h.mkObj ht ah (.row E e) _ _ (fun k=>Nat.beq k w.heap.size) (W2 r3 (bk _) (by simp)) (fun k hk=>?_) ⟨_,List.replicate nn z.2,by simp[Env.setO,aL],by rw[aL,hlen];exact r2,⟨fun _=>z0,fun i x hx=>?_,fun i j u hi hj=>?_⟩,fun k hk=>?_⟩
 ·have aW:k=w.heap.size:=az hk;have:=(r2.lt _ rfl).2;subst aW;exact⟨bk _,this⟩
 ·have:=(eC.1 hx)
  obtain⟨q1,q2⟩:=this;simp at q2;subst q2;exact DV
 ·rw[hlen] at hi;have ct:j<z0.cells.size:=(gj.1 hj).1;rw[BE,←sY];rw[ZA (by omega) hi ct];exact hj
 ·rw[aL] at hk;simp[Value.ownBlock] at hk;simp[fq,hk]
theorem mP.push {arr:Array MapEntry}{clock:Nat}(h:mP arr clock)(k v:Value):mP (arr.push {key:=k,val:=v,born:=clock}) (clock+1):=by
 have key:∀(i:Nat) (e:MapEntry),(arr.push {key:=k,val:=v,born:=clock})[i]?=some e→(arr[i]?=some e∧e.born<clock)∨(i=arr.size∧e.born=clock):=by
  intro i e he;rw[Array.getElem?_push] at he;split at he
  ·rename_i hi;cases he;exact .inr ⟨hi,rfl⟩
  ·exact .inl ⟨he,h.1 i e he⟩
 refine⟨fun i e he=>?_,fun i j e f he hf hb=>?_⟩
 ·rcases key i e he with⟨_,h1⟩|⟨_,h1⟩<;>omega
 ·rcases key i e he with⟨h1,h2⟩|⟨h1,h2⟩<;>rcases key j f hf with⟨h3,h4⟩|⟨h3,h4⟩
  ·exact h.2 i j e f h1 h3 hb
  ·omega
  ·omega
  ·omega
theorem mP.modify {arr:Array MapEntry}{clock:Nat}(h:mP arr clock)(i0:Nat)(k v:Value):mP (arr.modify i0 fun e=>{e with key:=k,val:=v}) clock:=by
 have key:∀(i:Nat) (e:MapEntry),(arr.modify i0 fun e=>{e with key:=k,val:=v})[i]?=some e→∃e',arr[i]?=some e'∧e'.born=e.born:=by
  intro i e he;rw[Array.getElem?_modify] at he;split at he
  ·simp only[aA] at he;obtain⟨e',h1,rfl⟩:=he;exact⟨e',h1,rfl⟩
  ·exact⟨e,he,rfl⟩
 refine⟨fun i e he=>?_,fun i j e f he hf hb=>?_⟩
 ·obtain⟨e',h1,h2⟩:=key i e he;rw[←h2];exact h.1 i e' h1
 ·obtain⟨e',h1,h2⟩:=key i e he;obtain⟨f',h3,h4⟩:=key j f hf;exact h.2 i j e' f' h1 h3 (by rw[h2,h4,hb])
theorem Wo (h:Inv C S ρ σ own hv w0 σ0 A a w)(hC:CtxOK C σ0){T:TypeId}{m k v:Operand}{r:St×List PI}(hr:sr C S T m k v=some r){o:Oper}(hd:o.dst=none)(ho:o.op=.mapUpdate T m k v∨o.op=.insert T m k v):bZ C w0 σ0 Φ S ρ A a w o r:=by
 unfold sr at hr;split at hr
 case h_2=>cases hr
 rename_i K E j ver hT es;obtain⟨eJ,_⟩:=rH h (gs:=[]) rfl m;rw[es] at eJ;cases hb:Nat.beq ver (S.ver j)<;>simp only[hb,cond_true,cond_false] at hr
 ·cases hr
 have cu:=eJ.2 (az hb);have bf:=h.objs j;split at hr
 case h_2=>cases hr
 rename_i kt et tk ek tv ev eo hk xb;rw[eo] at bf;cases hc:(Ty.beq tk kt&&uR C.P K kt&&Ty.sub tv et)<;>simp only[hc,cond_true,cond_false] at hr
 ·cases hr
 cases hr;simp only[ao] at hc;obtain⟨⟨IA,Dm⟩,bS⟩:=hc;obtain⟨g,arr,clock,ds,h1,h2,h3,h4,h5,⟨h6,qO⟩,h7⟩:=bf;have aW:=cq h hC rfl hk;rw[Ty.beq_eq _ _ IA] at aW;have hv':=(cq h hC rfl xb).sub bS;refine bZ.skip hd fun ρ' ak=>?_;simp only[PI.runs,PI.run,av] at ak;obtain⟨ρ1,g1,ρ2,g2,g3⟩:=ak;cases c1:((PE.ci BinOp.lss (.mlen (.o j)) (.con (.int np))).ev ρ).b<;>simp only[c1,cond_true,cond_false] at g1
 ·cases g1
 cases g1;cases g2;cases g3;have akm:ds.length<4294967296:=by
  have h8:=afz c1;simp only[PE.ev,h4,D.m,D.i_int,D.int] at h8;exact ama h8
 have sJ:(Instr.checkKey false 10000 K (a.eval k)).run C.P w=.ok () w:=Wa (cap:=C.cap) (σ:=σ) Dm aW;have fI:∃tV zq ds',(Instr.mapUpdate T (a.eval m) (a.eval k) (a.eval v)).run C.P w=.ok () {w with heap:=w.heap.setIfInBounds g (.map tV zq)}∧dc (ek.ev ρ) (ev.ev ρ) ds=ds'∧ds'.length=tV.size∧(ds'.length≤maxLen∧mP tV zq)∧
  ∀(i:Nat) (e:MapEntry) (p:D×D),tV[i]?=some e→ds'[i]?=some p→Rep C.cap σ kt e.key p.1∧Rep C.cap σ et e.val p.2:=by
  rcases run_findKey Dm aW arr ds h5 h7 w with⟨f1,f2,f3⟩|⟨i,e,p,f1,f2,f3,f4,f5,f6⟩
  ·refine⟨arr.push {key:=a.eval k,val:=a.eval v,born:=clock},clock+1,ds++[(ek.ev ρ,ev.ev ρ)],?_,f3 _,by simp[h5],⟨by simp;unfold maxLen;omega,qO.push _ _⟩,fun q e p he hp=>?_⟩
   ·rw[cu,h1];simp[Instr.mapUpdate,run_underlying hT,getObj,Sem.run,h3,sJ,f1,setObj]
   ·rw[Array.getElem?_push] at he;rw[lU] at hp;by_cases hq:q=arr.size
    ·subst hq;simp at he;rw[if_neg (by omega)] at hp;simp[h5] at hp;subst he;subst hp;exact⟨aW,hv'⟩
    ·rw[if_neg hq] at he;have IT:q<arr.size:=(gj.1 he).1;rw[if_pos (by omega)] at hp;exact h7 q e p he hp
  ·refine⟨arr.modify i fun e=>{e with key:=a.eval k,val:=a.eval v},clock,ds.set i (ek.ev ρ,ev.ev ρ),?_,f5 _,by simp[h5],⟨by simp;exact h6,qO.modify _ _ _⟩,fun q e' p' he hp=>?_⟩
   ·rw[cu,h1];have bM:(Instr.keyThatStays e.key (a.eval k)).run C.P w=.ok (a.eval k) w:=by simp[Instr.keyThatStays,f6]
    simp[Instr.mapUpdate,run_underlying hT,getObj,Sem.run,h3,sJ,f3,f1,bM,setObj]
   ·rw[Array.getElem?_modify] at he;rw[BM] at hp;by_cases hq:i=q
    ·subst hq;simp only[if_true] at he hp;rw[f1] at he;simp at he;split at hp
     ·cases hp;subst he;exact⟨aW,hv'⟩
     ·cases hp
    ·rw[if_neg hq] at he hp;exact h7 q e' p' he hp
 obtain⟨tV,zq,ds',r1,r2,r3,r4,r5⟩:=fI;refine⟨{w with heap:=w.heap.setIfInBounds g (.map tV zq)},by rcases ho with ho|ho<;>simp[execOp,ho,r1],?_⟩;have hgl:g<w.heap.size:=(gj.1 h3).1;have hgB:w0.heap.size≤g:=(h.owns g j h2).1;have bQ:(PE.put (.o j) ek ev).ev ρ=.map ds':=by simp only[PE.ev,h4,D.m,r2]
 rw[bQ]
 have:=h.updB j (.mp kt et) (.map ds') (w':={w with heap:=w.heap.setIfInBounds g (.map tV zq)}) ⟨rfl,rfl,rfl,by simp,fun k hk=>by simp;rw[U8 (by omega)]⟩
  (fun k hk ay=>by simp;rw[U8 (fun e=>ay (by rw[←e];exact h2))])
  ⟨g,tV,zq,ds',h1,h2,by simp[hgl],by simp[Env.setO,aL],r3,r4,r5⟩
 have eS:S.setO j (.mp kt et)=S:=St.setO_self eo;rw[eS] at this;exact⟨_,_,_,this⟩
end
end Cx
namespace Cx
open Go Go.RowKit
theorem aut {e:Ty}{z:Value}(h:jE e z=true):e.rowT=true∨e.one=true:=by
 cases e<;>first|exact .inl rfl|exact .inr rfl|(cases z<;>simp[jE,ye] at h)
theorem Rep.cellsOne {cap:Nat→Option CSig}{σ:Im}{t:Ty}{v:Value}{d:D}(h:Rep cap σ t v d)(ht:t.rowT=true∨t.one=true){m:Nat}{u:Value}(hu:v.cells[m]?=some u):u.oneCell'=true:=by
 obtain⟨f1,f2,f3⟩:=h.flat ht;have ah:m<v.cells.size:=(gj.1 hu).1;rw[h.size] at ah;obtain⟨g1,g2⟩:=f3 m _ (bA (by omega:m<t.flat.length));have:=(g2.oneCell g1).2;rw[dU,hu] at this;exact this
theorem agR {cap:Nat→Option CSig}{σ:Im}{e:Ty}{cells:List Value}{xs:List D}(h:eh cap σ e cells xs)(hl:cells.length=xs.length*e.size)(hZ:e.rowT=true∨e.one=true):∀u∈cells,u.oneCell'=true:=by
 obtain⟨vs,h1,h2⟩:=h;intro u hu;obtain⟨p,hp,rfl⟩:=j7 hu;rw[hl] at hp;have hs:0<e.size:=Nat.pos_of_ne_zero fun e0=>by rw[e0] at hp;simp at hp
 have hi:p/e.size<xs.length:=(Nat.div_lt_iff_lt_mul hs).2 hp;have hq:p%e.size<e.size:=Nat.mod_lt _ hs;have bW:=h1 _ _ (bA hi);have aK:=bW.size;have pM:(vs (p/e.size)).cells[p%e.size]?=some (vs (p/e.size)).cells[p%e.size]:=fB (by omega);have:=h2 _ _ _ hi pM;rw[Nat.mul_comm,Nat.div_add_mod] at this;have h3:cells[p]=(vs (p/e.size)).cells[p%e.size]:=by
  have h4:=bA (show p<cells.length by omega);rw[h4] at this;exact BQ this
 rw[h3];exact bW.cellsOne hZ pM
theorem agQ {cap:Nat→Option CSig}{σ:Im}{e:Ty}{c1 c2:List Value}{xs ys:List D}(h:eh cap σ e c1 xs)(k:eh cap σ e c2 ys)(hl:c1.length=xs.length*e.size):eh cap σ e (c1++c2) (xs++ys):=by
 obtain⟨vs,h1,h2⟩:=h;obtain⟨us,k1,k2⟩:=k;refine⟨fun i=>if i<xs.length then vs i else us (i-xs.length),fun i x hx=>?_,fun i j u hi hj=>?_⟩
 ·rw[lU] at hx;split at hx
  ·rename_i ah;simp only[ah,if_true];exact h1 i x hx
  ·rename_i ah;simp only[ah,if_false];exact k1 _ x hx
 ·by_cases ah:i<xs.length
  ·simp only[ah,if_true] at hj;have:=h2 i j u ah hj;rw[jF (eC.1 this).1];exact this
  ·simp only[ah,if_false] at hj;have cw:i-xs.length<ys.length:=by simp at hi;omega
   have:=k2 _ j u cw hj;have e1:i*e.size=c1.length+(i-xs.length)*e.size:=by rw[hl,←oX];congr 1;omega
   rw[kI (by omega)];rw[show i*e.size+j-c1.length=(i-xs.length)*e.size+j by omega];exact this
section
variable {C:Ctx} {S:St} {ρ:Env} {σ:Im} {own:Nat→Option Nat} {hv:Nat→Value} {w0:World} {σ0:Base} {A:Nat→Prop} {a:Act} {w:World} {gs:List (Nat×Bool)} {Φ:aQ} {dst:Nat}
theorem auh (h:Inv C S ρ σ own hv w0 σ0 A a w){B:Nat}{e f:Ty}{v:Value}{d:D}(hs:0<e.size)(hZ:e.rowT=true∨e.one=true)(hf:f.unf=e)(OT:LF C σ w B (.slice f) v d):
 ∃ys,d=.list ys∧ys.length≤maxLen∧((v=.slice none 0 0∧ys=[])∨∃(ad:Addr) (c:Nat) (news:List Value),v=.slice (some ad) ys.length c∧news.length=ys.length*e.size∧
  (∀j u,news[j]?=some u→w.cell? (ad.add j)=some u)∧eh C.cap σ e news ys):=by
 rcases OT with hr|⟨T,e',cells,xs,ht,hd,cm,jk⟩|⟨k,arr,clock,es,kt,et,ht,_⟩
 ·obtain⟨xs,hd,zT⟩:=hr.slice_inv;rw[←f.unf_size,hf] at zT;rcases zT with⟨⟨p0,aS⟩,rfl⟩|⟨k,o,c,aS,h1,h2,vs,h3,h4⟩
  ·cases p0 with
   |none=>exact⟨[],hd,by simp,.inl ⟨aS,rfl⟩⟩
   |some a0=>exact⟨[],hd,by simp,.inr ⟨a0,0,[],aS,by simp,fun j u hu=>by simp at hu,fun _=>undef,fun i x hx=>by simp at hx,fun i j u hi=>by simp at hi⟩⟩
  ·refine⟨xs,hd,by omega,.inr ⟨⟨k,o,none⟩,c,(List.range (xs.length*e.size)).map fun p=>(vs (p/e.size)).cells.getD (p%e.size) undef,aS,by simp,fun j u hu=>?_,vs,h3,fun i j u hi hj=>?_⟩⟩
   ·simp only[cC,aA] at hu;obtain⟨p,hp,rfl⟩:=hu;have fW:j<xs.length*e.size:=by have:=(eC.1 hp).1;simpa using this
    rw[qw fW] at hp;cases hp;have hi:j/e.size<xs.length:=(Nat.div_lt_iff_lt_mul hs).2 fW;have hq:j%e.size<e.size:=Nat.mod_lt _ hs;have bW:=h3 _ _ (bA hi);have aK:=bW.size;have pM:(vs (j/e.size)).cells[j%e.size]?=some ((vs (j/e.size)).cells.getD (j%e.size) undef):=by
     rw[dU,fB (by omega)];rfl
    have:=h.cell (h4 _ _ _ hi pM);rw[se]
    rwa [show o+j/e.size*e.size+j%e.size=o+j by rw[vU,Nat.mul_comm,Nat.div_add_mod]] at this
   ·have bW:=h3 _ _ (bA hi);have ct:j<e.size:=by rw[←bW.size];exact(gj.1 hj).1
    have ah:i*e.size+j<xs.length*e.size:=by
     have:(i+1)*e.size≤xs.length*e.size:=oZ _ hi;rw[oX] at this;omega
    have e1:(i*e.size+j)/e.size=i:=by rw[Nat.mul_comm,Nat.mul_add_div hs,Nat.div_eq_of_lt ct];omega
    have e2:(i*e.size+j)%e.size=j:=by rw[BP,ael,Nat.mod_eq_of_lt ct]
    simp only[cC,qw ah,ka,e1,e2];rw[dU,hj];rfl
 ·cases ht;rw[Ty.unf_rol] at hf;obtain⟨b,c,aS,hm,_⟩:=xD cm;have jk:eh C.cap σ e cells xs:=by
   obtain⟨us,u1,u2⟩:=jk;refine⟨us,fun i x hx=>hf▸(u1 i x hx).unf,fun i j u hi hu=>?_⟩;rw[←hf,Ty.unf_size];exact u2 i j u hi hu
  have cm:w.ownsRow B T e.size v xs.length cells:=by rw[←hf,Ty.unf_size];exact cm
  rcases cm.2 with⟨e1,e2⟩|⟨g,cap,cur,e1,e2⟩
  ·have:xs=[]:=Lm e2;subst this;exact⟨[],hd,by simp,.inl ⟨e1,rfl⟩⟩
  ·exact⟨xs,hd,hm,.inr ⟨⟨g,0,none⟩,cap,cells,e1,cm.1,cm.cells (by rw[e1];rfl),jk⟩⟩
 ·cases ht
theorem aqR {P:Program}{B:Nat}{T E ty:TypeId}{inf:TypeInfo}{z:Value}{size:Nat}{v x:Value}{n m:Nat}{xs news:List Value}(hT:P.underlying T=some (.slice E))(hi:P.info? E=some inf)(hz:inf.zero=some z)
 (hs:inf.size=size) (sY:z.cells.size=size) (aK:0<size) (jN:inf.bytes≤xl) (cm:w.ownsRow B E size v n xs) (hB:B≤w.heap.size) (cR:n+m≤4294967296)
 (hx:(x=.slice none 0 0∧m=0∧news=[])∨∃(ad:Addr) (c:Nat),x=.slice (some ad) m c∧news.length=m*size∧(∀j u,news[j]?=some u→w.cell? (ad.add j)=some u)∧∀u∈news,u.oneCell'=true):
 ∃v' w',(Builtin.append_ #[T,T] ty #[v,x]).run P w=.ok v' w'∧w'.ownsRow B E size v' (n+m) (xs++news)∧w.grownBy w' v.ownBlock∧∀k,v'.ownBlock=some k→v.ownBlock=some k∨(w.heap.size≤k∧k<w'.heap.size):=by
 rcases hx with⟨rfl,rfl,rfl⟩|⟨ad,c,rfl,hl,IJ,h1⟩
 ·refine⟨v,w,run_append_owned_none w B T ty E inf size hT hi v n xs cm,by simpa using cm,⟨rfl,rfl,rfl,bk _,fun _ _ _=>rfl⟩,fun k hk=>.inl hk⟩
 ·have Ny:(n+m)*inf.bytes≤140737488355328:=by
   have:(n+m)*inf.bytes≤4294967296*xl:=Nat.mul_le_mul cR jN;unfold xl at this;omega
  obtain⟨v',w',r1,r2,r3,r4⟩:=run_append_own (P:=P) w B T ty E inf z size inf.bytes hT hi hz hs rfl sY aK v n xs cm ad m c news hl IJ h1 (by unfold maxLen;omega) Ny hB;refine⟨v',w',r1,r2,r3,fun k hk=>?_⟩;have ah:=(r2.lt k hk).2;subst hs;rcases cm.2 with⟨rfl,rfl⟩|⟨g,cap,cur,rfl,hbg,hg,da,nX,dz,DP⟩
  ·by_cases hm:m=0
   ·subst hm;have:=r4.2 ⟨rfl,rfl⟩;subst this;simp[Value.ownBlock] at hk
   ·have hr:=run_append_nil (P:=P) w T ty E inf z hT hi hz ad m c news hl IJ (by omega) (by omega) (by have hb:=Ny;simp only[gF] at hb;omega);rw[hr] at r1;cases r1;simp[Value.ownBlock] at hk;subst hk;exact .inr ⟨bk _,ah⟩
  ·by_cases Yg:n+m≤cap
   ·have wM:n*inf.size+news.length≤cur.size:=by rw[hl,dz,←oX];exact oZ _ Yg
    have hr:=run_append_room (P:=P) w T ty E inf hT hi g n cap cur hg ad m c news hl IJ h1 Yg wM;rw[hr] at r1;cases r1;exact .inl hk
   ·have hr:=run_append_grow (P:=P) w T ty E inf z hT hi hz ⟨g,0,none⟩ n cap xs cm.1 (cm.cells (g:=g) rfl) ad m c news hl IJ (by omega) (by omega) (growslice_fits (by omega) Ny);rw[hr] at r1;cases r1;simp[Value.ownBlock] at hk;subst hk;exact .inr ⟨bk _,ah⟩
theorem af6 (h:Inv C S ρ σ own hv w0 σ0 A a w)(hC:CtxOK C σ0)(ht:¬A dst)(ah:dst<a.tmps.size){T:TypeId}{s x:Operand}{r:St×List PI}(hr:Cp C S dst T s x=some r){o:Oper}(hd:o.dst=some dst)
 (ho:o.op=.call {callee:=.builtin .append,args:=#[s,x],argTypes:=#[T,T]}):bZ C w0 σ0 Φ S ρ A a w o r:=by
 unfold Cp at hr;split at hr
 case h_2=>cases hr
 rename_i E hT;simp only[av] at hr;obtain⟨e,he,hr⟩:=hr;split at hr
 case h_2=>cases hr
 rename_i tx ex OT;have hv':=UZ h hC (gs:=[]) rfl OT;obtain⟨cs,ak⟩:=R5 (C:=C) (w:=w) (a:=a) ho;cases hc:(qJ C.P E e&&KX tx e)<;>simp only[hc,cond_true,cond_false] at hr
 ·cases hr
 simp only[ao] at hc;obtain⟨inf,z,hi,hs,jN,h1,hz,mc⟩:=MX hc.1;have sY:=U4 mc;have hZ:=aut mc;have OU:∃f:Ty,f.unf=e∧LF C σ w w0.heap.size (.slice f) (a.eval x) (ex.ev ρ):=by
  have bM:=hc.2;unfold KX at bM;split at bM
  ·exact⟨_,Ty.beq_eq _ _ bM,hv'⟩
  ·refine⟨e,Ty.unf_ro hZ,?_⟩;rcases hv' with hr|⟨_,_,_,_,ht,_⟩|⟨_,_,_,_,_,_,ht,_⟩
   ·exact .inl (hr.sub (by simp[Ty.sub]))
   ·cases ht
   ·cases ht
  ·cases bM
 obtain⟨fv,eK,OU⟩:=OU;obtain⟨ys,Iq,kq,alk⟩:=auh h h1 hZ eK OU;have hx:∃news,eh C.cap σ e news ys∧news.length=ys.length*e.size∧((a.eval x=.slice none 0 0∧ys.length=0∧news=[])∨∃(ad:Addr) (c:Nat),a.eval x=.slice (some ad) ys.length c∧news.length=ys.length*e.size∧(∀j u,news[j]?=some u→w.cell? (ad.add j)=some u)∧∀u∈news,u.oneCell'=true):=by
  rcases alk with⟨e1,rfl⟩|⟨ad,c,news,e1,e2,e3,e4⟩
  ·exact⟨[],⟨fun _=>undef,by simp,by simp⟩,by simp,.inl ⟨e1,rfl,rfl⟩⟩
  ·exact⟨news,e4,e2,.inr ⟨ad,c,e1,e2,e3,agR e4 e2 hZ⟩⟩
 obtain⟨news,ay,X5,hx⟩:=hx;have main:∀(j:Nat) (v:Value) (xs:List D) (cells:List Value),a.eval s=v→w.ownsRow w0.heap.size E e.size v xs.length cells→eh C.cap σ e cells xs→xs.length+ys.length≤4294967296→
  (∀k,v.ownBlock=some k→own k=some j)→
  ∃v' w',(execOp a.eval o).run C.P w=.ok (.value v') w'∧Good C w0 σ0 ((S.newO j (.row E e)).setR dst (.obj j (S.ver j+1))) ((ρ.setO j (.list (xs++ys))).setR dst .none) (fun u=>A u∨u=dst) (a.put (some dst) v') w':=by
  intro j v xs cells OG cm jk hlen cS;obtain⟨v',w',r1,r2,r3,r4⟩:=aqR (P:=C.P) (ty:=o.type) hT hi hz hs sY h1 jN cm h.below.size hlen hx;refine⟨v',w',by rw[ak];simp[builtin,OG,r1],?_⟩
  have OQ:=h.updO j (.row E e) (.list (xs++ys)) v' (fun k=>decide (v'.ownBlock=some k)) (w':=w') (W2 r3 h.below.size (fun k hk=>(h.owns k j (cS k hk)).1)) (fun k hk ay=>r3.block k hk (fun e=>ay (cS k e.symm))) (fun k hk=>by
        have aW:v'.ownBlock=some k:=by simpa using hk
        rcases r4 k aW with e|e
        ·exact⟨.inl (cS k e),(r2.lt k aW).2⟩
        ·exact⟨.inr e.1,e.2⟩)
   ⟨cells++news,xs++ys,by simp[Env.setO,aL],by rw[aL,jG];exact r2,agQ jk ay cm.1,fun k hk=>by rw[aL] at hk;simp[fq,hk]⟩
  have h2:=OQ.setObj ht (j:=j) (v:=v') (aL _ _ _) ah;have e:(S.newO j (.row E e)).ver j=S.ver j+1:=aL _ _ _;rw[e] at h2;exact⟨_,_,_,h2⟩
 split at hr
 ·rename_i e0 pe0 hu;cases hr;refine bZ.value hd fun ρ' qZ=>?_;have OH:=cq h hC rfl hu;have OG:a.eval s=.slice none 0 0:=by
   generalize a.eval s=v at OH;generalize pe0.ev ρ=d at OH;cases OH;rfl
  simp only[PI.runs,PI.run,av] at qZ;obtain⟨ρ1,g1,ρ2,g2,ρ3,g3,g4⟩:=qZ;cases c1:((I7 (.con (.list [])) ex).ev ρ).b<;>simp only[c1,cond_true,cond_false] at g1
  ·cases g1
  cases g1;cases g2;cases g3;cases g4;have hlen:=Wb c1;simp only[PE.ev,D.l_list,Iq,tR,D.i_int,D.int] at hlen;have:=main dst (.slice none 0 0) [] [] OG (World.ownsRow_nil _ _ _ _) ⟨fun _=>undef,by simp,by simp⟩ (by simpa using YW hlen) (by simp[Value.ownBlock]);simpa [PE.ev,D.l_list,Iq,mkObj] using this
 ·cases hr
 ·obtain⟨eJ,_⟩:=rH h (gs:=[]) rfl s;split at hr
  case h_2=>cases hr
  rename_i j ver es;rw[es] at eJ;cases hb:Nat.beq ver (S.ver j)<;>simp only[hb,cond_true,cond_false] at hr
  ·cases hr
  have cu:=eJ.2 (az hb);have bf:=h.objs j;split at hr
  case h_2=>cases hr
  rename_i E' e' eo;rw[eo] at bf;cases gK:(Nat.beq E' E&&Ty.beq e' e)<;>simp only[gK,cond_true,cond_false] at hr
  ·cases hr
  cases hr;simp only[ao] at gK;have e1:=az gK.1;have e2:=Ty.beq_eq _ _ gK.2;subst e1;subst e2;obtain⟨cells,xs,k1,k2,k3,k4⟩:=bf;refine bZ.value hd fun ρ' qZ=>?_;simp only[PI.runs,PI.run,av] at qZ;obtain⟨ρ1,g1,ρ2,g2,ρ3,g3,g4⟩:=qZ;cases c1:((I7 (.o j) ex).ev ρ).b<;>simp only[c1,cond_true,cond_false] at g1
  ·cases g1
  cases g1;cases g2;cases g3;cases g4;have hlen:=Wb c1;simp only[PE.ev,D.l_list,Iq,k1,D.i_int,D.int] at hlen;have:=main j (hv j) xs cells cu k2 k3 (by have:=YW hlen;simpa using this) k4;simpa [PE.ev,D.l_list,Iq,k1] using this
end
end Cx
namespace Cx
open Go Go.RowKit
theorem Fz {P:Program}{a:Act}{w:World}{o:Oper}{T:TypeId}{x v:Operand}{inf:TypeInfo}{k off:Nat}{cs:Array Value}{E:TypeId}(ho:o.op=.store T x v)(hi:P.info? T=some inf)(hx:a.eval x=.pointer (some ⟨k,off,none⟩))
 (hs:(a.eval v).cells.size=inf.size) (dB:∀u∈(a.eval v).cells.toList,u.oneCell'=true) (hb:w.heap[k]?=some (.cells cs E (0,0))) (hle:off+inf.size≤cs.size):
 (execOp a.eval o).run P w=.ok .skip (w.setRow k (cs.toList.take off++(a.eval v).cells.toList++cs.toList.drop (off+inf.size)).toArray):=by
 have:=run_storeCells_at P k off E (a.eval v).cells.toList 0 cs w hb (by simp[hs];exact hle) dB;simp only[iw,BF,hs] at this;simp[execOp,ho,Instr.storeAt,hx,Instr.sureAddr,storeVar,Go.sizeOf,run_typeInfo w hi,hs,this]
theorem adq {w:World}{B k:Nat}{cs:Array Value}(hB:B≤k):Below B w (w.setRow k cs)∧∀i,i≠k→(w.setRow k cs).heap[i]?=w.heap[i]?:=
 ⟨⟨rfl,rfl,rfl,by simp[World.setRow],fun i hi=>setRow_other w k i cs (by omega)⟩,fun i hi=>setRow_other w k i cs hi⟩
theorem HY {α:Type}(xs ys:List α)(off:Nat)(d:α)(hle:off+ys.length≤xs.length)(i:Nat):(xs.take off++ys++xs.drop (off+ys.length)).getD i d=if off≤i∧i<off+ys.length then ys.getD (i-off) d else xs.getD i d:=by
 simp only[aJ,qv];rw[lU,dE,oY (by omega)];split
 ·rename_i h;rw[if_neg (by omega),eW,if_pos h]
 ·rename_i h;rw[lU];split
  ·rename_i h2;rw[if_pos (by omega)]
  ·rename_i h2;rw[if_neg (by omega),fS];congr 2;omega
section
variable {C:Ctx} {S:St} {ρ:Env} {σ:Im} {own:Nat→Option Nat} {hv:Nat→Value} {w0:World} {σ0:Base} {A:Nat→Prop} {a:Act} {w:World} {gs:List (Nat×Bool)} {Φ:aQ} {dst:Nat}
theorem Inv.storeBox (h:Inv C S ρ σ own hv w0 σ0 A a w){j k off:Nat}{ag:Bool}{shs news:List Sh}{cs:Array Value}{E:TypeId}{ds dn:List D}{vs:List Value}(eo:S.o j=.box ag shs)
 (h1:hv j=.pointer (some ⟨k,0,none⟩)) (h2:own k=some j) (h3:w.heap[k]?=some (.cells cs E (0,0))) (h4:cs.size=shs.length) (h5:ρ.o j=.agg ds) (h6:ds.length=shs.length)
 (h7:∀i s,shs[i]?=some s→(∀gs s',s≠.opt gs s')∧aH C S ρ σ hv s (cs.getD i undef) (ds.getD i .none))
 (l1:news.length=vs.length) (l2:dn.length=vs.length) (hle:off+vs.length≤shs.length)
 (lz:∀i s,news[i]?=some s→(∀gs s',s≠.opt gs s')∧aH C S ρ σ hv s (vs.getD i undef) (dn.getD i .none)):
 Inv C (S.setO j (.box ag (shs.take off++news++shs.drop (off+vs.length)))) (ρ.setO j (.agg (bO ds off dn))) σ own hv w0 σ0 A a (w.setRow k (cs.toList.take off++vs++cs.toList.drop (off+vs.length)).toArray):=by
 have hkB:w0.heap.size≤k:=(h.owns k j h2).1;obtain⟨b1,b2⟩:=adq (w:=w) (B:=w0.heap.size) (k:=k) (cs:=(cs.toList.take off++vs++cs.toList.drop (off+vs.length)).toArray) hkB;refine h.updB j _ _ b1 (fun i hi ay=>b2 i fun e=>ay (e▸h2)) ⟨k,_,E,bO ds off dn,h1,h2,setRow_heap w k cs _ E _ h3,?_,by simp[Env.setO,aL],?_,fun i s hi=>?_⟩
 ·simp[l1];omega
 ·simp[bO,l2,l1];omega
 ·have dz:(cs.toList.take off++vs++cs.toList.drop (off+vs.length)).toArray.getD i undef=if off≤i∧i<off+vs.length then vs.getD (i-off) undef else cs.getD i undef:=by
   have e0:∀l:List Value,l.toArray.getD i undef=l.getD i undef:=fun l=>by simp[dU,aJ]
   rw[e0,HY cs.toList vs off undef (by simp;omega),zL cs i]
  have wJ:(bO ds off dn).getD i .none=if off≤i∧i<off+vs.length then dn.getD (i-off) .none else ds.getD i .none:=by
   rw[bO,HY ds dn off .none (by omega),l2]
  rw[dz,wJ];have X0:∀s v d,(∀gs s',s≠.opt gs s')→aH C S ρ σ hv s v d→aH C (S.setO j (.box ag (shs.take off++news++shs.drop (off+vs.length)))) (ρ.setO j (.agg (bO ds off dn))) σ hv s v d:=
   fun s v d hn hk=>aH.mono' (.refl σ) (Compat.setO _ _ _ _) hn hk
  have gM:(shs.take off++news++shs.drop (off+vs.length))[i]?=if off≤i∧i<off+vs.length then news[i-off]? else shs[i]?:=by
   rw[qv,lU,dE,oY (by omega)];split
   ·rename_i h;rw[if_neg (by omega),eW,if_pos h]
   ·rename_i h;rw[lU,l1];split
    ·rename_i h2;rw[if_pos (by omega)]
    ·rename_i h2;rw[if_neg (by omega),fS];congr 1;omega
  rw[gM] at hi;split
  ·rename_i hc;rw[if_pos hc] at hi;obtain⟨g1,g2⟩:=lz _ s hi;exact⟨g1,X0 _ _ _ g1 g2⟩
  ·rename_i hc;rw[if_neg hc] at hi;obtain⟨g1,g2⟩:=h7 _ s hi;exact⟨g1,X0 _ _ _ g1 g2⟩
theorem adg (h:Inv C S ρ σ own hv w0 σ0 A a w){j:Nat}(hr:kT (S.o j)=true):(hv j).cells=#[hv j]∧(hv j).oneCell'=true:=by
 have bf:=h.objs j;cases cS:S.o j with
 |row T e=>
  rw[cS] at bf;obtain⟨cells,xs,h1,h2,h3,h4⟩:=bf;obtain⟨b,c,e1,_⟩:=xD h2;rw[e1];exact⟨rfl,rfl⟩
 |mp kt et=>
  rw[cS] at bf;obtain⟨k0,arr,clock,es,h1,_⟩:=bf;rw[h1];exact⟨rfl,rfl⟩
 |_=>rw[cS] at hr;simp[kT] at hr
theorem Inv.storeRow (h:Inv C S ρ σ own hv w0 σ0 A a w){j k n c i p:Nat}{T:TypeId}{e:Ty}{cells vs:List Value}{xs:List D}{v':Value}{d':D}(eo:S.o j=.row T e)(eL:hv j=.slice (some ⟨k,0,none⟩) n c)
 (h1:ρ.o j=.list xs) (h2:w.ownsRow w0.heap.size T e.size (hv j) xs.length cells) (h3:eh C.cap σ e cells xs) (h4:∀k,(hv j).ownBlock=some k→own k=some j) (hi:i<xs.length)
 (uF:i*e.size≤p) (fh:p+vs.length≤i*e.size+e.size) (hr:Rep C.cap σ e v' d')
 (hv':∀q u,v'.cells[q]?=some u→(cells.take p++vs++cells.drop (p+vs.length))[i*e.size+q]?=some u):
 ∃cur,w.heap[k]?=some (.cells cur T (0,0))∧p+vs.length≤cur.size∧Inv C S (ρ.setO j (.list (xs.set i d'))) σ own hv w0 σ0 A a (w.setRow k (cur.toList.take p++vs++cur.toList.drop (p+vs.length)).toArray):=by
 have be:=h2.1;rcases h2.2 with⟨e0,e1⟩|⟨g,cap,cur,e1,e2,e3,e4,e5,e6,e7⟩
 ·omega
 rw[eL] at e1;cases e1;have akd:i*e.size+e.size≤xs.length*e.size:=by
  have:(i+1)*e.size≤xs.length*e.size:=oZ _ hi;rw[oX] at this;omega
 have ay8:xs.length*e.size≤c*e.size:=oZ _ e4;have akW:p+vs.length≤cur.size:=by omega
 refine⟨cur,e3,akW,?_⟩;have cm:own k=some j:=h4 k (by rw[eL];rfl);obtain⟨b1,b2⟩:=adq (w:=w) (B:=w0.heap.size) (k:=k) (cs:=(cur.toList.take p++vs++cur.toList.drop (p+vs.length)).toArray) e2;have DP:(cur.toList.take p++vs++cur.toList.drop (p+vs.length)).take (xs.length*e.size)=cells.take p++vs++cells.drop (p+vs.length):=by
  rw[←e7];apply Vm;intro q;simp only[qv,eW,lU,dE,fS,BF];by_cases hq:q<xs.length*e.size
  ·rw[if_pos hq];by_cases hq1:q<p
   ·simp[hq1,Nat.lt_min,show q<cur.size by omega,hq]
   ·by_cases jo:q-p<vs.length
    ·rw[if_neg (by omega),oY (by omega),if_pos jo,if_neg (by omega),oY (by omega),if_pos jo]
    ·rw[if_neg (by omega),oY (by omega),if_neg jo,if_neg (by omega),oY (by omega),if_neg jo,if_pos (by omega)]
  ·rw[if_neg hq];have:¬q<p:=by omega
   rw[if_neg (by omega),oY (by omega),if_neg (by omega),if_neg (by omega)]
 have:=h.updB j (.row T e) (.list (xs.set i d')) b1 (fun q hq ay=>b2 q fun e=>ay (e▸cm))
  ⟨cells.take p++vs++cells.drop (p+vs.length),xs.set i d',by simp[Env.setO,aL],⟨by simp;omega,.inr ⟨k,c,_,by rw[eL];simp,e2,setRow_heap w k cur _ T _ e3,by simpa using e4,e5,by simp;omega,by simpa using DP⟩⟩,?_,h4⟩
 ·rw[St.setO_self eo] at this;exact this
 ·obtain⟨us,u1,u2⟩:=h3;refine⟨fun q=>if q=i then v' else us q,fun q x hx=>?_,fun q m u hq hm=>?_⟩
  ·rw[BM] at hx;by_cases Af:i=q
   ·subst Af;simp only[if_true] at hx ⊢;rw[if_pos hi] at hx;cases hx;exact hr
   ·rw[if_neg Af] at hx;simp only[show ¬q=i from fun e=>Af e.symm,if_false];exact u1 q x hx
  ·by_cases Af:q=i
   ·subst Af;simp only[if_true] at hm;exact hv' m u hm
   ·simp only[Af,if_false] at hm;simp only[List.length_set] at hq;have h9:=u2 q m u hq hm;have azi:m<e.size:=by rw[←(u1 q _ (bA hq)).size];exact(gj.1 hm).1
    have kl:q*e.size+m<p∨p+vs.length≤q*e.size+m:=by
     rcases Lx q i with ah|ff
     ·left;have:(q+1)*e.size≤i*e.size:=oZ _ ah;rw[oX] at this;omega
     ·right;have:(i+1)*e.size≤q*e.size:=oZ _ (by omega);rw[oX] at this;omega
    rw[qv,lU,dE,oY (by omega)];rcases kl with ho|ho
    ·rw[if_pos ho,eW,if_pos ho];exact h9
    ·rw[if_neg (by omega),kI (by omega),fS];rw[show p+vs.length+(q*e.size+m-p-vs.length)=q*e.size+m by omega];exact h9
theorem agF (h:Inv C S ρ σ own hv w0 σ0 A a w)(hC:CtxOK C σ0){T:TypeId}{x v:Operand}{r:St×List PI}(hr:uc C S T x v=some r){o:Oper}(hd:o.dst=none)(ho:o.op=.store T x v):bZ C w0 σ0 Φ S ρ A a w o r:=by
 unfold uc at hr;split at hr
 case h_2=>cases hr
 rename_i inf hi;obtain⟨eJ,_⟩:=rH h (gs:=[]) rfl x;split at hr
 case h_3=>cases hr
 ·rename_i j ver off es;rw[es] at eJ;cases hb:Nat.beq ver (S.ver j)<;>simp only[hb,cond_true,cond_false] at hr
  ·cases hr
  obtain⟨k,eL,fF⟩:=eJ.2 (az hb);have bf:=h.objs j;split at hr
  case h_2=>cases hr
  rename_i ag shs eo;rw[eo] at bf;obtain⟨k',cs,E,ds,h1,h2,h3,h4,h5,h6,h7⟩:=bf;have cE:=h1;rw[eL] at h1;cases h1;split at hr
  ·rename_i t e hu;have hv':=cq h hC rfl hu;cases hc:(Nat.beq inf.size t.size&&(t.rowT||t.one)&&Nat.ble (off+t.size) shs.length)<;>simp only[hc,cond_true,cond_false] at hr
   ·cases hr
   cases hr;simp only[ao,gC] at hc;obtain⟨⟨aK,hZ⟩,hle⟩:=hc;have aK:=az aK;have hle:=jI hle;obtain⟨f1,f2,f3⟩:=hv'.flat hZ;have ib:=hv'.size;refine bZ.skip hd fun ρ' ak=>?_;rw[rF ak]
   refine⟨_,Fz ho hi fF (by rw[ib,aK]) (fun u hu=>by
        obtain⟨m,hm,rfl⟩:=j7 hu;exact hv'.cellsOne hZ (m:=m) (by simp at hm ⊢)) h3 (by omega),?_⟩
   have bM:=h.storeBox (off:=off) (news:=t.flat.map .dat) (vs:=(a.eval v).cells.toList) (dn:=(e.ev ρ).cells) eo cE h2 h3 h4 h5 h6 h7 (by simp[f1,ib]) (by simp[f2,ib]) (by simp[ib];omega) (fun i s hi=>by
        simp only[cC,aA] at hi;obtain⟨ti,OL,rfl⟩:=hi;refine⟨fun _ _ e=>(by cases e),?_⟩;rw[zL];exact(f3 i ti OL).2)
   have e1:(a.eval v).cells.toList.length=t.size:=by simp[ib]
   rw[e1] at bM;rw[aK];refine⟨σ,own,hv,?_⟩;simpa [PE.ev,h5,D.cells] using bM
  ·split at hr
   case h_3=>cases hr
   case h_2=>
        rename_i l fD;obtain⟨Ah,_⟩:=rH h (gs:=[]) rfl v;rw[fD] at Ah;obtain⟨vs,ds',q1,q2,q3,q4,q5⟩:=Ah;cases hc:(Nat.beq inf.size l.length&&Nat.ble (off+l.length) shs.length&&l.all (Na S))<;>simp only[hc,cond_true,cond_false] at hr
        ·cases hr
        cases hr;simp only[ao] at hc;obtain⟨⟨aK,hle⟩,dg⟩:=hc;have aK:=az aK;have hle:=jI hle;have iN:(a.eval v).cells.toList=vs:=by rw[q1];simp[Value.cells]
        have dz:(a.eval v).cells.size=vs.length:=by rw[←iN];simp
        have dB:∀u∈(a.eval v).cells.toList,u.oneCell'=true:=fun u hu=>by
         rw[iN] at hu;obtain⟨i,hi,rfl⟩:=j7 hu;have wN:i<l.length:=by omega
         have g:=q5 i l[i] (bA wN);have hf:=bJ.1 dg l[i] (de wN);have NO:vs.getD i undef=vs[i]:=by simp[aJ,hi]
         rw[NO] at g;generalize l[i]=c at g hf;cases c with
         |dat t=>exact(g.2.oneCell g.1).2
         |obj j' mL=>
          simp only[Na,ao] at hf;rw[g.2 (az hf.1)];exact(adg h hf.2).2
        refine bZ.skip hd fun ρ' ak=>?_;rw[rF ak];refine⟨_,Fz ho hi fF (by omega) dB h3 (by omega),?_⟩
        have bM:=h.storeBox (off:=off) (news:=l.map AgC.sh) (vs:=vs) (dn:=ds') eo cE h2 h3 h4 h5 h6 h7 (by simp[q3]) (by omega) (by omega) (fun i s hi=>by
         simp only[cC,aA] at hi;obtain⟨c,hc,rfl⟩:=hi;have g:=q5 i c hc;cases c with
         |dat t=>exact⟨fun _ _ e=>(by cases e),g.2⟩
         |obj j' mL=>exact⟨fun _ _ e=>(by cases e),g⟩)
        rw[iN,aK];have e1:vs.length=l.length:=q3;rw[e1] at bM;refine⟨σ,own,hv,?_⟩;simpa [PE.ev,h5,q2,D.cells] using bM
   rename_i j' mL fD;obtain⟨Ah,_⟩:=rH h (gs:=[]) rfl v;rw[fD] at Ah;cases hc:(Nat.beq mL (S.ver j')&&kT (S.o j')&&Nat.beq inf.size 1&&Nat.blt off shs.length)<;>simp only[hc,cond_true,cond_false] at hr
   ·cases hr
   cases hr;simp only[ao] at hc;obtain⟨⟨⟨alH,gw⟩,aK⟩,ah⟩:=hc;have aK:=az aK;have ah:off<shs.length:=by simpa [ix] using ah
   have cu:=Ah.2 (az alH);obtain⟨c1,c2⟩:=adg h gw;have iN:(a.eval v).cells=#[a.eval v]:=by rw[cu];exact c1
   refine bZ.skip hd fun ρ' ak=>?_;rw[rF ak];refine⟨_,Fz ho hi fF (by rw[iN,aK];rfl) (fun u hu=>by rw[iN] at hu;simp at hu;subst hu;rw[cu];exact c2) h3 (by omega),?_⟩
   have bM:=h.storeBox (off:=off) (news:=[.obj j' mL]) (vs:=[a.eval v]) (dn:=[.none]) eo cE h2 h3 h4 h5 h6 h7 rfl rfl (by simp;omega) (fun i s hi=>by
        match i,hi with
        |0,hi=>simp at hi;subst hi;exact⟨fun _ _ e=>(by cases e),Ah.1,fun _=>by simpa using cu⟩
        |i+1,hi=>simp at hi)
   rw[iN,aK];have e2:shs.take off++[Sh.obj j' mL]++shs.drop (off+[a.eval v].length)=shs.set off (.obj j' mL):=by
        rw[List.set_eq_take_append_cons_drop,if_pos ah];simp
   rw[e2] at bM;refine⟨σ,own,hv,?_⟩;simpa [PE.ev,h5,D.cells] using bM
 ·rename_i j ver size off es;rw[es] at eJ;cases hb:Nat.beq ver (S.ver j)<;>simp only[hb,cond_true,cond_false] at hr
  ·cases hr
  obtain⟨k,n,c,ik,i,eL,ux,aY,fF⟩:=eJ.2 (az hb);have bf:=h.objs j;split at hr
  ·rename_i T' ts t e eo hu;rw[eo] at bf;have hv':=cq h hC rfl hu;cases hc:(Nat.beq inf.size t.size&&(t.rowT||t.one)&&Nat.beq size ts.length&&Nat.ble (off+t.size) ts.length&&Ty.subs t.flat ((ts.drop off).take t.size))<;>simp only[hc,cond_true,cond_false] at hr
   ·cases hr
   cases hr;simp only[ao,gC] at hc;obtain⟨⟨⟨⟨aK,hZ⟩,w8⟩,hle⟩,bS⟩:=hc;have aK:=az aK;have w8:=az w8;have hle:=jI hle;obtain⟨f1,f2,f3⟩:=hv'.flat hZ;have ib:=hv'.size;have f1:t.flat.length=t.size:=f1;have f2:(e.ev ρ).cells.length=t.size:=f2;have ib:(a.eval v).cells.size=t.size:=ib;obtain⟨cells,xs,k1,k2,k3,k4⟩:=bf;obtain⟨b,c',e1,Dr,Ds⟩:=xD k2;rw[eL] at e1;cases e1;obtain⟨us,u1,u2⟩:=k3;obtain⟨y,hy⟩:∃y,xs[i]?=some y:=⟨_,bA aY⟩
   obtain⟨os,ds,uM,hd0,l1,l2,aO,dB⟩:=(u1 i y hy).agg_inv;have DR:(a.eval v).cells.toList.length=t.size:=by simp[ib]
   have lz:Rep C.cap σ (.agg ts) (.agg (os.take off++(a.eval v).cells.toList++os.drop (off+(a.eval v).cells.toList.length)).toArray) (.agg (bO ds off (e.ev ρ).cells)):=by
        refine .agg _ _ _ (by simp[ib];omega) (by simp[bO,f2];omega) (fun m tm hm=>?_) dB;rw[HY os _ off undef (by rw[DR];omega),bO,HY ds _ off .none (by rw[f2];omega),DR,f2];split
        ·rename_i hc;have alq:=Ty.subs_get _ _ bS (m-off) tm (by
          rw[eW,if_pos (by omega),fS,show off+(m-off)=m by omega];exact hm)
         obtain⟨tf,htf,bM⟩:=alq;rw[zL];exact((f3 _ tf htf).2).sub bM
        ·exact aO m tm hm
   have be:=k2.1;have akd:i*(Ty.agg ts).size+(Ty.agg ts).size≤xs.length*(Ty.agg ts).size:=by
        have:(i+1)*(Ty.agg ts).size≤xs.length*(Ty.agg ts).size:=oZ _ aY;rw[oX] at this;omega
   have Yn:(Ty.agg ts).size=ts.length:=rfl
   obtain⟨cur,q1,q2,q3⟩:=h.storeRow (i:=i) (p:=i*(Ty.agg ts).size+off) (vs:=(a.eval v).cells.toList) eo eL k1 k2 ⟨us,u1,u2⟩ k4 aY (by omega) (by rw[DR];omega) lz (fun q u hq=>by
        have dJ:(os.take off++(a.eval v).cells.toList++os.drop (off+(a.eval v).cells.toList.length))[q]?=some u:=by simpa [Value.cells] using hq
        have azo:q<ts.length:=by have:=(eC.1 dJ).1;simp[ib] at this;omega
        rw[qv,lU,dE,oY (by omega)] at dJ;rw[qv,lU,dE,oY (by omega)];by_cases qY:q<off
        ·rw[if_pos qY,eW,if_pos qY] at dJ;rw[if_pos (by omega),eW,if_pos (by omega)];exact u2 i q u aY (by rw[uM];simpa [Value.cells] using dJ)
        ·rw[if_neg qY,lU] at dJ;rw[if_neg (by omega),lU];rw[show i*(Ty.agg ts).size+q-(i*(Ty.agg ts).size+off)=q-off by omega];by_cases Ox:q-off<(a.eval v).cells.toList.length
         ·rw[if_pos Ox] at dJ ⊢;exact dJ
         ·rw[if_neg Ox,fS] at dJ;rw[if_neg Ox,fS];rw[show off+(a.eval v).cells.toList.length+(q-off-(a.eval v).cells.toList.length)=q by omega] at dJ;rw[show i*(Ty.agg ts).size+off+(a.eval v).cells.toList.length+(q-off-(a.eval v).cells.toList.length)=i*(Ty.agg ts).size+q by omega];exact u2 i q u aY (by rw[uM];simpa [Value.cells] using dJ))
   refine bZ.skip hd fun ρ' ak=>?_;rw[rF ak]
   refine⟨_,Fz ho hi (cs:=cur) (by rw[fF,w8]) (by rw[ib,aK]) (fun u hu=>by
        obtain⟨m,hm,rfl⟩:=j7 hu;exact hv'.cellsOne hZ (m:=m) (by simp at hm ⊢)) q1 (by rw[DR] at q2;rw[aK,←Yn];exact q2),σ,own,hv,?_⟩
   rw[DR] at q3;simp only[PE.ev,k1,D.l_list,ux,D.i_int,vR,sE hy,hd0,vA];rw[aK,←Yn];exact q3
  ·rename_i T' e0 t e ay eo hu;rw[eo] at bf;have hv':=cq h hC rfl hu;cases hc:(Nat.beq inf.size 1&&Nat.beq size 1&&Nat.beq off 0&&e0.one&&Ty.sub t e0)<;>simp only[hc,cond_true,cond_false] at hr
   ·cases hr
   cases hr;simp only[ao] at hc;obtain⟨⟨⟨⟨aK,w8⟩,jn⟩,dB⟩,bS⟩:=hc;have aK:=az aK;have w8:=az w8;have jn:=az jn;subst jn;subst w8;have Yq:=hv'.sub bS;obtain⟨c1,c2⟩:=Yq.oneCell dB;have Db:e0.size=1:=by cases e0<;>simp_all [Ty.size,Ty.one]
   obtain⟨cells,xs,k1,k2,k3,k4⟩:=bf;obtain⟨b,c',e1,Dr,Ds⟩:=xD k2;rw[eL] at e1;cases e1;obtain⟨y,hy⟩:∃y,xs[i]?=some y:=⟨_,bA aY⟩
   have be:=k2.1
   obtain⟨cur,q1,q2,q3⟩:=h.storeRow (i:=i) (p:=i*e0.size) (vs:=[a.eval v]) eo eL k1 k2 k3 k4 aY (bk _) (by rw[Db];simp) Yq (fun q u hq=>by
        rw[c1] at hq;have wY:q=0:=by have:=(gj.1 hq).1;simpa using this
        subst wY;simp at hq;subst hq;have:i*e0.size≤cells.length:=by rw[be];exact oZ _ (by omega)
        rw[qv,kI (by simp;omega)];simp[oY this])
   refine bZ.skip hd fun ρ' ak=>?_;rw[rF ak];refine⟨_,Fz ho hi (cs:=cur) (by rw[fF]) (by rw[c1,aK];rfl) (fun u hu=>by rw[c1] at hu;simp at hu;subst hu;exact c2) q1 (by rw[Db] at q2;rw[aK];simpa using q2),σ,own,hv,?_⟩;rw[c1,aK];have DU:vA y 0 (e.ev ρ)=e.ev ρ:=by
        obtain⟨us,u1,u2⟩:=k3;have:=(u1 i y hy).dcells dB;cases y with
        |agg ds=>have h8:=u1 i _ hy;generalize us i=vv at h8;cases h8;simp[Ty.one] at dB
        |_=>rfl
   simp only[PE.ev,k1,D.l_list,ux,D.i_int,vR,sE hy,DU];rw[Db] at q3;simpa using q3
  ·cases hr
end
end Cx
namespace Cx
open Go Go.RowKit
section
variable {C:Ctx} {S:St} {ρ:Env} {σ:Im} {own:Nat→Option Nat} {hv:Nat→Value} {w0:World} {σ0:Base} {A:Nat→Prop} {a:Act} {w:World} {gs:List (Nat×Bool)} {Φ:aQ} {dst:Nat}
theorem ag7 {ρ:Env}{es:List PE}{i:Nat}{e:PE}(h:es[i]?=some e):(PE.evs ρ es)[i]?=some (e.ev ρ):=by
 rw[PE.evs_eq,cC,h];rfl
theorem Wi (h:Inv C S ρ σ own hv w0 σ0 A a w)(hC:CtxOK C σ0)(hg:holds gs ρ=true){T:TypeId}{len:Nat}{ps:Array (Nat×Operand)}{r:St×List PI}(hr:wu C S gs dst T len ps.toList=some r){o:Oper}
 (ho:o.op=.buildSlice T len ps):∃(E:TypeId) (e:Ty) (es:List PE) (v:Value) (w':World),C.P.underlying T=some (.slice E)∧oS C.P E=some e∧r=(mkObj S dst (.row E e),[.setO dst (.lst es),.setR dst (.con .none)])∧
   (execOp a.eval o).run C.P w=.ok (.value v) w'∧Below w.heap.size w w'∧(∀k,Nat.beq k w.heap.size=true→w.heap.size≤k∧k<w'.heap.size)∧
   cn C (S.newO dst (.row E e)) (ρ.setO dst (.list (PE.evs ρ es))) σ (fq own dst (fun k=>Nat.beq k w.heap.size)) (bY hv dst v) w' w0.heap.size dst (.row E e):=by
 unfold wu at hr;split at hr
 case h_2=>cases hr
 rename_i E hT;simp only[av] at hr;obtain⟨e,he,z,hz,hr⟩:=hr;cases hc:(qJ C.P E e&&Ty.sub z.1 e&&gx (ps.toList.map (·.1))&&ps.toList.all (fun p=>Nat.blt p.1 len)&&Nat.ble (len*e.size) 16777216)<;>simp only[hc,cond_true,cond_false] at hr
 ·cases hr
 simp only[ao] at hc;obtain⟨⟨⟨⟨hef,bS⟩,bp⟩,fi⟩,hle⟩:=hc;have hle:=jI hle;obtain⟨inf,zv,hi,hs,jN,h1,hzv,mc⟩:=MX hef;have sY:=U4 mc;have jS:=ml bp;have DV:=((yf (cap:=C.cap) (σ:=σ) hz mc).1).sub bS;simp only[aA] at hr;obtain⟨es,jm,rfl⟩:=hr;obtain⟨Wt,el2⟩:=mapM_some _ _ _ jm;simp only[F3] at Wt;have Xz:∀i,i<len→∃pe,es[i]?=some pe∧HK C S gs e z.2 ps.toList i=some pe:=by
  intro i hi;obtain⟨y,hy1,sX⟩:=el2 i i (by rw[qw hi]);exact⟨y,hy1,sX⟩
 have l8:∀x,x∈ps.toList→x.1<len∧∃t pe,use C S gs x.2=some (t,pe)∧Ty.sub t e=true∧es[x.1]?=some pe:=by
  intro x hx;have xe:x.1<len:=by
   have:=bJ.1 fi x hx;simpa [ix] using this
  refine⟨xe,?_⟩;obtain⟨pe,uF,fh⟩:=Xz x.1 xe;have De:=WK jS (i:=x.1) (x:=x.2) hx;simp only[HK,De,av] at fh;obtain⟨y,hy,fh⟩:=fh;cases hs:Ty.sub y.1 e<;>simp only[hs,cond_true,cond_false] at fh
  ·cases fh
  cases fh;exact⟨y.1,y.2,hy,hs,uF⟩
 let c0:Array Value:=madeCells zv.cells (len*e.size)
 have C7:c0.size=len*e.size:=size_madeCells _ _
 have jV:∀p,p∈(ps.toList.map fun(x:Nat×Operand)=>(x.1,a.eval x.2))→∃o,(fun i=>some (i*e.size,e.size)) p.1=some (o,p.2.cells.size)∧o+p.2.cells.size≤c0.size:=by
  intro p hp;obtain⟨x,hx,rfl⟩:=dM.1 hp;obtain⟨xe,t,pe,hu,bM,_⟩:=l8 x hx;have uK:=((cq h hC hg hu).sub bM).size;simp only;refine⟨x.1*e.size,by rw[uK],?_⟩;rw[uK,C7];have:(x.1+1)*e.size≤len*e.size:=oZ _ xe;rw[oX] at this;omega
 have zW:∀(i j oi si oj sj:Nat),i≠j→(fun i=>some (i*e.size,e.size)) i=some (oi,si)→(fun i=>some (i*e.size,e.size)) j=some (oj,sj)→oi+si≤oj∨oj+sj≤oi:=by
  intro i j oi si oj sj ay hi hj;simp only[aU,nL] at hi hj;obtain⟨rfl,rfl⟩:=hi;obtain⟨rfl,rfl⟩:=hj;rcases Lx i j with ah|ff
  ·left;have:(i+1)*e.size≤j*e.size:=oZ _ ah;rw[oX] at this;omega
  ·right;have:(j+1)*e.size≤i*e.size:=oZ _ (by omega);rw[oX] at this;omega
 obtain⟨dF,f1,f2,f3,f4⟩:=M5 (fun i=>some (i*e.size,e.size)) (ps.toList.map fun(x:Nat×Operand)=>(x.1,a.eval x.2)) c0 jV zW (by simpa [FW] using jS);have ak:(execOp a.eval o).run C.P w=.ok (.value (.slice (some ⟨w.heap.size,0,none⟩) len len)) (w.alloc (.cells dF E)):=by
  have n1:¬(len*inf.size>2^24):=by rw[hs];omega
  have HO:Instr.fill (fun i=>some (i*inf.size,inf.size)) c0 (ps.toList.map fun(x:Nat×Operand)=>(x.1,a.eval x.2))=some dF:=by rw[hs];exact f1
  by_cases h0:len*inf.size=0
  ·have Nz:c0=#[]:=by
        apply Lg;rw[C7,←hs];exact h0
   rw[Nz] at HO
   have ag9:Instr.fill (fun i=>some (i*inf.size,inf.size)) (Array.map (fun _=>default) (Array.range 0)) (ps.toList.map fun(x:Nat×Operand)=>(x.1,a.eval x.2))=some dF:=by
        have:(Array.map (fun _=>(default:Value)) (Array.range 0))=#[]:=by simp
        rw[this];exact HO
   simp[execOp,ho,Instr.buildSlice,run_underlying hT,Go.sizeOf,run_typeInfo w hi,n1,h0,ag9,newRow]
  ·have Nz:c0=(Array.range (len*inf.size)).map (fun x=>zv.cells[x%zv.cells.size]!):=by simp only[c0,madeCells,hs]
   rw[Nz] at HO;have h00:¬(len=0∨inf.size=0):=by rw[←Nat.mul_eq_zero];exact h0
   simp[execOp,ho,Instr.buildSlice,run_underlying hT,Go.sizeOf,run_typeInfo w hi,n1,h0,h00,zeroValue,hzv,HO,newRow]
 refine⟨E,e,es,_,_,hT,he,rfl,ak,(Below.refl _ _).alloc (bk _) _,fun k hk=>by simp at hk;simp;omega,?_⟩;have jk:(PE.evs ρ es).length=len:=by rw[PE.evs_eq,gT,Wt]
 have ajX:∀(i:Nat) (x:D),(PE.evs ρ es)[i]?=some x→∃v,Rep C.cap σ e v x∧∀q u,v.cells[q]?=some u→dF.toList[i*e.size+q]?=some u:=by
  intro i x hx;have wN:i<len:=by have:=(eC.1 hx).1;omega
  obtain⟨pe,uF,fh⟩:=Xz i wN;rw[ag7 uF] at hx;cases hx;unfold HK at fh;split at fh
  ·rename_i p hp;have Yc:=yk hp;have IS:p.1=i:=by have:=Lp hp;simpa using this
   obtain⟨_,t,pe',hu,bM,nf⟩:=l8 p Yc;rw[IS,uF] at nf;cases nf;have bW:=(cq h hC hg hu).sub bM;refine⟨_,bW,fun q u hq=>?_⟩;have IT:q<(a.eval p.2).cells.size:=(gj.1 hq).1;have:=f3 p.1 (a.eval p.2) (p.1*e.size) (dM.2 ⟨p,Yc,rfl⟩) (by simp[bW.size]) q IT;rw[IS] at this;simp[this,hq]
  ·rename_i hp;cases fh;refine⟨zv,DV,fun q u hq=>?_⟩;have IT:q<zv.cells.size:=(gj.1 hq).1
   have wW:i∉(ps.toList.map fun(x:Nat×Operand)=>(x.1,a.eval x.2)).map (·.1):=by
        intro cQ;simp only[Ls,dM,FW] at cQ;obtain⟨x,An,e⟩:=cQ;have:=vS.1 hp x An;simp[e] at this
   have:=f4 i (i*e.size) e.size wW rfl q (by omega);have h9:c0[i*e.size+q]?=zv.cells[q]?:=by
        simp only[c0];rw[←sY];exact ZA (by omega) wN IT
   simp[this,h9,hq]
 have ib:∃vs:Nat→Value,∀(i:Nat) (x:D),(PE.evs ρ es)[i]?=some x→Rep C.cap σ e (vs i) x∧∀q u,(vs i).cells[q]?=some u→dF.toList[i*e.size+q]?=some u:=by
  have jj:∀i,∃v,∀x,(PE.evs ρ es)[i]?=some x→Rep C.cap σ e v x∧∀q u,v.cells[q]?=some u→dF.toList[i*e.size+q]?=some u:=by
   intro i;cases hx:(PE.evs ρ es)[i]? with
   |none=>exact⟨undef,fun x dm=>by cases dm⟩
   |some x=>
    obtain⟨v,hv⟩:=ajX i x hx;exact⟨v,fun y hy=>by cases hy;exact hv⟩
  exact⟨fun i=>Classical.choose (jj i),fun i x hx=>Ve (jj i) x hx⟩
 obtain⟨vs,ib⟩:=ib;have dz:dF.size=len*e.size:=by rw[f2,C7]
 refine⟨dF.toList,PE.evs ρ es,by simp[Env.setO,aL],?_,⟨vs,fun i x hx=>(ib i x hx).1,fun i j u hi hj=>(ib i _ (bA hi)).2 j u hj⟩,fun k hk=>by rw[aL] at hk;simp[Value.ownBlock] at hk;simp[fq,hk]⟩;rw[aL,jk];have NV:len≤maxLen:=by
  have:len*1≤len*e.size:=Nat.mul_le_mul_left _ h1;unfold maxLen;omega
 exact⟨by simp[dz],.inr ⟨w.heap.size,len,dF,rfl,h.below.size,heap_alloc_new w _,bk _,NV,dz,by rw[BO (by simp[dz])]⟩⟩
theorem aga (h:Inv C S ρ σ own hv w0 σ0 A a w)(hC:CtxOK C σ0)(ht:¬A dst)(ah:dst<a.tmps.size){T:TypeId}{len:Nat}{ps:Array (Nat×Operand)}{r:St×List PI}(hr:wu C S [] dst T len ps.toList=some r){o:Oper}(hd:o.dst=some dst)
 (ho:o.op=.buildSlice T len ps):bZ C w0 σ0 Φ S ρ A a w o r:=by
 obtain⟨E,e,es,v,w',_,_,rfl,ak,hb,dA,cS⟩:=Wi h hC rfl hr ho;refine bZ.value hd fun ρ' qZ=>⟨_,_,ak,?_⟩
 rw[Bo qZ];exact h.mkObj ht ah (.row E e) _ _ (fun k=>Nat.beq k w.heap.size) hb dA cS
theorem Inv.kill (h:Inv C S ρ σ own hv w0 σ0 A a w)(j:Nat):Inv C (S.newO j .dead) ρ σ own hv w0 σ0 A a w:=by
 have dQ:∀i,S.ver i≤(S.newO j .dead).ver i:=by
  intro i;show S.ver i≤bY S.ver j (S.ver j+1) i;rw[eV];by_cases e:i=j
  ·subst e;simp
  ·simp[e]
 have hc:Compat S hv (S.newO j .dead) hv:=⟨dQ,fun _ _=>rfl⟩
 refine h.step (·=j) rfl (.refl σ) h.ok (fun _ _ _ hx=>.inl hx) (fun _ _ hx=>.inl hx) (.refl _ _) hc (fun i hi=>⟨by simp[St.newO,bq _ _ hi],rfl,rfl,fun k hk=>⟨hk,rfl⟩⟩) (fun i hi=>?_) h.owns (fun _=>id) (fun t=>.inl ⟨rfl,rfl,rfl⟩) (fun _ _=>rfl) (fun _ _ _=>rfl) (fun k i hk=>.inl ⟨i,hk⟩) (fun i hi=>by subst hi;simp[St.newO,aL]);subst hi;simp only[St.newO,aL];trivial
theorem agr (h:Inv C S ρ σ own hv w0 σ0 A a w)(hC:CtxOK C σ0)(ht:¬A dst)(ah:dst<a.tmps.size)(dt:∀g,g∈gs→A g.1)(hg:holds gs ρ=true){T:TypeId}{len:Nat}{ps:Array (Nat×Operand)}{r:St×List PI}(hr:zB C S gs dst T len ps.toList=some r){o:Oper}(hd:o.dst=some dst)
 (ho:o.op=.buildSlice T len ps):bZ C w0 σ0 Φ S ρ A a w o r:=by
 unfold zB at hr;split at hr
 case h_2=>cases hr
 rename_i E q hT hq;simp only[av] at hr;obtain⟨e,he,hr⟩:=hr;obtain⟨E',e',es,v,w',zP,pO,rfl,ak,hb,dA,cS⟩:=Wi h hC hg hq ho;rw[hT] at zP;cases zP;rw[he] at pO;cases pO;cases hr;refine bZ.value hd fun ρ' qZ=>⟨_,_,ak,?_⟩
 have hρ:ρ'=ρ.setR dst (.list (PE.evs ρ es)):=by simp[PI.runs,PI.run,PE.ev] at qZ;exact qZ.symm
 subst hρ;have h1:=h.newO dst (.row E e) (.list (PE.evs ρ es)) v (fun k=>Nat.beq k w.heap.size) hb dA cS;obtain⟨σ2,iW,_,h2⟩:=h1.fz dst;have Dg:(S.newO dst (.row E e)).fz dst=(S.newO dst (.row E e)).setO dst (.fz (.slice e.rol)):=by
  have:(S.newO dst (.row E e)).o dst=.row E e:=aL _ _ _;unfold St.fz;rw[this]
 rw[Dg] at h2;have bf:=h2.objs dst;have e1:((S.newO dst (.row E e)).setO dst (.fz (.slice e.rol))).o dst=.fz (.slice e.rol):=aL _ _ _;rw[e1] at bf;have bW:Rep C.cap σ2 (.slice e.rol) v (.list (PE.evs ρ es)):=by
  have:=bf.2
  rwa [aL,show(ρ.setO dst (.list (PE.evs ρ es))).o dst=.list (PE.evs ρ es) from aL _ _ _] at this
 have h3:Inv C (S.newO dst .dead) ρ σ2 iW (bY hv dst v) w0 σ0 A a w':=by
  refine h2.step (·=dst) rfl (.refl σ2) h2.ok (fun _ _ _ hx=>.inl hx) (fun _ _ hx=>.inl hx) (.refl _ _) ⟨fun i=>bk _,fun _ _=>rfl⟩ (fun i hi=>⟨?_,?_,rfl,fun k hk=>⟨hk,rfl⟩⟩) (fun i hi=>?_) h2.owns (fun _=>id) (fun t=>.inl ⟨rfl,rfl,rfl⟩) (fun _ _=>rfl) (fun _ _ _=>rfl) (fun k i hk=>.inl ⟨i,hk⟩) (fun i hi=>by subst hi;simp[St.newO,aL])
  ·simp[St.newO,St.setO,bq _ _ hi]
  ·simp[Env.setO,bq _ _ hi]
  ·subst hi;simp only[St.newO,aL];trivial
 have hh:holds gs (ρ.setR dst (.list (PE.evs ρ es)))=true:=by rw[Dz (t:=dst) fun g hm e=>ht (by rw[←e];exact dt g hm)];exact hg
 cases gs with
 |nil=>exact⟨_,_,_,h3.setReg ht (s:=.dat (.slice e.rol)) bW ah (fun _ _ e=>by cases e)⟩
 |cons g bR=>
  refine⟨_,_,_,h3.setReg ht (s:=.opt (g::bR) (.dat (.slice e.rol))) ⟨fun _=>bW,fun e=>absurd (hh.symm.trans e) (by decide)⟩ ah (fun gs s e=>?_)⟩;cases e;exact⟨dt,fun _ _ e=>by cases e⟩
end
end Cx
