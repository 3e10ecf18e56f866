/-
  Shared texts of this claim.
-/
import Derived.Test.YtefchokhgdmamaaGreatDoorHAB
import Derived.Laws.OwnMore
import Derived.Lib.ConvBytes
set_option linter.unusedSimpArgs false
set_option linter.unusedVariables false
namespace Cx
open Go Go.RowKit
def gj (b i:Nat):Nat:=4096*(i+1)+b
def St.fz (S:St)(j:Nat):St:=
 match S.o j with
 |.row _ e=>S.setO j (.fz (.slice e.rol))
 |.mp k e=>S.setO j (.fz (.map k e))
 |_=>S
def BA (S:St)(b:Nat):Option (St×List PI):=
 match S.o b with
 |.box ag shs=>
  (pV S (.o b) shs 0).bind fun x=>
    bif ag then some (S.setO b (.fbox (.agg x.1)),[.setO b (.mk x.2)])
    else match x.1,x.2 with
     |[t],[e]=>some (S.setO b (.fbox t),[.setO b e])
     |_,_=>Option.none
 |_=>Option.none
def St.mv (S:St)(j j':Nat):St:=
 {S with o:=bO (bO S.o j' (S.o j)) j .dead,ver:=bO (bO S.ver j' (S.ver j'+1)) j (S.ver j+1)}
def kG:Ob→Bool
 |.row ..=>true
 |.mp ..=>true
 |_=>false
def wM (S:St)(t j':Nat):Option (St×List PI):=
 match S.r t with
 |.obj j ver=>
  bif Nat.beq ver (S.ver j)&&kG (S.o j)&& !Nat.beq j j' then some ((S.mv j j').setR t (.obj j' (S.ver j'+1)),[.setO j' (.o j)])
  else some (S,[])
 |_=>some (S,[])
def D3 (S:St)(b i j':Nat):Option (St×List PI):=
 match S.o b with
 |.box ag shs=>
  match shs[i]? with
  |some (.obj j ver)=>
   bif Nat.beq ver (S.ver j)&&kG (S.o j)&& !Nat.beq j j'&& !Nat.beq b j'&& !Nat.beq b j then
    some ((S.mv j j').setO b (.box ag (shs.set i (.obj j' (S.ver j'+1)))),[.setO j' (.o j)])
   else some (S,[])
  |_=>some (S,[])
 |_=>some (S,[])
def Cn (C:Ctx)(S:St)(b i j:Nat)(T:TypeId):Option (St×List PI):=
 match S.o b with
 |.box ag shs=>
  match shs[i]?,oa C.P T with
  |some (.dat (.nils _)),some e=>
   bif !Nat.beq b j then some ((S.newO j (.row T e)).setO b (.box ag (shs.set i (.obj j (S.ver j+1)))),[.setO j (.con (.list []))])
   else some (S,[])
  |_,_=>some (S,[])
 |_=>some (S,[])
section
variable {C:Ctx} {S:St} {ρ:Env} {σ:Im} {own:Nat→Option Nat} {hv:Nat→Value} {w0:World} {σ0:Base} {A:Nat→Prop} {a:Act} {w:World} {gs:List (Nat×Bool)} {Φ:aR} {dst:Nat}
theorem Inv.lt (h:Inv C S ρ σ own hv w0 σ0 A a w){k o:Nat}{u:Value}(hc:σ.c k o=some u):k<w.heap.size:=World.block_lt_of_cell? w (a:=⟨k,o,none⟩) (h.ok.c _ _ _ hc)
theorem Inv.ltm (h:Inv C S ρ σ own hv w0 σ0 A a w){k:Nat}{es:List (Value×Value)}(hc:σ.m k=some es):k<w.heap.size:=by
 exact(h.ok.m _ _ hc).lt
theorem Im.ok.below {σ:Im}{w w':World}(h:σ.ok w)(hb:Below w.heap.size w w'):σ.ok w':=by
 refine⟨fun k o v hc=>?_,fun k es hc=>?_⟩
 ·have h1:=h.c k o v hc;rw[hb.cell (World.block_lt_of_cell? w (a:=⟨k,o,none⟩) h1)];exact h1
 ·exact(h.m k es hc).keep (hb.block k (h.m k es hc).lt)
def fD (own:Nat→Option Nat)(j:Nat)(nb:Nat→Bool):Nat→Option Nat:=fun k=>if nb k then some j else if own k=some j then none else own k
theorem Inv.newOσ (h:Inv C S ρ σ own hv w0 σ0 A a w)(j:Nat)(ob:Ob)(d:D)(v:Value)(nb:Nat→Bool){σ':Im}{w':World}(hle:σ.le σ')(ax:σ'.ok w')(cX:∀k o x,σ'.c k o=some x→σ.c k o=some x∨w.heap.size≤k)(cY:∀k x,σ'.m k=some x→σ.m k=some x∨w.heap.size≤k)
 (hw:Below w.heap.size w w') (dB:∀k,nb k=true→w.heap.size≤k∧k<w'.heap.size) (cW:∀k,nb k=true→(∀o,σ'.c k o=none)∧σ'.m k=none)
 (cI:cn C (S.newO j ob) (ρ.setO j d) σ' (fD own j nb) (bO hv j v) w' w0.heap.size j ob) (mM:ob≠.tr:=by intro h;cases h):Inv C (S.newO j ob) (ρ.setO j d) σ' (fD own j nb) (bO hv j v) w0 σ0 A a w':=by
 have aA:w0.heap.size≤w.heap.size:=h.below.size;have aW:∀k i,i≠j→own k=some i→fD own j nb k=some i:=by
  intro k i hi hk;have h1:=h.owns k i hk;have h2:nb k=false:=by
   cases hn:nb k with
   |false=>rfl
   |true=>have:=dB k hn;omega
  simp[fD,h2,hk,hi]
 refine h.step (fun i=>i=j) rfl hle ax (fun k o x hx=>(cX k o x hx).imp id fun e=>⟨by omega,.inr e⟩) (fun k x hx=>(cY k x hx).imp id fun e=>⟨by omega,.inr e⟩) (hw.mono aA) ⟨fun i=>?_,fun i e=>?_⟩ (fun i hi=>⟨?_,?_,?_,fun k hk=>⟨aW k i hi hk,?_⟩⟩) (fun i hi=>?_) (fun k i hk=>?_) (fun _=>id) (fun t=>.inl ⟨rfl,rfl,rfl⟩) (fun _ _=>rfl) (fun k hk _=>hw.block k hk) (fun k i hk=>by
  unfold fD at hk;split at hk
  ·rename_i hn;exact .inr (dB k hn).1
  ·split at hk
   ·cases hk
   ·exact .inl ⟨i,hk⟩) (fun i hi=>by subst hi;simpa only[St.newO,aG] using mM)
 ·simp only[St.newO,fj];split<;>rename_i e
  ·subst e;omega
  ·omega
 ·simp only[St.newO,fj] at e;split at e
  ·rename_i e';subst e';omega
  ·rename_i az;exact bf _ _ az
 ·simp[St.newO,bf _ _ hi]
 ·simp[Env.setO,bf _ _ hi]
 ·exact bf _ _ hi
 ·exact hw.block k (h.owns k i hk).2.1
 ·subst hi;simp only[St.newO,aG];exact cI
 ·unfold fD at hk;split at hk
  ·rename_i hn;obtain⟨g1,g2⟩:=dB k hn;exact⟨by omega,g2,(cW k hn).1,(cW k hn).2⟩
  ·split at hk
   ·cases hk
   ·obtain⟨g1,g2,g3,g4⟩:=h.owns k i hk;refine⟨g1,by have:=hw.size;omega,fun o=>?_,?_⟩
    ·cases hc:σ'.c k o with
     |none=>rfl
     |some u=>
      rcases cX k o u hc with e|e
      ·rw[g3 o] at e;cases e
      ·omega
    ·cases hc:σ'.m k with
     |none=>rfl
     |some u=>
      rcases cY k u hc with e|e
      ·rw[g4] at e;cases e
      ·omega
theorem Inv.newO (h:Inv C S ρ σ own hv w0 σ0 A a w)(j:Nat)(ob:Ob)(d:D)(v:Value)(nb:Nat→Bool){w':World}(hw:Below w.heap.size w w')(dB:∀k,nb k=true→w.heap.size≤k∧k<w'.heap.size)
 (cI:cn C (S.newO j ob) (ρ.setO j d) σ (fD own j nb) (bO hv j v) w' w0.heap.size j ob) (mM:ob≠.tr:=by intro h;cases h):Inv C (S.newO j ob) (ρ.setO j d) σ (fD own j nb) (bO hv j v) w0 σ0 A a w':=by
 refine h.newOσ j ob d v nb (.refl σ) (h.ok.below hw) (fun _ _ _ hx=>.inl hx) (fun _ _ hx=>.inl hx) hw dB (fun k hn=>⟨fun o=>?_,?_⟩) cI mM
 ·cases hc:σ.c k o with
  |none=>rfl
  |some u=>have:=h.lt hc;have:=(dB k hn).1;omega
 ·cases hc:σ.m k with
  |none=>rfl
  |some u=>have:=h.ltm hc;have:=(dB k hn).1;omega
theorem Inv.setObj (h:Inv C S ρ σ own hv w0 σ0 A a w){t j:Nat}(ht:¬A t){v:Value}(eQ:hv j=v)(ae:t<a.tmps.size):
 Inv C (S.setR t (.obj j (S.ver j))) (ρ.setR t .none) σ own hv w0 σ0 (fun u=>A u∨u=t) (a.put (some t) v) w:=
 h.setReg ht (s:=.obj j (S.ver j)) (v:=v) (d:=.none) ⟨aU _,fun _=>eQ.symm⟩ ae (fun _ _ e=>by cases e)
theorem Gi (S:St)(j:Nat):(S.fz j).ver=S.ver∧(S.fz j).r=S.r:=by
 unfold St.fz;split<;>exact⟨rfl,rfl⟩
theorem Inv.fz (h:Inv C S ρ σ own hv w0 σ0 A a w)(j:Nat):∃σ' own',σ.le σ'∧Inv C (S.fz j) ρ σ' own' hv w0 σ0 A a w:=by
 have aV:=h.objs j;unfold St.fz;split
 ·rename_i T e eo;rw[eo] at aV;obtain⟨cells,xs,h1,h2,⟨vs,h3,h4⟩,h5⟩:=aV;have aA:w0.heap.size≤w.heap.size:=h.below.size
  let nb:Nat→Bool:=fun k=>decide ((hv j).ownBlock=some k)
  let σ':Im:={c:=fun k o=>if nb k then cells[o]? else σ.c k o,m:=σ.m}
  have dB:∀k,nb k=true→own k=some j:=fun k hk=>h5 k (by simpa [nb] using hk);have hle:σ.le σ':=by
   refine⟨fun k o v hc=>?_,fun k es hc=>hc⟩;have:nb k=false:=by
        cases hn:nb k with
        |false=>rfl
        |true=>have:=(h.owns k j (dB k hn)).2.2.1 o;rw[this] at hc;cases hc
   simp[σ',this,hc]
  refine⟨σ',fun k=>if nb k then none else own k,hle,h.step (fun i=>i=j) rfl hle ?_ (fun k o x hx=>?_) (fun _ _ hx=>.inl hx) (.refl _ _) ⟨fun _=>aU _,fun _ _=>rfl⟩ (fun i hi=>⟨?_,rfl,rfl,fun k hk=>⟨?_,rfl⟩⟩) (fun i hi=>?_) (fun k i hk=>?_) (fun _=>id) (fun t=>.inl ⟨rfl,rfl,rfl⟩) (fun _ _=>rfl) (fun _ _ _=>rfl) (fun k i hk=>by
        split at hk
        ·cases hk
        ·exact .inl ⟨i,hk⟩) (fun i hi=>by subst hi;simp[St.setO,aG])⟩
  ·refine⟨fun k o v hc=>?_,h.ok.m⟩;simp only[σ'] at hc;split at hc
   ·rename_i hn;have cI:(hv j).ownBlock=some k:=by simpa [nb] using hn
    have:=h2.cells cI o v hc;rw[qX] at this;simpa using this
   ·exact h.ok.c k o v hc
  ·simp only[σ'] at hx;split at hx
   ·rename_i hn;exact .inr ⟨(h.owns k j (dB k hn)).1,.inl ⟨j,dB k hn⟩⟩
   ·exact .inl hx
  ·simp[St.setO,bf _ _ hi]
  ·have:nb k=false:=by
        cases hn:nb k with
        |false=>rfl
        |true=>rw[dB k hn] at hk;simp at hk;exact absurd hk.symm hi
   simp[this,hk]
  ·subst hi;simp only[St.setO,aG];refine⟨rfl,?_⟩;rw[h1];rcases h2.2 with⟨e1,e2⟩|⟨g,cap,cur,e1,e2,e3,e4,e5,e6,e7⟩
   ·rw[e1];have:xs=[]:=JB e2;subst this;exact .nil _
   ·rw[e1];refine .slice e.rol g 0 xs.length cap xs vs rfl e4 e5 (fun i x hx=>((h3 i x hx).mono hle).unf_rol) (fun i m u hi hu=>?_);rw[Ty.rol_size];have hn:nb g=true:=by simp[nb,e1,Value.ownBlock]
    simp only[σ',hn,if_true,eW];exact h4 i m u hi hu
  ·split at hk
   ·cases hk
   ·rename_i hn;obtain⟨g1,g2,g3,g4⟩:=h.owns k i hk;exact⟨g1,g2,fun o=>by simp[σ',hn,g3 o],g4⟩
 ·rename_i kt et eo;rw[eo] at aV;obtain⟨k0,arr,clock,fH,h1,h2,h3,h4,h5,⟨hx,_⟩,h6⟩:=aV;have aA:w0.heap.size≤w.heap.size:=h.below.size
  let σ':Im:={c:=σ.c,m:=fun k=>if k=k0 then some (entriesOf arr) else σ.m k}
  have hle:σ.le σ':=by
   refine⟨fun k o v hc=>hc,fun k es hc=>?_⟩;have:k≠k0:=fun e=>by subst e;rw[(h.owns k j h2).2.2.2] at hc;cases hc
   simp[σ',this,hc]
  refine⟨σ',fun k=>if k=k0 then none else own k,hle,h.step (fun i=>i=j) rfl hle ?_ (fun k o x hx=>.inl hx) (fun k x hx=>?_) (.refl _ _) ⟨fun _=>aU _,fun _ _=>rfl⟩ (fun i hi=>⟨?_,rfl,rfl,fun k hk=>⟨?_,rfl⟩⟩) (fun i hi=>?_) (fun k i hk=>?_) (fun _=>id) (fun t=>.inl ⟨rfl,rfl,rfl⟩) (fun _ _=>rfl) (fun _ _ _=>rfl) (fun k i hk=>by
        split at hk
        ·cases hk
        ·exact .inl ⟨i,hk⟩) (fun i hi=>by subst hi;simp[St.setO,aG])⟩
  ·refine⟨h.ok.c,fun k es hc=>?_⟩;simp only[σ'] at hc;split at hc
   ·rename_i e;subst e;cases hc;refine .inl ⟨fun e=>?_,arr,clock,h3,rfl⟩;refine C1 (cap:=C.cap) (σ:=σ) (kt:=kt) (es:=fH) (by simp[entriesOf,h5]) (fun i p q hp hq=>?_) e;simp only[entriesOf,cA,av] at hp;obtain⟨x,du,rfl⟩:=hp;exact(h6 i x q (by simpa using du) hq).1
   ·exact h.ok.m k es hc
  ·simp only[σ'] at hx;split at hx
   ·rename_i e;subst e;exact .inr ⟨(h.owns k j h2).1,.inl ⟨j,h2⟩⟩
   ·exact .inl hx
  ·simp[St.setO,bf _ _ hi]
  ·have:k≠k0:=fun e=>by subst e;rw[h2] at hk;simp at hk;exact hi hk.symm
   simp[this,hk]
  ·subst hi;simp only[St.setO,aG];refine⟨rfl,?_⟩;rw[h1,h4];refine .map kt et k0 (entriesOf arr) fH (by simp[σ']) (by simp[entriesOf,h5]) hx (fun i p q hp hq=>?_) (fun i p q hp hq=>?_)
   ·simp only[entriesOf,cA,av] at hp;obtain⟨e,he,rfl⟩:=hp;exact((h6 i e q (by simpa using he) hq).1).mono hle
   ·simp only[entriesOf,cA,av] at hp;obtain⟨e,he,rfl⟩:=hp;exact((h6 i e q (by simpa using he) hq).2).mono hle
  ·split at hk
   ·cases hk
   ·rename_i hn;obtain⟨g1,g2,g3,g4⟩:=h.owns k i hk;exact⟨g1,g2,g3,by simp[σ',hn,g4]⟩
 ·exact⟨σ,own,.refl σ,h⟩
end
end Cx
namespace Cx
open Go Go.RowKit
section
variable {C:Ctx} {S:St} {ρ:Env} {σ:Im} {own:Nat→Option Nat} {hv:Nat→Value} {w0:World} {σ0:Base} {A:Nat→Prop} {a:Act} {w:World} {gs:List (Nat×Bool)} {Φ:aR} {dst:Nat}
theorem qC {j:Nat}{e:PE}{ρ':Env}(h:PI.runs Φ [.setO j e] ρ=some ρ'):ρ'=ρ.setO j (e.ev ρ):=by
 simp[PI.runs,PI.run] at h;exact h.symm
theorem m0 {ρ':Env}(h:PI.runs Φ [] ρ=some ρ'):ρ'=ρ:=by
 simp[PI.runs] at h;exact h.symm
def As (C:Ctx)(w0:World)(σ0:Base)(Φ:aR)(S:St)(ρ:Env)(A:Nat→Prop)(a:Act)(w:World)(r:St×List PI):Prop:=
 ∀ρ',PI.runs Φ r.2 ρ=some ρ'→Good C w0 σ0 r.1 ρ' A a w
theorem aes (h:Inv C S ρ σ own hv w0 σ0 A a w){b:Nat}{r:St×List PI}(hr:BA S b=some r):As C w0 σ0 Φ S ρ A a w r:=by
 unfold BA at hr;split at hr
 case h_2=>cases hr
 rename_i ag shs eo;simp only[ao] at hr;obtain⟨x,hx,hr⟩:=hr;have aV:=h.objs b;rw[eo] at aV;obtain⟨k,cs,T,ds,h1,h2,h3,h4,h5,h6,h7⟩:=aV;obtain⟨l1,es,⟨he,oH⟩,l2,bE⟩:=KG (b:=.o b) h (cs:=cs.toList) h5 shs 0 x (fun m s hm=>by rw[yw,eW];exact(h7 m s hm).2) hx
 let σ':Im:={c:=fun k' o=>if k'=k then cs[o]? else σ.c k' o,m:=σ.m}
 have hle:σ.le σ':=by
  refine⟨fun k' o v hc=>?_,fun k es hc=>hc⟩;have:k'≠k:=fun e=>by subst e;rw[(h.owns k' b h2).2.2.1 o] at hc;cases hc
  simp[σ',this,hc]
 have key:∀(t:Ty) (v:Value) (d:D),Rep C.cap σ' t v d→(∀(i:Nat) (u:Value),v.cells[i]?=some u→cs[i]?=some u)→
  Inv C (S.setO b (.fbox t)) (ρ.setO b d) σ' (fun k'=>if k'=k then none else own k') hv w0 σ0 A a w:=by
  intro t v d hrv aP
  refine h.step (fun i=>i=b) rfl hle ?_ (fun k' o x hx=>?_) (fun _ _ hx=>.inl hx) (.refl _ _) ⟨fun _=>aU _,fun _ _=>rfl⟩ (fun i hi=>⟨?_,?_,rfl,fun k' hk=>⟨?_,rfl⟩⟩) (fun i hi=>?_) (fun k' i hk=>?_) (fun _=>id) (fun t=>.inl ⟨rfl,rfl,rfl⟩) (fun _ _=>rfl) (fun _ _ _=>rfl) (fun k' i hk=>by
        split at hk
        ·cases hk
        ·exact .inl ⟨i,hk⟩) (fun i hi=>by subst hi;simp[St.setO,aG])
  ·refine⟨fun k' o v hc=>?_,h.ok.m⟩;simp only[σ'] at hc;split at hc
   ·rename_i e;subst e;simp[World.cell?,h3,hc]
   ·exact h.ok.c k' o v hc
  ·simp only[σ'] at hx;split at hx
   ·rename_i e;subst e;exact .inr ⟨(h.owns k' b h2).1,.inl ⟨b,h2⟩⟩
   ·exact .inl hx
  ·simp[St.setO,bf _ _ hi]
  ·simp[Env.setO,bf _ _ hi]
  ·have:k'≠k:=fun e=>by subst e;rw[h2] at hk;simp at hk;exact hi hk.symm
   simp[this,hk]
  ·subst hi;simp only[St.setO,aG];exact⟨k,v,h1,by simp only[Env.setO,aG];exact hrv,fun i u hu=>by simp[σ',aP i u hu]⟩
  ·split at hk
   ·cases hk
   ·rename_i hn;obtain⟨g1,g2,g3,g4⟩:=h.owns k' i hk;exact⟨g1,g2,fun o=>by simp[σ',hn,g3 o],g4⟩
 have ir:∀(m:Nat) (t:Ty),x.1[m]?=some t→t.one=true∧Rep C.cap σ' t (cs.toList.getD m undef) (es.getD m .none):=fun m t hm=>by
  obtain⟨g1,g2⟩:=bE m t hm;rw[eW] at g2;exact⟨g1,g2.mono hle⟩
 intro ρ' af;cases ag with
 |true=>
  simp only[cond_true] at hr;cases hr;have:=qC af;subst this;refine⟨_,_,_,key (.agg x.1) (.agg cs.toList.toArray) _ ?_ (fun i u hu=>by simpa [Value.cells] using hu)⟩;simp only[PE.ev,he];exact .agg _ _ _ (by simp;omega) (by omega) (fun m t hm=>(ir m t hm).2) (fun m t hm=>(ir m t hm).1)
 |false=>
  simp only[cond_false] at hr;split at hr
  ·rename_i t e et ee;cases hr;have:=qC af;subst this;obtain⟨g1,g2⟩:=ir 0 t (by rw[et];rfl);have iW:es=[e.ev ρ]:=by rw[←oH,ee];rfl
   subst iW;refine⟨_,_,_,key t (cs.toList.getD 0 undef) _ (by simpa using g2) (fun i u hu=>?_)⟩;rw[(g2.oneCell g1).1] at hu;have hi:i=0:=by
        have:=(dy.1 hu).1;simpa using this
   subst hi;simp at hu;subst hu;have:0<cs.size:=by rw[h4];rw[et] at l1;simp at l1;omega
   rw[dX this];simp[aF,dX this]
  ·cases hr
theorem Inv.mv (h:Inv C S ρ σ own hv w0 σ0 A a w){j j':Nat}(az:j≠j')(hk:kG (S.o j)=true):
 Inv C (S.mv j j') (ρ.setO j' (ρ.o j)) σ (fun k=>if own k=some j then some j' else if own k=some j' then none else own k) (bO hv j' (hv j)) w0 σ0 A a w:=by
 have aV:=h.objs j
 refine h.step (fun i=>i=j∨i=j') rfl (.refl σ) h.ok (fun _ _ _ hx=>.inl hx) (fun _ _ hx=>.inl hx) (.refl _ _) ⟨fun i=>?_,fun i e=>?_⟩ (fun i hi=>?_) (fun i hi=>?_) (fun k i hk=>?_) (fun _=>id) (fun t=>.inl ⟨rfl,rfl,rfl⟩) (fun _ _=>rfl) (fun _ _ _=>rfl) (fun k i hk=>by
        split at hk
        ·rename_i e;exact .inl ⟨j,e⟩
        ·split at hk
         ·cases hk
         ·exact .inl ⟨i,hk⟩) (fun i hi=>by
        rcases hi with rfl|rfl
        ·simp[St.mv,aG]
        ·simp only[St.mv,bf _ _ (qU az),aG];intro e;rw[e] at hk;cases hk)
 ·simp only[St.mv,fj];split
  ·rename_i e;subst e;omega
  ·split
   ·rename_i e;subst e;omega
   ·omega
 ·simp only[St.mv,fj] at e;split at e
  ·rename_i e';subst e';omega
  ·split at e
   ·rename_i e';subst e';omega
   ·rename_i Ml;exact bf _ _ Ml
 ·simp only[not_or] at hi;refine⟨by simp[St.mv,bf _ _ hi.1,bf _ _ hi.2],by simp[Env.setO,bf _ _ hi.2],bf _ _ hi.2,fun k hk=>⟨?_,rfl⟩⟩;have e1:i≠j:=hi.1;have e2:i≠j':=hi.2;simp[hk,e1,e2]
 ·rcases hi with rfl|rfl
  ·simp only[St.mv,aG];trivial
  ·simp only[St.mv,bf _ _ (qU az),aG];cases cI:S.o j with
   |row T e=>
    rw[cI] at aV;obtain⟨cells,xs,h1,h2,h3,h4⟩:=aV;refine⟨cells,xs,by simp only[Env.setO,aG];exact h1,by rw[aG];exact h2,h3,fun k hk=>?_⟩;rw[aG] at hk;simp[h4 k hk]
   |mp kt et=>
    rw[cI] at aV;obtain⟨k0,arr,clock,es,h1,h2,h3,h4,h5,h6⟩:=aV;exact⟨k0,arr,clock,es,by rw[aG];exact h1,by simp[h2],h3,by simp only[Env.setO,aG];exact h4,h5,h6⟩
   |_=>rw[cI] at hk;simp[kG] at hk
 ·split at hk
  ·rename_i e;exact h.owns k j e
  ·split at hk
   ·cases hk
   ·exact h.owns k i hk
theorem aln (h:Inv C S ρ σ own hv w0 σ0 A a w){t j':Nat}{r:St×List PI}(hr:wM S t j'=some r):As C w0 σ0 Φ S ρ A a w r:=by
 intro ρ' af;unfold wM at hr;split at hr
 ·rename_i j ver es;cases hb:(Nat.beq ver (S.ver j)&&kG (S.o j)&& !Nat.beq j j')<;>simp only[hb,cond_true,cond_false] at hr
  ·cases hr;rw[m0 af];exact⟨_,_,_,h⟩
  ·cases hr;simp only[aj,hH] at hb;have dC:=au hb.1.1;have az:j≠j':=fun e=>by subst e;simp at hb
   have lg:=h.mv az hb.1.2;have fU:=h.regs t;rw[es] at fU;have cj:=fU.2 dC;rw[qC af];refine⟨_,_,_,lg.step (S':=(S.mv j j').setR t (.obj j' (S.ver j'+1))) (fun _=>False) rfl (.refl σ) lg.ok (fun _ _ _ hx=>.inl hx) (fun _ _ hx=>.inl hx) (.refl _ _) ⟨fun _=>aU _,fun _ _=>rfl⟩ (fun i _=>⟨rfl,rfl,rfl,fun k hk=>⟨hk,rfl⟩⟩) (fun _ hf=>hf.elim) lg.owns (fun _=>id) (fun u=>?_) (fun _ _=>rfl) (fun _ _ _=>rfl) (fun k i hk=>.inl ⟨i,hk⟩) (fun _ hf=>hf.elim)⟩;by_cases hu:u=t
   ·subst hu;refine .inr ⟨?_,fun gs s e=>by simp[St.setR,aG] at e⟩;simp only[St.setR,aG];refine⟨?_,fun _=>?_⟩
    ·simp[St.mv,bf _ _ (qU az),aG]
    ·rw[aG];exact cj
   ·exact .inl ⟨by simp[St.setR,bf _ _ hu],rfl,rfl⟩
 ·cases hr;rw[m0 af];exact⟨_,_,_,h⟩
theorem alm (h:Inv C S ρ σ own hv w0 σ0 A a w){b i j':Nat}{r:St×List PI}(hr:D3 S b i j'=some r):As C w0 σ0 Φ S ρ A a w r:=by
 intro ρ' af;unfold D3 at hr;split at hr
 ·rename_i ag shs eo;split at hr
  ·rename_i j ver es;cases hb:(Nat.beq ver (S.ver j)&&kG (S.o j)&& !Nat.beq j j'&& !Nat.beq b j'&& !Nat.beq b j)<;>simp only[hb,cond_true,cond_false] at hr
   ·cases hr;rw[m0 af];exact⟨_,_,_,h⟩
   ·cases hr;simp only[aj,hH] at hb;have dC:=au hb.1.1.1.1;have az:j≠j':=fun e=>by subst e;simp at hb
    have bW:b≠j':=fun e=>by subst e;simp at hb
    have bk:b≠j:=fun e=>by subst e;simp at hb
    have aV:=h.objs b;rw[eo] at aV;obtain⟨k,cs,T,ds,h1,h2,h3,h4,h5,h6,h7⟩:=aV;have cj:=(h7 i _ es).2.2 dC;have lg:=h.mv az hb.1.1.1.2;rw[qC af];have K3:(S.mv j j').o b=.box ag shs:=by simp[St.mv,bf _ _ bW,bf _ _ bk,eo]
    have Cl:=lg.objs b;rw[K3] at Cl;refine⟨_,_,_,lg.step (S':=(S.mv j j').setO b (.box ag (shs.set i (.obj j' (S.ver j'+1))))) (fun m=>m=b) rfl (.refl σ) lg.ok (fun _ _ _ hx=>.inl hx) (fun _ _ hx=>.inl hx) (.refl _ _) ⟨fun _=>aU _,fun _ _=>rfl⟩ (fun m hm=>⟨by simp[St.setO,bf _ _ hm],rfl,rfl,fun k hk=>⟨hk,rfl⟩⟩) (fun m hm=>?_) lg.owns (fun _=>id) (fun t=>.inl ⟨rfl,rfl,rfl⟩) (fun _ _=>rfl) (fun _ _ _=>rfl) (fun k i hk=>.inl ⟨i,hk⟩) (fun m hm=>by subst hm;simp[St.setO,aG])⟩;subst hm;rw[St.setO_o];obtain⟨k1,A1,T1,A5,g1,g2,g3,g4,g5,g6,g7⟩:=Cl;have e1:A1=cs:=by
     rw[bf _ _ bW,h1] at g1;cases g1;rw[h3] at g3;cases g3;rfl
    refine⟨k1,A1,T1,A5,g1,g2,g3,by simpa using g4,g5,by simpa using g6,fun q x hq=>?_⟩;rw[sC] at hq;split at hq
    ·rename_i e;subst e;split at hq
     ·cases hq;refine⟨(fun _ _ e=>by cases e),?_,fun _=>?_⟩
      ·simp[St.setO,St.mv,bf _ _ (qU az),aG]
      ·rw[aG,e1];exact cj
     ·cases hq
    ·obtain⟨f1,f2⟩:=g7 q x hq;exact⟨f1,f2.mono' (.refl σ) (Compat.setO _ _ _ _) f1⟩
  ·cases hr;rw[m0 af];exact⟨_,_,_,h⟩
 ·cases hr;rw[m0 af];exact⟨_,_,_,h⟩
theorem agM (h:Inv C S ρ σ own hv w0 σ0 A a w){b i j:Nat}{T:TypeId}{r:St×List PI}(hr:Cn C S b i j T=some r):As C w0 σ0 Φ S ρ A a w r:=by
 intro ρ' af;unfold Cn at hr;split at hr
 ·rename_i ag shs eo;split at hr
  ·rename_i e0 e es et;cases hb:(!Nat.beq b j)<;>simp only[hb,cond_true,cond_false] at hr
   ·cases hr;rw[m0 af];exact⟨_,_,_,h⟩
   ·cases hr;have az:b≠j:=fun e=>by subst e;simp at hb
    have aV:=h.objs b;rw[eo] at aV;obtain⟨k,cs,T0,ds,h1,h2,h3,h4,h5,h6,h7⟩:=aV;have cj:cs.getD i undef=.slice none 0 0:=by
     have:=(h7 i _ es).2;generalize cs.getD i undef=v at this;generalize ds.getD i .none=d at this;cases this;rfl
    have lj:=h.newO j (.row T e) (.list []) (.slice none 0 0) (fun _=>false) (.refl _ _) (by simp) ⟨[],[],by simp[Env.setO,aG],by rw[aG];exact World.ownsRow_nil _ _ _ _,⟨fun _=>undef,by simp,by simp⟩,by rw[aG];simp[Value.ownBlock]⟩;rw[qC af];have K3:(S.newO j (.row T e)).o b=.box ag shs:=by simp[St.newO,bf _ _ az,eo]
    have Cl:=lj.objs b;rw[K3] at Cl;refine⟨_,_,_,lj.step (S':=(S.newO j (.row T e)).setO b (.box ag (shs.set i (.obj j (S.ver j+1))))) (fun m=>m=b) rfl (.refl σ) lj.ok (fun _ _ _ hx=>.inl hx) (fun _ _ hx=>.inl hx) (.refl _ _) ⟨fun _=>aU _,fun _ _=>rfl⟩ (fun m hm=>⟨by simp[St.setO,bf _ _ hm],rfl,rfl,fun k hk=>⟨hk,rfl⟩⟩) (fun m hm=>?_) lj.owns (fun _=>id) (fun t=>.inl ⟨rfl,rfl,rfl⟩) (fun _ _=>rfl) (fun _ _ _=>rfl) (fun k i hk=>.inl ⟨i,hk⟩) (fun m hm=>by subst hm;simp[St.setO,aG])⟩;subst hm;rw[St.setO_o];obtain⟨k1,A1,T1,A5,g1,g2,g3,g4,g5,g6,g7⟩:=Cl;have e1:A1=cs:=by
     rw[bf _ _ az,h1] at g1;cases g1;rw[h3] at g3;cases g3;rfl
    refine⟨k1,A1,T1,A5,g1,g2,g3,by simpa using g4,g5,by simpa using g6,fun q x hq=>?_⟩;rw[sC] at hq;split at hq
    ·rename_i e';subst e';split at hq
     ·cases hq;refine⟨(fun _ _ e=>by cases e),?_,fun _=>?_⟩
      ·simp[St.setO,St.newO,aG]
      ·rw[aG,e1];exact cj
     ·cases hq
    ·obtain⟨f1,f2⟩:=g7 q x hq;exact⟨f1,f2.mono' (.refl σ) (Compat.setO _ _ _ _) f1⟩
  ·cases hr;rw[m0 af];exact⟨_,_,_,h⟩
 ·cases hr;rw[m0 af];exact⟨_,_,_,h⟩
end
end Cx
namespace Cx
open Go Go.RowKit
def mkObj (S:St)(dst:Nat)(ob:Ob):St:=(S.newO dst ob).setR dst (.obj dst (S.ver dst+1))
def mkPtr (S:St)(dst:Nat)(ob:Ob):St:=(S.newO dst ob).setR dst (.ptr dst (S.ver dst+1) 0)
abbrev ke:=Option (St×List PI)
def Bg (C:Ctx)(S:St)(dst:Nat)(T:TypeId)(x:Operand):ke:=
 match use C S [] x,C.P.underlying T with
 |some (.nils _,_),some (.slice E)=>(oa C.P E).map fun e=>(mkObj S dst (.row E e),[.setO dst (.con (.list [])),.setR dst (.con .none)])
 |_,_=>Option.none
def A6 (C:Ctx)(S:St)(dst:Nat)(T:TypeId):ke:=
 match oa C.P T,C.P.info? T,oU C.P T with
 |some t,some inf,some ag=>
  bif sr inf t&&(t.rowT||t.one) then
   (oc t).map fun z=>(mkPtr S dst (.box ag (z.1.flat.map .dat)),[.setO dst (.con (.agg z.2.cells)),.setR dst (.con .none)])
  else Option.none
 |_,_,_=>Option.none
def A8 (C:Ctx)(S:St)(dst:Nat)(T:TypeId)(x:Operand):ke:=
 match use C S [] x,oU C.P T with
 |some (t,e),some ag=>
  bif t.rowT||t.one then some (mkPtr S dst (.box ag (t.flat.map .dat)),[.setO dst (.mk [e]),.setR dst (.con .none)]) else Option.none
 |Option.none,some true=>
  match eU S [] x with
  |.agg l=>some (mkPtr S dst (.box true (l.map AgC.sh)),[.setO dst (pA x),.setR dst (.con .none)])
  |_=>Option.none
 |_,_=>Option.none
def Bd (C:Ctx)(S:St)(dst:Nat)(T:TypeId)(r:Option Operand):ke:=
 match C.P.underlying T,r with
 |some (.map K E),Option.none=>
  (oa C.P K).bind fun kt=>(oa C.P E).map fun et=>(mkObj S dst (.mp kt et),[.setO dst (.con (.map [])),.setR dst (.con .none)])
 |_,_=>Option.none
def Be (C:Ctx)(S:St)(dst:Nat)(T:TypeId)(l c:Operand):ke:=
 match C.P.underlying T,use C S [] l,use C S [] c with
 |some (.slice E),some (.int _,n),some (.int _,m)=>
  (oa C.P E).bind fun e=>
    bif p5 C.P E e then
     (oc e).bind fun z=>
        bif Ty.sub z.1 e then some (mkObj S dst (.row E e),[.chk (Nm n),.chk (.ci .eql n m),.setO dst (.rep n (.con z.2)),.setR dst (.con .none)]) else Option.none
    else Option.none
 |_,_,_=>Option.none
def Bh (C:Ctx)(S:St)(dst:Nat)(T:TypeId)(x:Operand):ke:=
 match C.P.underlying T,eU S [] x with
 |some (.map _ _),.obj j ver=>
  bif Nat.beq ver (S.ver j)&& !Nat.beq j dst then
   match S.o j with
   |.mp kt et=>some (mkObj (S.mv j dst) dst (.it kt et),[.setO dst (.tup [.lst [],.o j]),.setR dst (.con .none)])
   |_=>Option.none
  else Option.none
 |_,_=>Option.none
def A9 (C:Ctx)(S:St)(dst:Nat)(s d:TypeId)(x:Operand):ke:=
 match use C S [] x,C.P.underlying s,C.P.underlying d with
 |some (.str,e),some .string,some (.slice E)=>
  (match C.P.underlying E with
   |some (.int .u8)=>some (S.setR dst (.dat (.slice (.int .u8))),[.chk (.ci .leq (.slen e) (.con (.int mU))),.setR dst (.bytes e)])
   |_=>Option.none)
 |_,_,_=>Option.none
section
variable {C:Ctx} {S:St} {ρ:Env} {σ:Im} {own:Nat→Option Nat} {hv:Nat→Value} {w0:World} {σ0:Base} {A:Nat→Prop} {a:Act} {w:World} {gs:List (Nat×Bool)} {Φ:aR} {dst:Nat}
def bP (C:Ctx)(w0:World)(σ0:Base)(Φ:aR)(S:St)(ρ:Env)(A:Nat→Prop)(a:Act)(w:World)(o:Oper)(r:St×List PI):Prop:=
 ∀ρ',PI.runs Φ r.2 ρ=some ρ'→∀(K:Act→World→Prop) (Q:Exit→Act→World→Prop),(∀a' w',Good C w0 σ0 r.1 ρ' (fun u=>A u∨o.dst=some u) a' w'→a'.tmps.size=a.tmps.size→K a' w')→o.wp C.P a w K Q
theorem size_put (a:Act)(d:Option Tmp)(v:Value):(a.put d v).tmps.size=a.tmps.size:=by
 cases d<;>simp[Act.put]
theorem bP.value {o:Oper}{r:St×List PI}(hd:o.dst=some dst)(hx:∀ρ',PI.runs Φ r.2 ρ=some ρ'→∃v w',(execOp a.eval o).run C.P w=.ok (.value v) w'∧Good C w0 σ0 r.1 ρ' (fun u=>A u∨u=dst) (a.put (some dst) v) w'):bP C w0 σ0 Φ S ρ A a w o r:=by
 intro ρ' af K Q hK;obtain⟨v,w',h1,h2⟩:=hx ρ' af;simp only[Oper.wp,h1,Oper.upon,hd];refine hK _ _ ?_ (size_put _ _ _)
 have:(fun u=>A u∨o.dst=some u)=(fun u=>A u∨u=dst):=by
  funext u;rw[hd];simp[eq_comm]
 rw[this];exact h2
theorem bP.skip {o:Oper}{r:St×List PI}(hd:o.dst=none)(hx:∀ρ',PI.runs Φ r.2 ρ=some ρ'→∃w',(execOp a.eval o).run C.P w=.ok .skip w'∧Good C w0 σ0 r.1 ρ' A a w'):bP C w0 σ0 Φ S ρ A a w o r:=by
 intro ρ' af K Q hK;obtain⟨w',h1,h2⟩:=hx ρ' af;simp only[Oper.wp,h1,Oper.upon,hd]
 have:(fun u=>A u∨o.dst=some u)=A:=by
  funext u;rw[hd];simp
 rw[this] at hK;exact hK _ _ h2 (size_put _ _ _)
theorem eF.eff (h:Inv C S ρ σ own hv w0 σ0 A a w)(ht:¬A dst)(ae:dst<a.tmps.size){o:Oper}(hd:o.dst=some dst){s:Sh}{C9:List PI}(hq:eF C S ρ σ hv Φ dst a w o (s,C9)):bP C w0 σ0 Φ S ρ A a w o (S.setR dst s,C9):=by
 refine bP.value hd fun ρ' af=>?_;obtain⟨v,d,rfl,h1,h2,h3⟩:=hq ρ' af;exact⟨v,w,h1,σ,own,hv,h.setReg ht (aC.mono' (.refl σ) (.refl S hv) h3 h2) ae (fun gs s' e=>absurd e (h3 gs s'))⟩
theorem eF.effG (h:Inv C S ρ σ own hv w0 σ0 A a w)(ht:¬A dst)(ae:dst<a.tmps.size)(dR:∀g,g∈gs→A g.1)(hg:holds gs ρ=true){o:Oper}(hd:o.dst=some dst){s:Sh}{C9:List PI}(hq:eF C S ρ σ hv Φ dst a w o (s,C9)):bP C w0 σ0 Φ S ρ A a w o (S.setR dst (.opt gs s),C9):=by
 refine bP.value hd fun ρ' af=>?_;obtain⟨v,d,rfl,h1,h2,h3⟩:=hq ρ' af;have hh:holds gs (ρ.setR dst d)=true:=by rw[Cm (t:=dst) (d:=d) fun g hm e=>ht (by rw[←e];exact dR g hm)];exact hg
 refine⟨v,w,h1,σ,own,hv,h.setReg ht ⟨fun _=>aC.mono' (.refl σ) (.refl S hv) h3 h2,fun e=>absurd (hh.symm.trans e) (by decide)⟩ ae (fun bG s' e=>?_)⟩;cases e;exact⟨dR,h3⟩
theorem Inv.passed (h:Inv C S ρ σ own hv w0 σ0 A a w)(ht:¬A dst)(ae:dst<a.tmps.size)(dR:∀g,g∈gs→A g.1)(hg:holds gs ρ=false){s:Sh}(hs:∀bG s',s≠.opt bG s')(d:D):Inv C (S.setR dst (.opt gs s)) (ρ.setR dst d) σ own hv w0 σ0 (fun u=>A u∨u=dst) (a.put (some dst) undef) w:=by
 have hh:holds gs (ρ.setR dst d)=false:=by rw[Cm (t:=dst) (d:=d) fun g hm e=>ht (by rw[←e];exact dR g hm)];exact hg
 refine h.setReg ht (s:=.opt gs s) (v:=undef) (d:=d) ⟨fun e=>absurd (hh.symm.trans e) (by decide),fun _=>rfl⟩ ae (fun bG s' e=>?_);cases e;exact⟨dR,hs⟩
theorem Inv.mkObj (h:Inv C S ρ σ own hv w0 σ0 A a w)(ht:¬A dst)(ae:dst<a.tmps.size)(ob:Ob)(d:D)(v:Value)(nb:Nat→Bool){w':World}(hw:Below w.heap.size w w')(dB:∀k,nb k=true→w.heap.size≤k∧k<w'.heap.size)
 (cI:cn C (S.newO dst ob) (ρ.setO dst d) σ (fD own dst nb) (bO hv dst v) w' w0.heap.size dst ob) (mM:ob≠.tr:=by intro h;cases h):
 Good C w0 σ0 (Cx.mkObj S dst ob) ((ρ.setO dst d).setR dst .none) (fun u=>A u∨u=dst) (a.put (some dst) v) w':=by
 have h1:=h.newO dst ob d v nb hw dB cI mM;have h2:=h1.setObj ht (j:=dst) (v:=v) (aG _ _ _) ae;have e:(S.newO dst ob).ver dst=S.ver dst+1:=aG _ _ _;rw[e] at h2;exact⟨_,_,_,h2⟩
theorem Inv.mkPtr (h:Inv C S ρ σ own hv w0 σ0 A a w)(ht:¬A dst)(ae:dst<a.tmps.size)(ob:Ob)(d:D)(k:Nat)(nb:Nat→Bool){w':World}(hw:Below w.heap.size w w')(dB:∀k,nb k=true→w.heap.size≤k∧k<w'.heap.size)
 (cI:cn C (S.newO dst ob) (ρ.setO dst d) σ (fD own dst nb) (bO hv dst (.pointer (some ⟨k,0,none⟩))) w' w0.heap.size dst ob) (mM:ob≠.tr:=by intro h;cases h):
 Good C w0 σ0 (Cx.mkPtr S dst ob) ((ρ.setO dst d).setR dst .none) (fun u=>A u∨u=dst) (a.put (some dst) (.pointer (some ⟨k,0,none⟩))) w':=by
 have h1:=h.newO dst ob d _ nb hw dB cI mM;have e:(S.newO dst ob).ver dst=S.ver dst+1:=aG _ _ _;have h2:=h1.setReg ht (s:=.ptr dst (S.ver dst+1) 0) (v:=.pointer (some ⟨k,0,none⟩)) (d:=.none) ⟨Nat.le_of_eq e.symm,fun _=>⟨k,aG _ _ _,rfl⟩⟩ ae (fun _ _ e=>by cases e);exact⟨_,_,_,h2⟩
theorem zZ {e:PE}{ρ':Env}(h:PI.runs Φ [.setO dst e,.setR dst (.con .none)] ρ=some ρ'):ρ'=(ρ.setO dst (e.ev ρ)).setR dst .none:=by
 simp[PI.runs,PI.run,PE.ev] at h;exact h.symm
theorem SU (h:Inv C S ρ σ own hv w0 σ0 A a w){t:Ty}{v:Value}{d:D}(hr:Rep C.cap σ t v d)(ho:t.rowT=true∨t.one=true)(ag:Bool)(T:TypeId):
 cn C (S.newO dst (.box ag (t.flat.map .dat))) (ρ.setO dst (.agg d.cells)) σ (fD own dst (fun k=>Nat.beq k w.heap.size)) (bO hv dst (.pointer (some ⟨w.heap.size,0,none⟩))) (w.alloc (.cells v.cells T)) w0.heap.size dst (.box ag (t.flat.map .dat)):=by
 obtain⟨f1,f2,f3⟩:=hr.flat ho;refine⟨w.heap.size,v.cells,T,d.cells,aG _ _ _,by simp[fD],heap_alloc_new w _,by rw[hr.size];simp[f1],by simp[Env.setO,aG],by simp[f1,f2],fun i s hi=>?_⟩;simp only[cA,av] at hi;obtain⟨ti,CF,rfl⟩:=hi;exact⟨fun _ _ e=>(by cases e),(f3 i ti CF).2⟩
theorem acZ (h:Inv C S ρ σ own hv w0 σ0 A a w)(hC:CtxOK C σ0)(ht:¬A dst)(ae:dst<a.tmps.size){T:TypeId}{x:Operand}{r:St×List PI}(hr:Bg C S dst T x=some r){o:Oper}(hd:o.dst=some dst)(ho:o.op=.assign x):bP C w0 σ0 Φ S ρ A a w o r:=by
 unfold Bg at hr;split at hr
 case h_2=>cases hr
 rename_i e0 e1 E hu hT;simp only[av] at hr;obtain⟨e,he,rfl⟩:=hr;have hx:=cl h hC rfl hu;have cj:a.eval x=.slice none 0 0:=by
  generalize a.eval x=v at hx;generalize e1.ev ρ=d at hx;cases hx;rfl
 refine bP.value hd fun ρ' af=>⟨.slice none 0 0,w,by simp[execOp,ho,cj],?_⟩
 rw[zZ af];exact h.mkObj ht ae (.row E e) _ _ (fun _=>false) (.refl _ _) (by simp) ⟨[],[],by simp[Env.setO,aG,PE.ev],by rw[aG];exact World.ownsRow_nil _ _ _ _,⟨fun _=>undef,by simp,by simp⟩,by rw[aG];simp[Value.ownBlock]⟩
theorem acv (h:Inv C S ρ σ own hv w0 σ0 A a w)(ht:¬A dst)(ae:dst<a.tmps.size){T:TypeId}{r:St×List PI}(hr:A6 C S dst T=some r){o:Oper}(hd:o.dst=some dst)(ho:o.op=.alloc T):bP C w0 σ0 Φ S ρ A a w o r:=by
 unfold A6 at hr;split at hr
 case h_2=>cases hr
 rename_i t inf ag MY hi ha;cases hc:(sr inf t&&(t.rowT||t.one))<;>simp only[hc,cond_true,cond_false] at hr
 ·cases hr
 simp only[aj,gw] at hc;simp only[av] at hr;obtain⟨z,hz,rfl⟩:=hr;obtain⟨v0,rG,mQ⟩:∃v0,inf.zero=some v0∧jo t v0=true:=by
  have:=hc.1;unfold sr at this;split at this
  ·exact⟨_,by assumption,this⟩
  ·cases this
 obtain⟨k1,k2,k3⟩:=wY (cap:=C.cap) (σ:=σ) hz mQ;have ff:z.1.rowT=true∨z.1.one=true:=by
  rcases hc.2 with e|e
  ·left;cases t<;>simp[Ty.rowT] at e;simp[oc] at hz;obtain⟨_,_,rfl⟩:=hz;rfl
  ·right;rw[k3];exact e
 refine bP.value hd fun ρ' af=>⟨.pointer (some ⟨w.heap.size,0,none⟩),w.alloc (.cells v0.cells T),?_,?_⟩
 ·simp[execOp,ho,Instr.alloc,zeroValue,run_typeInfo w hi,rG,newVar,newRow]
 ·rw[zZ af];exact h.mkPtr ht ae _ _ _ (fun k=>Nat.beq k w.heap.size) ((Below.refl _ _).alloc (aU _) _) (fun k hk=>by simp at hk;simp;omega) (SU h k1 ff ag T)
theorem Compat.newO (S:St)(hv:Nat→Value)(j:Nat)(ob:Ob)(v:Value):Compat S hv (S.newO j ob) (bO hv j v):=by
 refine⟨fun i=>?_,fun i e=>?_⟩
 ·simp only[St.newO,fj];split<;>rename_i e
  ·subst e;omega
  ·omega
 ·simp only[St.newO,fj] at e;split at e
  ·rename_i e';subst e';omega
  ·rename_i az;exact bf _ _ az
theorem acz (h:Inv C S ρ σ own hv w0 σ0 A a w)(hC:CtxOK C σ0)(ht:¬A dst)(ae:dst<a.tmps.size){T:TypeId}{x:Operand}{r:St×List PI}(hr:A8 C S dst T x=some r){o:Oper}(hd:o.dst=some dst)(ho:o.op=.box T x):bP C w0 σ0 Φ S ρ A a w o r:=by
 unfold A8 at hr;split at hr
 case h_3=>cases hr
 case h_2=>
  rename_i hu ha;split at hr
  case h_2=>cases hr
  rename_i l eu;cases hr;have fU:=(qF h (gs:=[]) rfl x).1;rw[eu] at fU;obtain⟨vs,ds,e1,e2,e3,e4,e5⟩:=fU;refine bP.value hd fun ρ' af=>⟨.pointer (some ⟨w.heap.size,0,none⟩),w.alloc (.cells (a.eval x).cells T),?_,?_⟩
  ·simp[execOp,ho,Instr.box,newVar,newRow]
  ·rw[zZ af,e2];refine h.mkPtr ht ae _ _ _ (fun k=>Nat.beq k w.heap.size) ((Below.refl _ _).alloc (aU _) _) (fun k hk=>by simp at hk;simp;omega) ⟨w.heap.size,(a.eval x).cells,T,ds,aG _ _ _,by simp[fD],heap_alloc_new w _,by rw[e1];simp[Value.cells,e3],by simp[Env.setO,aG],by simp[e4],fun i s hi=>?_⟩;simp only[cA,av] at hi;obtain⟨c,hc,rfl⟩:=hi;have bD:(a.eval x).cells.getD i undef=vs.getD i undef:=by rw[e1];simp[Value.cells,aF,ej]
   have h6:=(e5 i c hc).monoR (Im.le.leR (.refl σ)) (Compat.newO S hv dst (.box true (l.map AgC.sh)) (.pointer (some ⟨w.heap.size,0,none⟩)));rw[bD];cases c with
   |dat t=>exact⟨fun _ _ e=>(by cases e),h6.2⟩
   |obj j ver=>exact⟨fun _ _ e=>(by cases e),h6⟩
 rename_i t e ag hu ha;cases hc:(t.rowT||t.one)<;>simp only[hc,cond_true,cond_false] at hr
 ·cases hr
 cases hr;simp only[gw] at hc;have hx:=cl h hC rfl hu;refine bP.value hd fun ρ' af=>⟨.pointer (some ⟨w.heap.size,0,none⟩),w.alloc (.cells (a.eval x).cells T),?_,?_⟩
 ·simp[execOp,ho,Instr.box,newVar,newRow]
 ·rw[zZ af];have:(PE.mk [e]).ev ρ=.agg (e.ev ρ).cells:=by simp[PE.ev,PE.evc]
  rw[this];exact h.mkPtr ht ae _ _ _ (fun k=>Nat.beq k w.heap.size) ((Below.refl _ _).alloc (aU _) _) (fun k hk=>by simp at hk;simp;omega) (SU h hx hc ag T)
theorem acT (h:Inv C S ρ σ own hv w0 σ0 A a w)(ht:¬A dst)(ae:dst<a.tmps.size){T:TypeId}{m:Option Operand}{r:St×List PI}(hr:Bd C S dst T m=some r){o:Oper}(hd:o.dst=some dst)(ho:o.op=.makeMap T m):bP C w0 σ0 Φ S ρ A a w o r:=by
 unfold Bd at hr;split at hr
 case h_2=>cases hr
 rename_i K E hT;simp only[ao,av] at hr;obtain⟨kt,hk,et,he,rfl⟩:=hr;refine bP.value hd fun ρ' af=>⟨.map (some w.heap.size),w.alloc (.map #[] 0),?_,?_⟩
 ·simp[execOp,ho,Instr.makeMap]
 ·rw[zZ af]
  exact h.mkObj ht ae (.mp kt et) _ _ (fun k=>Nat.beq k w.heap.size) ((Below.refl _ _).alloc (aU _) _) (fun k hk=>by simp at hk;simp;omega)
   ⟨w.heap.size,#[],0,[],aG _ _ _,by simp[fD],heap_alloc_new w _,by simp[Env.setO,aG,PE.ev],rfl,⟨by simp,by simp[mA]⟩,by simp⟩
theorem ac1 (h:Inv C S ρ σ own hv w0 σ0 A a w)(ht:¬A dst)(ae:dst<a.tmps.size){T:TypeId}{x:Operand}{r:St×List PI}(hr:Bh C S dst T x=some r){o:Oper}(hd:o.dst=some dst)(ho:o.op=.range T x):bP C w0 σ0 Φ S ρ A a w o r:=by
 unfold Bh at hr;split at hr
 case h_2=>cases hr
 rename_i K E j ver hT es;obtain⟨dU,_⟩:=qF h (gs:=[]) rfl x;rw[es] at dU;cases hb:(Nat.beq ver (S.ver j)&& !Nat.beq j dst)<;>simp only[hb,cond_true,cond_false] at hr
 ·cases hr
 simp only[aj,hH] at hb;have cj:=dU.2 (au hb.1);have az:j≠dst:=fun e=>by subst e;simp at hb
 have aV:=h.objs j;split at hr
 case h_2=>cases hr
 rename_i kt et eo;cases hr;rw[eo] at aV;obtain⟨m,arr,clock,ds,h1,h2,h3,h4,h5,⟨h6,qa⟩,h7⟩:=aV;have lg:=h.mv az (by rw[eo];rfl);have oM:m<w.heap.size:=(dy.1 h3).1;have Md:w0.heap.size≤m:=(h.owns m j h2).1;refine bP.value hd fun ρ' af=>⟨.pointer (some ⟨w.heap.size,0,none⟩),w.alloc (.mapIter (some m) clock #[] clock),?_,?_⟩
 ·simp[execOp,ho,Instr.range,cj,h1,run_underlying hT,getObj,Sem.run,h3]
 have hρ:ρ'=((ρ.setO dst (.tup [.list [],.map ds])).setR dst .none):=by
  simp[PI.runs,PI.run,PE.ev,PE.evs,h4] at af;exact af.symm
 subst hρ;have gg:Below w.heap.size w (w.alloc (.mapIter (some m) clock #[] clock)):=(Below.refl _ _).alloc (aU _) _;have MQ:=lg.step (S':=(S.mv j dst).newO dst (.it kt et)) (ρ':=(ρ.setO dst (.tup [.list [],.map ds]))) (σ':=σ) (hv':=bO (bO hv dst (hv j)) dst (.pointer (some ⟨w.heap.size,0,none⟩)))
  (own':=fun k=>if k=w.heap.size then some dst else(if own k=some j then some dst else if own k=some dst then none else own k)) (a':=a) (A':=A) (w':=w.alloc (.mapIter (some m) clock #[] clock)) (fun i=>i=dst)
  rfl (.refl σ) (h.ok.below gg) (fun _ _ _ hx=>.inl hx) (fun _ _ hx=>.inl hx) (gg.mono h.below.size) ⟨fun i=>?_,fun i e=>?_⟩ (fun i hi=>⟨?_,?_,?_,fun k hk=>⟨?_,?_⟩⟩) (fun i hi=>?_) (fun k i hk=>?_) (fun _=>id) (fun t=>.inl ⟨rfl,rfl,rfl⟩) (fun _ _=>rfl) (fun k hk _=>gg.block k hk) (fun k i hk=>?_) (fun i hi=>by subst hi;simp[St.newO,aG])
 ·have mI:=MQ.setObj ht (j:=dst) (v:=.pointer (some ⟨w.heap.size,0,none⟩)) (aG _ _ _) ae;have e:((S.mv j dst).newO dst (.it kt et)).ver dst=(S.mv j dst).ver dst+1:=aG _ _ _;rw[e] at mI;exact⟨_,_,_,mI⟩
 ·simp only[St.newO,fj];split<;>rename_i e
  ·subst e;omega
  ·omega
 ·simp only[St.newO,fj] at e;split at e
  ·rename_i e';subst e';omega
  ·rename_i Ml;exact bf _ _ Ml
 ·simp[St.newO,bf _ _ hi]
 ·simp[Env.setO,bf _ _ hi]
 ·exact bf _ _ hi
 ·have asK:=(lg.owns k i hk).2.1;have bU:k≠w.heap.size:=by omega
  simp only[if_neg bU];exact hk
 ·exact gg.block k (lg.owns k i hk).2.1
 ·subst hi;simp only[St.newO,aG];have fu:m≠w.heap.size:=by omega
  refine⟨w.heap.size,m,arr,clock,ds,[],aG _ _ _,by simp,by simp[fu,h2],by omega,?_,heap_alloc_new w _,by simp[Env.setO,aG,gr],List.nodup_nil,by simp,h5,qa,h7⟩;rw[gg.block m oM];exact h3
 ·split at hk
  ·rename_i e;subst e;refine⟨h.below.size,by simp,fun o=>?_,?_⟩
   ·cases hc:σ.c w.heap.size o with
    |none=>rfl
    |some u=>have:=h.lt hc;omega
   ·cases hc:σ.m w.heap.size with
    |none=>rfl
    |some u=>have:=h.ltm hc;omega
  ·obtain⟨g1,g2,g3,g4⟩:=lg.owns k i hk;exact⟨g1,by simp;omega,g3,g4⟩
 ·split at hk
  ·rename_i e;subst e;exact .inr (aU _)
  ·exact .inl ⟨i,hk⟩
theorem acD (h:Inv C S ρ σ own hv w0 σ0 A a w)(hC:CtxOK C σ0)(ht:¬A dst)(ae:dst<a.tmps.size){T U:TypeId}{x:Operand}{r:St×List PI}(hr:A9 C S dst T U x=some r){o:Oper}(hd:o.dst=some dst)(ho:o.op=.convert T U x):bP C w0 σ0 Φ S ρ A a w o r:=by
 unfold A9 at hr;split at hr
 case h_2=>cases hr
 rename_i e E hu hT hU;split at hr
 case h_2=>cases hr
 rename_i hE;cases hr;have hx:=cl h hC rfl hu;obtain⟨s,aL,ba,hs⟩:=hx.str_inv;have nG:=Lib.run_convert_string_bytes (P:=C.P) w T U E s hT hU hE;refine bP.value hd fun ρ' af=>⟨.slice (some ⟨w.heap.size,0,none⟩) s.size (grownCap w s.size 0 E),Lib.bytesWorld w E s,by simp[execOp,ho,aL,nG],?_⟩
 simp only[PI.runs,PI.run,ao] at af;obtain⟨ρ1,g1,ρ2,g2,g3⟩:=af;cases c1:((PE.ci BinOp.leq (.slen e) (.con (.int mU))).ev ρ).b<;>simp only[c1,cond_true,cond_false] at g1
 ·cases g1
 cases g1;cases g2;cases g3;have agm:s.size≤4294967296:=by
  simp[PE.ev,ba,D.s,D.i,D.b,iQ,D.int,mU] at c1;omega
 have gg:Below w.heap.size w (Lib.bytesWorld w E s):=⟨rfl,rfl,rfl,by rw[Lib.bytesWorld_size];omega,fun k hk=>Lib.bytesWorld_at_old w E s k hk⟩
 have aA:(Lib.bytesWorld w E s).heap.size=w.heap.size+1:=Lib.bytesWorld_size w E s
 let σ':Im:={c:=fun k i=>if k=w.heap.size then(if i<s.size then some (.int .u8 (s.data.toList.getD i 0).toNat) else none) else σ.c k i,m:=σ.m}
 have hle:σ.le σ':=by
  refine⟨fun k o v hc=>?_,fun k es hc=>hc⟩;have:k≠w.heap.size:=by have:=h.lt hc;omega
  simp[σ',this,hc]
 have ax:σ'.ok (Lib.bytesWorld w E s):=by
  refine⟨fun k i v hc=>?_,(h.ok.below gg).m⟩;simp only[σ'] at hc;split at hc
  ·rename_i ek;subst ek;split at hc
   ·rename_i hi;cases hc;exact Lib.bytesWorld_cell w E s i hi
   ·cases hc
  ·exact(h.ok.below gg).c k i v hc
 have h1:=h.step (S':=S) (ρ':=ρ) (σ':=σ') (own':=own) (hv':=hv) (A':=A) (a':=a) (w':=Lib.bytesWorld w E s) (fun _=>False) rfl hle ax (fun k i v hc=>?_) (fun k es hc=>.inl hc) (gg.mono h.below.size) ⟨fun _=>aU _,fun _ _=>rfl⟩
  (fun j _=>⟨rfl,rfl,rfl,fun k hk=>⟨hk,gg.block k (h.owns k j hk).2.1⟩⟩) (fun j hj=>hj.elim) (fun k j hk=>?_) (fun _=>id) (fun t=>.inl ⟨rfl,rfl,rfl⟩) (fun _ _=>rfl) (fun k hk _=>gg.block k hk) (fun k i hk=>.inl ⟨i,hk⟩) (fun _ hf=>hf.elim)
 ·refine⟨_,_,_,h1.setReg ht (s:=.dat (.slice (.int .u8))) ?_ ae (fun _ _ e=>by cases e)⟩;show Rep C.cap σ' _ _ _;simp only[PE.ev,ba,D.s];refine .slice (.int .u8) w.heap.size 0 s.size _ _ (fun i=>.int .u8 (s.data.toList.getD i 0).toNat) (by simp) (grownCap_ge w s.size 0 E) (grownCap_le_maxLen w s.size 0 E (by unfold maxLen;omega)) (fun i x hx=>?_) (fun i j u hi hu=>?_)
  ·simp only[cA,av] at hx;obtain⟨b,hb,rfl⟩:=hx;have:s.data.toList.getD i 0=b:=by simp[aF,hb]
   rw[this];have:=b.toNat_lt;exact .int .u8 _ (by show(0:Int)≤_;omega) (by show _≤(255:Int);omega)
  ·have hj:j=0:=by
        have:=(dy.1 hu).1;simp[Value.cells] at this;exact this
   subst hj;simp[Value.cells] at hu;subst hu;simp[σ',Ty.size,hi]
 ·simp only[σ'] at hc;split at hc
  ·rename_i ek;exact .inr ⟨by have:=h.below.size;omega,.inr (by omega)⟩
  ·exact .inl hc
 ·obtain⟨g1,g2,g3,g4⟩:=h.owns k j hk;refine⟨g1,by omega,fun i=>?_,g4⟩;have:k≠w.heap.size:=by omega
  simp[σ',this,g3 i]
end
end Cx
namespace Cx
open Go Go.RowKit
def F7 (C:Ctx)(S:St)(gs:List (Nat×Bool))(e:Ty)(z:D)(parts:List (Nat×Operand))(i:Nat):Option PE:=
 match parts.find? (fun p=>Nat.beq p.1 i) with
 |some p=>(use C S gs p.2).bind fun a=>bif Ty.sub a.1 e then some a.2 else Option.none
 |Option.none=>some (PE.con z)
def vk (C:Ctx)(S:St)(gs:List (Nat×Bool))(dst:Nat)(T:TypeId)(len:Nat)(parts:List (Nat×Operand)):ke:=
 match C.P.underlying T with
 |some (.slice E)=>
  (oa C.P E).bind fun e=>(oc e).bind fun z=>
    bif p5 C.P E e&&Ty.sub z.1 e&&gp (parts.map (·.1))&&parts.all (fun p=>Nat.blt p.1 len)&&Nat.ble (len*e.size) 16777216 then
     ((List.range len).mapM (F7 C S gs e z.2 parts)).map fun es=>(mkObj S dst (.row E e),[.setO dst (.lst es),.setR dst (.con .none)])
    else Option.none
 |_=>Option.none
def yk (C:Ctx)(S:St)(gs:List (Nat×Bool))(dst:Nat)(T:TypeId)(len:Nat)(parts:List (Nat×Operand)):ke:=
 match C.P.underlying T,vk C S gs dst T len parts with
 |some (.slice E),some r=>
  (oa C.P E).bind fun e=>
    match r.2 with
    |.setO _ x::_=>some ((S.newO dst .dead).setR dst (match gs with|[]=>.dat (.slice e.rol)|_=>.opt gs (.dat (.slice e.rol))),[.setR dst x])
    |_=>Option.none
 |_,_=>Option.none
def Lm (S:St):AgC→Bool
 |.dat _=>true
 |.obj j ver=>Nat.beq ver (S.ver j)&&kG (S.o j)
def sR (C:Ctx)(S:St)(T:TypeId)(x v:Operand):ke:=
 match C.P.info? T with
 |some inf=>
  match eU S [] x with
  |.ptr j ver off=>
   bif Nat.beq ver (S.ver j) then
    match S.o j with
    |.box ag shs=>
     match use C S [] v with
     |some (t,e)=>
      bif Nat.beq inf.size t.size&&(t.rowT||t.one)&&Nat.ble (off+t.size) shs.length then
             some (S.setO j (.box ag (shs.take off++t.flat.map .dat++shs.drop (off+t.size))),[.setO j (.setc (.o j) off e)])
      else Option.none
     |Option.none=>
      match eU S [] v with
      |.obj j' mw=>
       bif Nat.beq mw (S.ver j')&&kG (S.o j')&&Nat.beq inf.size 1&&Nat.blt off shs.length then
              some (S.setO j (.box ag (shs.set off (.obj j' mw))),[.setO j (.setc (.o j) off (.con .none))])
       else Option.none
      |.agg l=>
       bif Nat.beq inf.size l.length&&Nat.ble (off+l.length) shs.length&&l.all (Lm S) then
              some (S.setO j (.box ag (shs.take off++l.map AgC.sh++shs.drop (off+l.length))),[.setO j (.setc (.o j) off (pA v))])
       else Option.none
      |_=>Option.none
    |_=>Option.none
   else Option.none
  |.eptr j ver size off=>
   bif Nat.beq ver (S.ver j) then
    match S.o j,use C S [] v with
    |.row _ (.agg ts),some (t,e)=>
     bif Nat.beq inf.size t.size&&(t.rowT||t.one)&&Nat.beq size ts.length&&Nat.ble (off+t.size) ts.length&&Ty.subs t.flat ((ts.drop off).take t.size) then
         some (S,[.setO j (.setn (.o j) (pA x) off e)])
     else Option.none
    |.row _ e0,some (t,e)=>
     bif Nat.beq inf.size 1&&Nat.beq size 1&&Nat.beq off 0&&e0.one&&Ty.sub t e0 then some (S,[.setO j (.setn (.o j) (pA x) 0 e)]) else Option.none
    |_,_=>Option.none
   else Option.none
  |_=>Option.none
 |Option.none=>Option.none
def q7 (C:Ctx)(S:St)(T:TypeId)(m k v:Operand):ke:=
 match C.P.underlying T,eU S [] m with
 |some (.map K _),.obj j ver=>
  bif Nat.beq ver (S.ver j) then
   match S.o j,use C S [] k,use C S [] v with
   |.mp kt et,some (tk,ek),some (tv,ev)=>
    bif Ty.beq tk kt&&tL C.P K kt&&Ty.sub tv et then some (S,[.chk (.ci .lss (.mlen (.o j)) (.con (.int mU))),.setO j (.put (.o j) ek ev)]) else Option.none
   |_,_,_=>Option.none
  else Option.none
 |_,_=>Option.none
def Hw (x y:PE):PE:=.ci .leq (.llen (.app x y)) (.con (.int mU))
def Jd:Ty→Ty→Bool
 |.slice e',e=>Ty.beq e'.unf e
 |.nils _,_=>true
 |_,_=>false
def A7 (C:Ctx)(S:St)(dst:Nat)(T:TypeId)(s x:Operand):ke:=
 match C.P.underlying T with
 |some (.slice E)=>
  (oa C.P E).bind fun e=>
    match view C S [] x with
    |some (tx,ex)=>
     bif p5 C.P E e&&Jd tx e then
        match use C S [] s with
        |some (.nils _,_)=>some (mkObj S dst (.row E e),[.chk (Hw (.con (.list [])) ex),.setO dst (.app (.con (.list [])) ex),.setR dst (.con .none)])
        |some _=>Option.none
        |Option.none=>
         match eU S [] s with
         |.obj j ver=>
          bif Nat.beq ver (S.ver j) then
             match S.o j with
             |.row E' e'=>
              bif Nat.beq E' E&&Ty.beq e' e then
                some ((S.newO j (.row E e)).setR dst (.obj j (S.ver j+1)),[.chk (Hw (.o j) ex),.setO j (.app (.o j) ex),.setR dst (.con .none)])
              else Option.none
             |_=>Option.none
          else Option.none
         |_=>Option.none
     else Option.none
    |Option.none=>Option.none
 |_=>Option.none
theorem KX {P:Program}{T:TypeId}{e:Ty}(h:p5 P T e=true):∃inf z,P.info? T=some inf∧inf.size=e.size∧inf.bytes≤v8∧1≤e.size∧inf.zero=some z∧jo e z=true:=by
 unfold p5 at h;split at h
 ·rename_i i hi;simp only[aj] at h;have h4:=h.2;unfold sr at h4;split at h4
  ·rename_i z hz;exact⟨i,z,hi,au h.1.1.1,jP h.1.1.2,jP h.1.2,hz,h4⟩
  ·cases h4
 ·cases h
theorem RO {e:Ty}{z:Value}(h:jo e z=true):z.cells.size=e.size:=by
 cases e with
 |agg ts=>
  cases z with
  |agg vs=>simp only[jo] at h;have:=(RP ts vs.toList h).1;simpa [Value.cells,Ty.size] using this
  |_=>simp[jo] at h
 |_=>cases z<;>simp_all [jo,wX,Value.cells,Ty.size]
theorem abQ {ρ:Env}{x y:PE}(h:((PE.ci .lss x y).ev ρ).b=true):(x.ev ρ).i<(y.ev ρ).i:=by
 simpa [PE.ev,D.b_bool,iQ] using h
theorem Tc {ρ:Env}{x y:PE}(h:((PE.ci .leq x y).ev ρ).b=true):(x.ev ρ).i≤(y.ev ρ).i:=by
 simpa [PE.ev,D.b_bool,iQ] using h
theorem ah5 {n:Nat}(h:(n:Int)<mU):n<4294967296:=by unfold mU at h;omega
theorem V2 {n:Nat}(h:(n:Int)≤mU):n≤4294967296:=by unfold mU at h;omega
theorem St.setO_self {S:St}{j:Nat}{ob:Ob}(h:S.o j=ob):S.setO j ob=S:=by
 have:bO S.o j ob=S.o:=by
  funext i;rw[fj];split
  ·rename_i e;subst e;exact h.symm
  ·rfl
 cases S;simp only[St.setO] at this ⊢;rw[this]
section
variable {C:Ctx} {S:St} {ρ:Env} {σ:Im} {own:Nat→Option Nat} {hv:Nat→Value} {w0:World} {σ0:Base} {A:Nat→Prop} {a:Act} {w:World} {gs:List (Nat×Bool)} {Φ:aR} {dst:Nat}
theorem Inv.updO (h:Inv C S ρ σ own hv w0 σ0 A a w)(j:Nat)(ob:Ob)(d:D)(v:Value)(nb:Nat→Bool){w':World}(hw:Below w0.heap.size w w')
 (rq:∀k,k<w.heap.size→own k≠some j→w'.heap[k]?=w.heap[k]?) (dB:∀k,nb k=true→(own k=some j∨w.heap.size≤k)∧k<w'.heap.size)
 (cI:cn C (S.newO j ob) (ρ.setO j d) σ (fD own j nb) (bO hv j v) w' w0.heap.size j ob) (mM:ob≠.tr:=by intro h;cases h):Inv C (S.newO j ob) (ρ.setO j d) σ (fD own j nb) (bO hv j v) w0 σ0 A a w':=by
 have aA:w0.heap.size≤w.heap.size:=h.below.size;have aW:∀k i,i≠j→own k=some i→fD own j nb k=some i:=by
  intro k i hi hk;have h1:=h.owns k i hk;have h2:nb k=false:=by
   cases hn:nb k with
   |false=>rfl
   |true=>
    rcases(dB k hn).1 with e|e
    ·rw[hk] at e;simp at e;exact absurd e hi
    ·omega
  simp[fD,h2,hk,hi]
 have ax:σ.ok w':=by
  refine⟨fun k o u hc=>?_,fun k es hc=>?_⟩
  ·have az:own k≠some j:=fun e=>by rw[(h.owns k j e).2.2.1 o] at hc;cases hc
   rw[World.cell?_of_block (rq k (h.lt hc) az)];exact h.ok.c k o u hc
  ·have az:own k≠some j:=fun e=>by rw[(h.owns k j e).2.2.2] at hc;cases hc
   exact(h.ok.m k es hc).keep (rq k (h.ltm hc) az)
 refine h.step (fun i=>i=j) rfl (.refl σ) ax (fun _ _ _ hx=>.inl hx) (fun _ _ hx=>.inl hx) hw ⟨fun i=>?_,fun i e=>?_⟩ (fun i hi=>⟨?_,?_,?_,fun k hk=>⟨aW k i hi hk,?_⟩⟩) (fun i hi=>?_) (fun k i hk=>?_) (fun _=>id) (fun t=>.inl ⟨rfl,rfl,rfl⟩) (fun _ _=>rfl) (fun k hk e=>rq k hk (by rw[e];simp)) (fun k i hk=>by
  unfold fD at hk;split at hk
  ·rename_i hn;rcases(dB k hn).1 with e|e
   ·exact .inl ⟨j,e⟩
   ·exact .inr e
  ·split at hk
   ·cases hk
   ·exact .inl ⟨i,hk⟩) (fun i hi=>by subst hi;simpa only[St.newO,aG] using mM)
 ·simp only[St.newO,fj];split<;>rename_i e
  ·subst e;omega
  ·omega
 ·simp only[St.newO,fj] at e;split at e
  ·rename_i e';subst e';omega
  ·rename_i az;exact bf _ _ az
 ·simp[St.newO,bf _ _ hi]
 ·simp[Env.setO,bf _ _ hi]
 ·exact bf _ _ hi
 ·exact rq k (h.owns k i hk).2.1 (by rw[hk];simpa using hi)
 ·subst hi;simp only[St.newO,aG];exact cI
 ·unfold fD at hk;split at hk
  ·rename_i hn;obtain⟨g1,g2⟩:=dB k hn;rcases g1 with e|e
   ·obtain⟨f1,f2,f3,f4⟩:=h.owns k j e;exact⟨f1,g2,f3,f4⟩
   ·refine⟨by omega,g2,fun o=>?_,?_⟩
    ·cases hc:σ.c k o with
     |none=>rfl
     |some u=>have:=h.lt hc;omega
    ·cases hc:σ.m k with
     |none=>rfl
     |some u=>have:=h.ltm hc;omega
  ·split at hk
   ·cases hk
   ·obtain⟨g1,g2,g3,g4⟩:=h.owns k i hk;exact⟨g1,by have:=hw.size;omega,g3,g4⟩
theorem Inv.updB (h:Inv C S ρ σ own hv w0 σ0 A a w)(j:Nat)(ob:Ob)(d:D){w':World}(hw:Below w0.heap.size w w')
 (rq:∀k,k<w.heap.size→own k≠some j→w'.heap[k]?=w.heap[k]?)
 (cI:cn C (S.setO j ob) (ρ.setO j d) σ own hv w' w0.heap.size j ob) (mM:ob≠.tr:=by intro h;cases h):Inv C (S.setO j ob) (ρ.setO j d) σ own hv w0 σ0 A a w':=by
 have ax:σ.ok w':=by
  refine⟨fun k o u hc=>?_,fun k es hc=>?_⟩
  ·have az:own k≠some j:=fun e=>by rw[(h.owns k j e).2.2.1 o] at hc;cases hc
   rw[World.cell?_of_block (rq k (h.lt hc) az)];exact h.ok.c k o u hc
  ·have az:own k≠some j:=fun e=>by rw[(h.owns k j e).2.2.2] at hc;cases hc
   exact(h.ok.m k es hc).keep (rq k (h.ltm hc) az)
 refine h.step (fun i=>i=j) rfl (.refl σ) ax (fun _ _ _ hx=>.inl hx) (fun _ _ hx=>.inl hx) hw (Compat.setO _ _ _ _) (fun i hi=>⟨by simp[St.setO,bf _ _ hi],by simp[Env.setO,bf _ _ hi],rfl,fun k hk=>⟨hk,rq k (h.owns k i hk).2.1 (by rw[hk];simpa using hi)⟩⟩) (fun i hi=>?_) (fun k i hk=>?_) (fun _=>id) (fun t=>.inl ⟨rfl,rfl,rfl⟩) (fun _ _=>rfl) (fun k hk e=>rq k hk (by rw[e];simp)) (fun k i hk=>.inl ⟨i,hk⟩) (fun i hi=>by subst hi;rw[St.setO_o];exact mM)
 ·subst hi;rw[St.setO_o];exact cI
 ·obtain⟨g1,g2,g3,g4⟩:=h.owns k i hk;exact⟨g1,by have:=hw.size;omega,g3,g4⟩
theorem T4 {B:Nat}{w w':World}{row:Option Nat}(hg:w.grownBy w' row)(hB:B≤w.heap.size)(hr:∀k,row=some k→B≤k):Below B w w':=(Below.refl B w).grown hg hB hr
theorem Wl {z:Array Value}{n i q:Nat}(hz:0<z.size)(hi:i<n)(hq:q<z.size):(madeCells z (n*z.size))[i*z.size+q]?=z[q]?:=by
 have ae:i*z.size+q<n*z.size:=by
  have:(i+1)*z.size≤n*z.size:=mC _ hi;rw[oh] at this;omega
 have hm:(i*z.size+q)%z.size=q:=by rw[Ax,aaE,Nat.mod_eq_of_lt hq]
 simp[madeCells,Array.getElem?_range,ae,hm,hq]
theorem acV (h:Inv C S ρ σ own hv w0 σ0 A a w)(hC:CtxOK C σ0)(ht:¬A dst)(ae:dst<a.tmps.size){T:TypeId}{l c:Operand}{r:St×List PI}(hr:Be C S dst T l c=some r){o:Oper}(hd:o.dst=some dst)(ho:o.op=.makeSlice T l c):bP C w0 σ0 Φ S ρ A a w o r:=by
 unfold Be at hr;split at hr
 case h_2=>cases hr
 rename_i E k1 n k2 m hT hl hc;simp only[ao] at hr;obtain⟨e,he,hr⟩:=hr;cases hf:p5 C.P E e<;>simp only[hf,cond_true,cond_false] at hr
 ·cases hr
 obtain⟨inf,z0,hi,hs,hb,h1,hz,lY⟩:=KX hf;simp only[ao] at hr;obtain⟨z,hzt,hr⟩:=hr;cases bI:Ty.sub z.1 e<;>simp only[bI,cond_true,cond_false] at hr
 ·cases hr
 cases hr;obtain⟨n1,aL,ba,b1,b2⟩:=(cl h hC rfl hl).int_inv;obtain⟨n2,gS,eg,b3,b4⟩:=(cl h hC rfl hc).int_inv;simp only at ba eg;have CO:=((wY (cap:=C.cap) (σ:=σ) hzt lY).1).sub bI;refine bP.value hd fun ρ' af=>?_;simp only[PI.runs,PI.run,ao] at af;obtain⟨ρ1,g1,ρ2,g2,af⟩:=af;cases c1:((Nm n).ev ρ).b<;>simp only[c1,cond_true,cond_false] at g1
 ·cases g1
 cases g1;cases c2:((PE.ci BinOp.eql n m).ev ρ).b<;>simp only[c2,cond_true,cond_false] at g2
 ·cases g2
 cases g2;have agy:n1=n2:=by simpa [PE.ev,ba,eg,D.i_int,D.b_bool,iQ] using c2
 subst agy;have hb:0≤n1∧n1≤mU:=by simpa [Nm,PE.ev,ba,D.i_int,D.b_bool,iQ,D.int] using c1
 obtain⟨nn,rfl⟩:=uR hb.1;have Ci:nn≤4294967296:=by have:=hb.2;unfold mU at this;omega
 have rM:z0.cells.size=e.size:=RO lY;obtain⟨w',r1,r2,r3⟩:=run_make_full (P:=C.P) w w0.heap.size T E inf z0 e.size hT hi hz hs k1 k2 nn (by
  have:inf.bytes*nn≤v8*4294967296:=Nat.mul_le_mul (by assumption) Ci;unfold v8 at this;omega) (by unfold maxLen;omega) h.below.size
 refine⟨.slice (some ⟨w.heap.size,0,none⟩) nn nn,w',by simp[execOp,ho,aL,gS,r1],?_⟩;obtain⟨ρ3,g3,ρ4,g4,g5⟩:=af;cases g3;cases g4;cases g5;simp only[PE.ev,ba,D.i_int,uS];have hlen:(List.replicate nn z.2).length=nn:=by simp
 refine h.mkObj ht ae (.row E e) _ _ (fun k=>Nat.beq k w.heap.size) (T4 r3 (aU _) (by simp)) (fun k hk=>?_) ⟨_,List.replicate nn z.2,by simp[Env.setO,aG],by rw[aG,hlen];exact r2,⟨fun _=>z0,fun i x hx=>?_,fun i j u hi hj=>?_⟩,fun k hk=>?_⟩
 ·have bU:k=w.heap.size:=au hk;have:=(r2.lt _ rfl).2;subst bU;exact⟨aU _,this⟩
 ·have:=(dZ.1 hx)
  obtain⟨q1,q2⟩:=this;simp at q2;subst q2;exact CO
 ·rw[hlen] at hi;have bp:j<z0.cells.size:=(dy.1 hj).1;rw[wZ,←rM];rw[Wl (by omega) hi bp];exact hj
 ·rw[aG] at hk;simp[Value.ownBlock] at hk;simp[fD,hk]
theorem mA.push {arr:Array MapEntry}{clock:Nat}(h:mA arr clock)(k v:Value):mA (arr.push {key:=k,val:=v,born:=clock}) (clock+1):=by
 have key:∀(i:Nat) (e:MapEntry),(arr.push {key:=k,val:=v,born:=clock})[i]?=some e→(arr[i]?=some e∧e.born<clock)∨(i=arr.size∧e.born=clock):=by
  intro i e he;rw[Array.getElem?_push] at he;split at he
  ·rename_i hi;cases he;exact .inr ⟨hi,rfl⟩
  ·exact .inl ⟨he,h.1 i e he⟩
 refine⟨fun i e he=>?_,fun i j e f he hf hb=>?_⟩
 ·rcases key i e he with⟨_,h1⟩|⟨_,h1⟩<;>omega
 ·rcases key i e he with⟨h1,h2⟩|⟨h1,h2⟩<;>rcases key j f hf with⟨h3,h4⟩|⟨h3,h4⟩
  ·exact h.2 i j e f h1 h3 hb
  ·omega
  ·omega
  ·omega
theorem mA.modify {arr:Array MapEntry}{clock:Nat}(h:mA arr clock)(i0:Nat)(k v:Value):mA (arr.modify i0 fun e=>{e with key:=k,val:=v}) clock:=by
 have key:∀(i:Nat) (e:MapEntry),(arr.modify i0 fun e=>{e with key:=k,val:=v})[i]?=some e→∃e',arr[i]?=some e'∧e'.born=e.born:=by
  intro i e he;rw[dj] at he;split at he
  ·simp only[av] at he;obtain⟨e',h1,rfl⟩:=he;exact⟨e',h1,rfl⟩
  ·exact⟨e,he,rfl⟩
 refine⟨fun i e he=>?_,fun i j e f he hf hb=>?_⟩
 ·obtain⟨e',h1,h2⟩:=key i e he;rw[←h2];exact h.1 i e' h1
 ·obtain⟨e',h1,h2⟩:=key i e he;obtain⟨f',h3,h4⟩:=key j f hf;exact h.2 i j e' f' h1 h3 (by rw[h2,h4,hb])
theorem Tt (h:Inv C S ρ σ own hv w0 σ0 A a w)(hC:CtxOK C σ0){T:TypeId}{m k v:Operand}{r:St×List PI}(hr:q7 C S T m k v=some r){o:Oper}(hd:o.dst=none)(ho:o.op=.mapUpdate T m k v∨o.op=.insert T m k v):bP C w0 σ0 Φ S ρ A a w o r:=by
 unfold q7 at hr;split at hr
 case h_2=>cases hr
 rename_i K E j ver hT es;obtain⟨dU,_⟩:=qF h (gs:=[]) rfl m;rw[es] at dU;cases hb:Nat.beq ver (S.ver j)<;>simp only[hb,cond_true,cond_false] at hr
 ·cases hr
 have cj:=dU.2 (au hb);have aV:=h.objs j;split at hr
 case h_2=>cases hr
 rename_i kt et tk ek tv ev eo hk vX;rw[eo] at aV;cases hc:(Ty.beq tk kt&&tL C.P K kt&&Ty.sub tv et)<;>simp only[hc,cond_true,cond_false] at hr
 ·cases hr
 cases hr;simp only[aj] at hc;obtain⟨⟨GY,B9⟩,bI⟩:=hc;obtain⟨g,arr,clock,ds,h1,h2,h3,h4,h5,⟨h6,qa⟩,h7⟩:=aV;have bU:=cl h hC rfl hk;rw[Ty.beq_eq _ _ GY] at bU;have hv':=(cl h hC rfl vX).sub bI;refine bP.skip hd fun ρ' af=>?_;simp only[PI.runs,PI.run,ao] at af;obtain⟨ρ1,g1,ρ2,g2,g3⟩:=af;cases c1:((PE.ci BinOp.lss (.mlen (.o j)) (.con (.int mU))).ev ρ).b<;>simp only[c1,cond_true,cond_false] at g1
 ·cases g1
 cases g1;cases g2;cases g3;have agm:ds.length<4294967296:=by
  have h8:=abQ c1;simp only[PE.ev,h4,D.m,D.i_int,D.int] at h8;exact ah5 h8
 have ru:(Instr.checkKey false 10000 K (a.eval k)).run C.P w=.ok () w:=Tb (cap:=C.cap) (σ:=σ) B9 bU;have eJ:∃sN x9 ds',(Instr.mapUpdate T (a.eval m) (a.eval k) (a.eval v)).run C.P w=.ok () {w with heap:=w.heap.setIfInBounds g (.map sN x9)}∧kL (ek.ev ρ) (ev.ev ρ) ds=ds'∧ds'.length=sN.size∧(ds'.length≤maxLen∧mA sN x9)∧
  ∀(i:Nat) (e:MapEntry) (p:D×D),sN[i]?=some e→ds'[i]?=some p→Rep C.cap σ kt e.key p.1∧Rep C.cap σ et e.val p.2:=by
  rcases run_findKey B9 bU arr ds h5 h7 w with⟨f1,f2,f3⟩|⟨i,e,p,f1,f2,f3,f4,f5,f6⟩
  ·refine⟨arr.push {key:=a.eval k,val:=a.eval v,born:=clock},clock+1,ds++[(ek.ev ρ,ev.ev ρ)],?_,f3 _,by simp[h5],⟨by simp;unfold maxLen;omega,qa.push _ _⟩,fun q e p he hp=>?_⟩
   ·rw[cj,h1];simp[Instr.mapUpdate,run_underlying hT,getObj,Sem.run,h3,ru,f1,setObj]
   ·rw[Array.getElem?_push] at he;rw[lH] at hp;by_cases hq:q=arr.size
    ·subst hq;simp at he;rw[if_neg (by omega)] at hp;simp[h5] at hp;subst he;subst hp;exact⟨bU,hv'⟩
    ·rw[if_neg hq] at he;have Hf:q<arr.size:=(dy.1 he).1;rw[if_pos (by omega)] at hp;exact h7 q e p he hp
  ·refine⟨arr.modify i fun e=>{e with key:=a.eval k,val:=a.eval v},clock,ds.set i (ek.ev ρ,ev.ev ρ),?_,f5 _,by simp[h5],⟨by simp;exact h6,qa.modify _ _ _⟩,fun q e' p' he hp=>?_⟩
   ·rw[cj,h1];have bX:(Instr.keyThatStays e.key (a.eval k)).run C.P w=.ok (a.eval k) w:=by simp[Instr.keyThatStays,f6]
    simp[Instr.mapUpdate,run_underlying hT,getObj,Sem.run,h3,ru,f3,f1,bX,setObj]
   ·rw[dj] at he;rw[sC] at hp;by_cases hq:i=q
    ·subst hq;simp only[if_true] at he hp;rw[f1] at he;simp at he;split at hp
     ·cases hp;subst he;exact⟨bU,hv'⟩
     ·cases hp
    ·rw[if_neg hq] at he hp;exact h7 q e' p' he hp
 obtain⟨sN,x9,ds',r1,r2,r3,r4,r5⟩:=eJ;refine⟨{w with heap:=w.heap.setIfInBounds g (.map sN x9)},by rcases ho with ho|ho<;>simp[execOp,ho,r1],?_⟩;have hgl:g<w.heap.size:=(dy.1 h3).1;have UN:w0.heap.size≤g:=(h.owns g j h2).1;have bD:(PE.put (.o j) ek ev).ev ρ=.map ds':=by simp only[PE.ev,h4,D.m,r2]
 rw[bD]
 have:=h.updB j (.mp kt et) (.map ds') (w':={w with heap:=w.heap.setIfInBounds g (.map sN x9)}) ⟨rfl,rfl,rfl,by simp,fun k hk=>by simp;rw[RS (by omega)]⟩
  (fun k hk az=>by simp;rw[RS (fun e=>az (by rw[←e];exact h2))])
  ⟨g,sN,x9,ds',h1,h2,by simp[hgl],by simp[Env.setO,aG],r3,r4,r5⟩
 have eS:S.setO j (.mp kt et)=S:=St.setO_self eo;rw[eS] at this;exact⟨_,_,_,this⟩
end
end Cx
namespace Cx
open Go Go.RowKit
theorem aov {e:Ty}{z:Value}(h:jo e z=true):e.rowT=true∨e.one=true:=by
 cases e<;>first|exact .inl rfl|exact .inr rfl|(cases z<;>simp[jo,wX] at h)
theorem Rep.cellsOne {cap:Nat→Option CSig}{σ:Im}{t:Ty}{v:Value}{d:D}(h:Rep cap σ t v d)(ht:t.rowT=true∨t.one=true){m:Nat}{u:Value}(hu:v.cells[m]?=some u):u.oneCell'=true:=by
 obtain⟨f1,f2,f3⟩:=h.flat ht;have ae:m<v.cells.size:=(dy.1 hu).1;rw[h.size] at ae;obtain⟨g1,g2⟩:=f3 m _ (bo (by omega:m<t.flat.length));have:=(g2.oneCell g1).2;rw[ej,hu] at this;exact this
theorem adi {cap:Nat→Option CSig}{σ:Im}{e:Ty}{cells:List Value}{xs:List D}(h:eD cap σ e cells xs)(hl:cells.length=xs.length*e.size)(gR:e.rowT=true∨e.one=true):∀u∈cells,u.oneCell'=true:=by
 obtain⟨vs,h1,h2⟩:=h;intro u hu;obtain⟨p,hp,rfl⟩:=gy hu;rw[hl] at hp;have hs:0<e.size:=Nat.pos_of_ne_zero fun e0=>by rw[e0] at hp;simp at hp
 have hi:p/e.size<xs.length:=(Nat.div_lt_iff_lt_mul hs).2 hp;have hq:p%e.size<e.size:=Nat.mod_lt _ hs;have bE:=h1 _ _ (bo hi);have aA:=bE.size;have eH:(vs (p/e.size)).cells[p%e.size]?=some (vs (p/e.size)).cells[p%e.size]:=dX (by omega);have:=h2 _ _ _ hi eH;rw[JP,Nat.div_add_mod] at this;have h3:cells[p]=(vs (p/e.size)).cells[p%e.size]:=by
  have h4:=bo (show p<cells.length by omega);rw[h4] at this;exact EL this
 rw[h3];exact bE.cellsOne gR eH
theorem adh {cap:Nat→Option CSig}{σ:Im}{e:Ty}{c1 c2:List Value}{xs ys:List D}(h:eD cap σ e c1 xs)(k:eD cap σ e c2 ys)(hl:c1.length=xs.length*e.size):eD cap σ e (c1++c2) (xs++ys):=by
 obtain⟨vs,h1,h2⟩:=h;obtain⟨us,k1,k2⟩:=k;refine⟨fun i=>if i<xs.length then vs i else us (i-xs.length),fun i x hx=>?_,fun i j u hi hj=>?_⟩
 ·rw[lH] at hx;split at hx
  ·rename_i ae;simp only[ae,if_true];exact h1 i x hx
  ·rename_i ae;simp only[ae,if_false];exact k1 _ x hx
 ·by_cases ae:i<xs.length
  ·simp only[ae,if_true] at hj;have:=h2 i j u ae hj;rw[kf (dZ.1 this).1];exact this
  ·simp only[ae,if_false] at hj;have cv:i-xs.length<ys.length:=by simp at hi;omega
   have:=k2 _ j u cv hj;have e1:i*e.size=c1.length+(i-xs.length)*e.size:=by rw[hl,←oh];congr 1;omega
   rw[iJ (by omega)];rw[show i*e.size+j-c1.length=(i-xs.length)*e.size+j by omega];exact this
section
variable {C:Ctx} {S:St} {ρ:Env} {σ:Im} {own:Nat→Option Nat} {hv:Nat→Value} {w0:World} {σ0:Base} {A:Nat→Prop} {a:Act} {w:World} {gs:List (Nat×Bool)} {Φ:aR} {dst:Nat}
theorem aoi (h:Inv C S ρ σ own hv w0 σ0 A a w){B:Nat}{e f:Ty}{v:Value}{d:D}(hs:0<e.size)(gR:e.rowT=true∨e.one=true)(hf:f.unf=e)(M3:JV C σ w B (.slice f) v d):
 ∃ys,d=.list ys∧ys.length≤maxLen∧((v=.slice none 0 0∧ys=[])∨∃(ad:Addr) (c:Nat) (news:List Value),v=.slice (some ad) ys.length c∧news.length=ys.length*e.size∧
  (∀j u,news[j]?=some u→w.cell? (ad.add j)=some u)∧eD C.cap σ e news ys):=by
 rcases M3 with hr|⟨T,e',cells,xs,ht,hd,aW,iu⟩|⟨k,arr,clock,es,kt,et,ht,_⟩
 ·obtain⟨xs,hd,qd⟩:=hr.slice_inv;rw[←f.unf_size,hf] at qd;rcases qd with⟨⟨p0,aL⟩,rfl⟩|⟨k,o,c,aL,h1,h2,vs,h3,h4⟩
  ·cases p0 with
   |none=>exact⟨[],hd,by simp,.inl ⟨aL,rfl⟩⟩
   |some a0=>exact⟨[],hd,by simp,.inr ⟨a0,0,[],aL,by simp,fun j u hu=>by simp at hu,fun _=>undef,fun i x hx=>by simp at hx,fun i j u hi=>by simp at hi⟩⟩
  ·refine⟨xs,hd,by omega,.inr ⟨⟨k,o,none⟩,c,(List.range (xs.length*e.size)).map fun p=>(vs (p/e.size)).cells.getD (p%e.size) undef,aL,by simp,fun j u hu=>?_,vs,h3,fun i j u hi hj=>?_⟩⟩
   ·simp only[cA,av] at hu;obtain⟨p,hp,rfl⟩:=hu;have fc:j<xs.length*e.size:=by have:=(dZ.1 hp).1;simpa using this
    rw[pM fc] at hp;cases hp;have hi:j/e.size<xs.length:=(Nat.div_lt_iff_lt_mul hs).2 fc;have hq:j%e.size<e.size:=Nat.mod_lt _ hs;have bE:=h3 _ _ (bo hi);have aA:=bE.size;have eH:(vs (j/e.size)).cells[j%e.size]?=some ((vs (j/e.size)).cells.getD (j%e.size) undef):=by
     rw[ej,dX (by omega)];rfl
    have:=h.cell (h4 _ _ _ hi eH);rw[qX]
    rwa [show o+j/e.size*e.size+j%e.size=o+j by rw[sI,JP,Nat.div_add_mod]] at this
   ·have bE:=h3 _ _ (bo hi);have bp:j<e.size:=by rw[←bE.size];exact(dy.1 hj).1
    have ae:i*e.size+j<xs.length*e.size:=by
     have:(i+1)*e.size≤xs.length*e.size:=mC _ hi;rw[oh] at this;omega
    have e1:(i*e.size+j)/e.size=i:=by rw[JP,Nat.mul_add_div hs,Nat.div_eq_of_lt bp];omega
    have e2:(i*e.size+j)%e.size=j:=by rw[Ax,aaE,Nat.mod_eq_of_lt bp]
    simp only[cA,pM ae,kg,e1,e2];rw[ej,hj];rfl
 ·cases ht;rw[Ty.unf_rol] at hf;obtain⟨b,c,aL,hm,_⟩:=wD aW;have iu:eD C.cap σ e cells xs:=by
   obtain⟨us,u1,u2⟩:=iu;refine⟨us,fun i x hx=>hf▸(u1 i x hx).unf,fun i j u hi hu=>?_⟩;rw[←hf,Ty.unf_size];exact u2 i j u hi hu
  have aW:w.ownsRow B T e.size v xs.length cells:=by rw[←hf,Ty.unf_size];exact aW
  rcases aW.2 with⟨e1,e2⟩|⟨g,cap,cur,e1,e2⟩
  ·have:xs=[]:=JB e2;subst this;exact⟨[],hd,by simp,.inl ⟨e1,rfl⟩⟩
  ·exact⟨xs,hd,hm,.inr ⟨⟨g,0,none⟩,cap,cells,e1,aW.1,aW.cells (by rw[e1];rfl),iu⟩⟩
 ·cases ht
theorem alE {P:Program}{B:Nat}{T E ty:TypeId}{inf:TypeInfo}{z:Value}{size:Nat}{v x:Value}{n m:Nat}{xs news:List Value}(hT:P.underlying T=some (.slice E))(hi:P.info? E=some inf)(hz:inf.zero=some z)
 (hs:inf.size=size) (rM:z.cells.size=size) (aA:0<size) (oE:inf.bytes≤v8) (aW:w.ownsRow B E size v n xs) (hB:B≤w.heap.size) (cY:n+m≤4294967296)
 (hx:(x=.slice none 0 0∧m=0∧news=[])∨∃(ad:Addr) (c:Nat),x=.slice (some ad) m c∧news.length=m*size∧(∀j u,news[j]?=some u→w.cell? (ad.add j)=some u)∧∀u∈news,u.oneCell'=true):
 ∃v' w',(Builtin.append_ #[T,T] ty #[v,x]).run P w=.ok v' w'∧w'.ownsRow B E size v' (n+m) (xs++news)∧w.grownBy w' v.ownBlock∧∀k,v'.ownBlock=some k→v.ownBlock=some k∨(w.heap.size≤k∧k<w'.heap.size):=by
 rcases hx with⟨rfl,rfl,rfl⟩|⟨ad,c,rfl,hl,G8,h1⟩
 ·refine⟨v,w,run_append_owned_none w B T ty E inf size hT hi v n xs aW,by simpa using aW,⟨rfl,rfl,rfl,aU _,fun _ _ _=>rfl⟩,fun k hk=>.inl hk⟩
 ·have LM:(n+m)*inf.bytes≤140737488355328:=by
   have:(n+m)*inf.bytes≤4294967296*v8:=Nat.mul_le_mul cY oE;unfold v8 at this;omega
  obtain⟨v',w',r1,r2,r3,r4⟩:=run_append_own (P:=P) w B T ty E inf z size inf.bytes hT hi hz hs rfl rM aA v n xs aW ad m c news hl G8 h1 (by unfold maxLen;omega) LM hB;refine⟨v',w',r1,r2,r3,fun k hk=>?_⟩;have ae:=(r2.lt k hk).2;subst hs;rcases aW.2 with⟨rfl,rfl⟩|⟨g,cap,cur,rfl,hbg,hg,cX,yH,dA,Vr⟩
  ·by_cases hm:m=0
   ·subst hm;have:=r4.2 ⟨rfl,rfl⟩;subst this;simp[Value.ownBlock] at hk
   ·have hr:=run_append_nil (P:=P) w T ty E inf z hT hi hz ad m c news hl G8 (by omega) (by omega) (by have hb:=LM;simp only[eW] at hb;omega);rw[hr] at r1;cases r1;simp[Value.ownBlock] at hk;subst hk;exact .inr ⟨aU _,ae⟩
  ·by_cases Cz:n+m≤cap
   ·have yK:n*inf.size+news.length≤cur.size:=by rw[hl,dA,←oh];exact mC _ Cz
    have hr:=run_append_room (P:=P) w T ty E inf hT hi g n cap cur hg ad m c news hl G8 h1 Cz yK;rw[hr] at r1;cases r1;exact .inl hk
   ·have hr:=run_append_grow (P:=P) w T ty E inf z hT hi hz ⟨g,0,none⟩ n cap xs aW.1 (aW.cells (g:=g) rfl) ad m c news hl G8 (by omega) (by omega) (growslice_fits (by omega) LM);rw[hr] at r1;cases r1;simp[Value.ownBlock] at hk;subst hk;exact .inr ⟨aU _,ae⟩
theorem acx (h:Inv C S ρ σ own hv w0 σ0 A a w)(hC:CtxOK C σ0)(ht:¬A dst)(ae:dst<a.tmps.size){T:TypeId}{s x:Operand}{r:St×List PI}(hr:A7 C S dst T s x=some r){o:Oper}(hd:o.dst=some dst)
 (ho:o.op=.call {callee:=.builtin .append,args:=#[s,x],argTypes:=#[T,T]}):bP C w0 σ0 Φ S ρ A a w o r:=by
 unfold A7 at hr;split at hr
 case h_2=>cases hr
 rename_i E hT;simp only[ao] at hr;obtain⟨e,he,hr⟩:=hr;split at hr
 case h_2=>cases hr
 rename_i tx ex M3;have hv':=RK h hC (gs:=[]) rfl M3;obtain⟨cs,af⟩:=PG (C:=C) (w:=w) (a:=a) ho;cases hc:(p5 C.P E e&&Jd tx e)<;>simp only[hc,cond_true,cond_false] at hr
 ·cases hr
 simp only[aj] at hc;obtain⟨inf,z,hi,hs,oE,h1,hz,lY⟩:=KX hc.1;have rM:=RO lY;have gR:=aov lY;have tG:∃f:Ty,f.unf=e∧JV C σ w w0.heap.size (.slice f) (a.eval x) (ex.ev ρ):=by
  have bX:=hc.2;unfold Jd at bX;split at bX
  ·exact⟨_,Ty.beq_eq _ _ bX,hv'⟩
  ·refine⟨e,Ty.unf_ro gR,?_⟩;rcases hv' with hr|⟨_,_,_,_,ht,_⟩|⟨_,_,_,_,_,_,ht,_⟩
   ·exact .inl (hr.sub (by simp[Ty.sub]))
   ·cases ht
   ·cases ht
  ·cases bX
 obtain⟨fv,eP,tG⟩:=tG;obtain⟨ys,GL,lX,CD⟩:=aoi h h1 gR eP tG;have hx:∃news,eD C.cap σ e news ys∧news.length=ys.length*e.size∧((a.eval x=.slice none 0 0∧ys.length=0∧news=[])∨∃(ad:Addr) (c:Nat),a.eval x=.slice (some ad) ys.length c∧news.length=ys.length*e.size∧(∀j u,news[j]?=some u→w.cell? (ad.add j)=some u)∧∀u∈news,u.oneCell'=true):=by
  rcases CD with⟨e1,rfl⟩|⟨ad,c,news,e1,e2,e3,e4⟩
  ·exact⟨[],⟨fun _=>undef,by simp,by simp⟩,by simp,.inl ⟨e1,rfl,rfl⟩⟩
  ·exact⟨news,e4,e2,.inr ⟨ad,c,e1,e2,e3,adi e4 e2 gR⟩⟩
 obtain⟨news,az,U9,hx⟩:=hx;have main:∀(j:Nat) (v:Value) (xs:List D) (cells:List Value),a.eval s=v→w.ownsRow w0.heap.size E e.size v xs.length cells→eD C.cap σ e cells xs→xs.length+ys.length≤4294967296→
  (∀k,v.ownBlock=some k→own k=some j)→
  ∃v' w',(execOp a.eval o).run C.P w=.ok (.value v') w'∧Good C w0 σ0 ((S.newO j (.row E e)).setR dst (.obj j (S.ver j+1))) ((ρ.setO j (.list (xs++ys))).setR dst .none) (fun u=>A u∨u=dst) (a.put (some dst) v') w':=by
  intro j v xs cells MR aW iu hlen cI;obtain⟨v',w',r1,r2,r3,r4⟩:=alE (P:=C.P) (ty:=o.type) hT hi hz hs rM h1 oE aW h.below.size hlen hx;refine⟨v',w',by rw[af];simp[builtin,MR,r1],?_⟩
  have M0:=h.updO j (.row E e) (.list (xs++ys)) v' (fun k=>decide (v'.ownBlock=some k)) (w':=w') (T4 r3 h.below.size (fun k hk=>(h.owns k j (cI k hk)).1)) (fun k hk az=>r3.block k hk (fun e=>az (cI k e.symm))) (fun k hk=>by
        have bU:v'.ownBlock=some k:=by simpa using hk
        rcases r4 k bU with e|e
        ·exact⟨.inl (cI k e),(r2.lt k bU).2⟩
        ·exact⟨.inr e.1,e.2⟩)
   ⟨cells++news,xs++ys,by simp[Env.setO,aG],by rw[aG,iK];exact r2,adh iu az aW.1,fun k hk=>by rw[aG] at hk;simp[fD,hk]⟩
  have h2:=M0.setObj ht (j:=j) (v:=v') (aG _ _ _) ae;have e:(S.newO j (.row E e)).ver j=S.ver j+1:=aG _ _ _;rw[e] at h2;exact⟨_,_,_,h2⟩
 split at hr
 ·rename_i e0 pe0 hu;cases hr;refine bP.value hd fun ρ' nF=>?_;have MS:=cl h hC rfl hu;have MR:a.eval s=.slice none 0 0:=by
   generalize a.eval s=v at MS;generalize pe0.ev ρ=d at MS;cases MS;rfl
  simp only[PI.runs,PI.run,ao] at nF;obtain⟨ρ1,g1,ρ2,g2,ρ3,g3,g4⟩:=nF;cases c1:((Hw (.con (.list [])) ex).ev ρ).b<;>simp only[c1,cond_true,cond_false] at g1
  ·cases g1
  cases g1;cases g2;cases g3;cases g4;have hlen:=Tc c1;simp only[PE.ev,D.l_list,GL,qT,D.i_int,D.int] at hlen;have:=main dst (.slice none 0 0) [] [] MR (World.ownsRow_nil _ _ _ _) ⟨fun _=>undef,by simp,by simp⟩ (by simpa using V2 hlen) (by simp[Value.ownBlock]);simpa [PE.ev,D.l_list,GL,mkObj] using this
 ·cases hr
 ·obtain⟨dU,_⟩:=qF h (gs:=[]) rfl s;split at hr
  case h_2=>cases hr
  rename_i j ver es;rw[es] at dU;cases hb:Nat.beq ver (S.ver j)<;>simp only[hb,cond_true,cond_false] at hr
  ·cases hr
  have cj:=dU.2 (au hb);have aV:=h.objs j;split at hr
  case h_2=>cases hr
  rename_i E' e' eo;rw[eo] at aV;cases gD:(Nat.beq E' E&&Ty.beq e' e)<;>simp only[gD,cond_true,cond_false] at hr
  ·cases hr
  cases hr;simp only[aj] at gD;have e1:=au gD.1;have e2:=Ty.beq_eq _ _ gD.2;subst e1;subst e2;obtain⟨cells,xs,k1,k2,k3,k4⟩:=aV;refine bP.value hd fun ρ' nF=>?_;simp only[PI.runs,PI.run,ao] at nF;obtain⟨ρ1,g1,ρ2,g2,ρ3,g3,g4⟩:=nF;cases c1:((Hw (.o j) ex).ev ρ).b<;>simp only[c1,cond_true,cond_false] at g1
  ·cases g1
  cases g1;cases g2;cases g3;cases g4;have hlen:=Tc c1;simp only[PE.ev,D.l_list,GL,k1,D.i_int,D.int] at hlen;have:=main j (hv j) xs cells cj k2 k3 (by have:=V2 hlen;simpa using this) k4;simpa [PE.ev,D.l_list,GL,k1] using this
end
end Cx
namespace Cx
open Go Go.RowKit
theorem D8 {P:Program}{a:Act}{w:World}{o:Oper}{T:TypeId}{x v:Operand}{inf:TypeInfo}{k off:Nat}{cs:Array Value}{E:TypeId}(ho:o.op=.store T x v)(hi:P.info? T=some inf)(hx:a.eval x=.pointer (some ⟨k,off,none⟩))
 (hs:(a.eval v).cells.size=inf.size) (dh:∀u∈(a.eval v).cells.toList,u.oneCell'=true) (hb:w.heap[k]?=some (.cells cs E (0,0))) (hle:off+inf.size≤cs.size):
 (execOp a.eval o).run P w=.ok .skip (w.setRow k (cs.toList.take off++(a.eval v).cells.toList++cs.toList.drop (off+inf.size)).toArray):=by
 have:=run_storeCells_at P k off E (a.eval v).cells.toList 0 cs w hb (by simp[hs];exact hle) dh;simp only[gK,qM,hs] at this;simp[execOp,ho,Instr.storeAt,hx,Instr.sureAddr,storeVar,Go.sizeOf,run_typeInfo w hi,hs,this]
theorem ZK {w:World}{B k:Nat}{cs:Array Value}(hB:B≤k):Below B w (w.setRow k cs)∧∀i,i≠k→(w.setRow k cs).heap[i]?=w.heap[i]?:=
 ⟨⟨rfl,rfl,rfl,by simp[World.setRow],fun i hi=>setRow_other w k i cs (by omega)⟩,fun i hi=>setRow_other w k i cs hi⟩
theorem Gj {α:Type}(xs ys:List α)(off:Nat)(d:α)(hle:off+ys.length≤xs.length)(i:Nat):(xs.take off++ys++xs.drop (off+ys.length)).getD i d=if off≤i∧i<off+ys.length then ys.getD (i-off) d else xs.getD i d:=by
 simp only[aF,jq];rw[lH,db,iM (by omega)];split
 ·rename_i h;rw[if_neg (by omega),dm,if_pos h]
 ·rename_i h;rw[lH];split
  ·rename_i h2;rw[if_pos (by omega)]
  ·rename_i h2;rw[if_neg (by omega),dN];congr 2;omega
section
variable {C:Ctx} {S:St} {ρ:Env} {σ:Im} {own:Nat→Option Nat} {hv:Nat→Value} {w0:World} {σ0:Base} {A:Nat→Prop} {a:Act} {w:World} {gs:List (Nat×Bool)} {Φ:aR} {dst:Nat}
theorem Inv.storeBox (h:Inv C S ρ σ own hv w0 σ0 A a w){j k off:Nat}{ag:Bool}{shs news:List Sh}{cs:Array Value}{E:TypeId}{ds dn:List D}{vs:List Value}(eo:S.o j=.box ag shs)
 (h1:hv j=.pointer (some ⟨k,0,none⟩)) (h2:own k=some j) (h3:w.heap[k]?=some (.cells cs E (0,0))) (h4:cs.size=shs.length) (h5:ρ.o j=.agg ds) (h6:ds.length=shs.length)
 (h7:∀i s,shs[i]?=some s→(∀gs s',s≠.opt gs s')∧aC C S ρ σ hv s (cs.getD i undef) (ds.getD i .none))
 (l1:news.length=vs.length) (l2:dn.length=vs.length) (hle:off+vs.length≤shs.length)
 (lj:∀i s,news[i]?=some s→(∀gs s',s≠.opt gs s')∧aC C S ρ σ hv s (vs.getD i undef) (dn.getD i .none)):
 Inv C (S.setO j (.box ag (shs.take off++news++shs.drop (off+vs.length)))) (ρ.setO j (.agg (eM ds off dn))) σ own hv w0 σ0 A a (w.setRow k (cs.toList.take off++vs++cs.toList.drop (off+vs.length)).toArray):=by
 have hkB:w0.heap.size≤k:=(h.owns k j h2).1;obtain⟨b1,b2⟩:=ZK (w:=w) (B:=w0.heap.size) (k:=k) (cs:=(cs.toList.take off++vs++cs.toList.drop (off+vs.length)).toArray) hkB;refine h.updB j _ _ b1 (fun i hi az=>b2 i fun e=>az (e▸h2)) ⟨k,_,E,eM ds off dn,h1,h2,setRow_heap w k cs _ E _ h3,?_,by simp[Env.setO,aG],?_,fun i s hi=>?_⟩
 ·simp[l1];omega
 ·simp[eM,l2,l1];omega
 ·have dA:(cs.toList.take off++vs++cs.toList.drop (off+vs.length)).toArray.getD i undef=if off≤i∧i<off+vs.length then vs.getD (i-off) undef else cs.getD i undef:=by
   have e0:∀l:List Value,l.toArray.getD i undef=l.getD i undef:=fun l=>by simp[ej,aF]
   rw[e0,Gj cs.toList vs off undef (by simp;omega),yw cs i]
  have vB:(eM ds off dn).getD i .none=if off≤i∧i<off+vs.length then dn.getD (i-off) .none else ds.getD i .none:=by
   rw[eM,Gj ds dn off .none (by omega),l2]
  rw[dA,vB];have U4:∀s v d,(∀gs s',s≠.opt gs s')→aC C S ρ σ hv s v d→aC C (S.setO j (.box ag (shs.take off++news++shs.drop (off+vs.length)))) (ρ.setO j (.agg (eM ds off dn))) σ hv s v d:=
   fun s v d hn hk=>aC.mono' (.refl σ) (Compat.setO _ _ _ _) hn hk
  have eu:(shs.take off++news++shs.drop (off+vs.length))[i]?=if off≤i∧i<off+vs.length then news[i-off]? else shs[i]?:=by
   rw[jq,lH,db,iM (by omega)];split
   ·rename_i h;rw[if_neg (by omega),dm,if_pos h]
   ·rename_i h;rw[lH,l1];split
    ·rename_i h2;rw[if_pos (by omega)]
    ·rename_i h2;rw[if_neg (by omega),dN];congr 1;omega
  rw[eu] at hi;split
  ·rename_i hc;rw[if_pos hc] at hi;obtain⟨g1,g2⟩:=lj _ s hi;exact⟨g1,U4 _ _ _ g1 g2⟩
  ·rename_i hc;rw[if_neg hc] at hi;obtain⟨g1,g2⟩:=h7 _ s hi;exact⟨g1,U4 _ _ _ g1 g2⟩
theorem Zw (h:Inv C S ρ σ own hv w0 σ0 A a w){j:Nat}(hr:kG (S.o j)=true):(hv j).cells=#[hv j]∧(hv j).oneCell'=true:=by
 have aV:=h.objs j;cases cI:S.o j with
 |row T e=>
  rw[cI] at aV;obtain⟨cells,xs,h1,h2,h3,h4⟩:=aV;obtain⟨b,c,e1,_⟩:=wD h2;rw[e1];exact⟨rfl,rfl⟩
 |mp kt et=>
  rw[cI] at aV;obtain⟨k0,arr,clock,es,h1,_⟩:=aV;rw[h1];exact⟨rfl,rfl⟩
 |_=>rw[cI] at hr;simp[kG] at hr
theorem Inv.storeRow (h:Inv C S ρ σ own hv w0 σ0 A a w){j k n c i p:Nat}{T:TypeId}{e:Ty}{cells vs:List Value}{xs:List D}{v':Value}{d':D}(eo:S.o j=.row T e)(eQ:hv j=.slice (some ⟨k,0,none⟩) n c)
 (h1:ρ.o j=.list xs) (h2:w.ownsRow w0.heap.size T e.size (hv j) xs.length cells) (h3:eD C.cap σ e cells xs) (h4:∀k,(hv j).ownBlock=some k→own k=some j) (hi:i<xs.length)
 (Cp:i*e.size≤p) (fw:p+vs.length≤i*e.size+e.size) (hr:Rep C.cap σ e v' d')
 (hv':∀q u,v'.cells[q]?=some u→(cells.take p++vs++cells.drop (p+vs.length))[i*e.size+q]?=some u):
 ∃cur,w.heap[k]?=some (.cells cur T (0,0))∧p+vs.length≤cur.size∧Inv C S (ρ.setO j (.list (xs.set i d'))) σ own hv w0 σ0 A a (w.setRow k (cur.toList.take p++vs++cur.toList.drop (p+vs.length)).toArray):=by
 have aP:=h2.1;rcases h2.2 with⟨e0,e1⟩|⟨g,cap,cur,e1,e2,e3,e4,e5,e6,e7⟩
 ·omega
 rw[eQ] at e1;cases e1;have age:i*e.size+e.size≤xs.length*e.size:=by
  have:(i+1)*e.size≤xs.length*e.size:=mC _ hi;rw[oh] at this;omega
 have asD:xs.length*e.size≤c*e.size:=mC _ e4;have agX:p+vs.length≤cur.size:=by omega
 refine⟨cur,e3,agX,?_⟩;have aW:own k=some j:=h4 k (by rw[eQ];rfl);obtain⟨b1,b2⟩:=ZK (w:=w) (B:=w0.heap.size) (k:=k) (cs:=(cur.toList.take p++vs++cur.toList.drop (p+vs.length)).toArray) e2;have Vr:(cur.toList.take p++vs++cur.toList.drop (p+vs.length)).take (xs.length*e.size)=cells.take p++vs++cells.drop (p+vs.length):=by
  rw[←e7];apply JC;intro q;simp only[jq,dm,lH,db,dN,qM];by_cases hq:q<xs.length*e.size
  ·rw[if_pos hq];by_cases hq1:q<p
   ·simp[hq1,Nat.lt_min,show q<cur.size by omega,hq]
   ·by_cases iZ:q-p<vs.length
    ·rw[if_neg (by omega),iM (by omega),if_pos iZ,if_neg (by omega),iM (by omega),if_pos iZ]
    ·rw[if_neg (by omega),iM (by omega),if_neg iZ,if_neg (by omega),iM (by omega),if_neg iZ,if_pos (by omega)]
  ·rw[if_neg hq];have:¬q<p:=by omega
   rw[if_neg (by omega),iM (by omega),if_neg (by omega),if_neg (by omega)]
 have:=h.updB j (.row T e) (.list (xs.set i d')) b1 (fun q hq az=>b2 q fun e=>az (e▸aW))
  ⟨cells.take p++vs++cells.drop (p+vs.length),xs.set i d',by simp[Env.setO,aG],⟨by simp;omega,.inr ⟨k,c,_,by rw[eQ];simp,e2,setRow_heap w k cur _ T _ e3,by simpa using e4,e5,by simp;omega,by simpa using Vr⟩⟩,?_,h4⟩
 ·rw[St.setO_self eo] at this;exact this
 ·obtain⟨us,u1,u2⟩:=h3;refine⟨fun q=>if q=i then v' else us q,fun q x hx=>?_,fun q m u hq hm=>?_⟩
  ·rw[sC] at hx;by_cases yW:i=q
   ·subst yW;simp only[if_true] at hx ⊢;rw[if_pos hi] at hx;cases hx;exact hr
   ·rw[if_neg yW] at hx;simp only[show ¬q=i from fun e=>yW e.symm,if_false];exact u1 q x hx
  ·by_cases yW:q=i
   ·subst yW;simp only[if_true] at hm;exact hv' m u hm
   ·simp only[yW,if_false] at hm;simp only[JK] at hq;have h9:=u2 q m u hq hm;have asP:m<e.size:=by rw[←(u1 q _ (bo hq)).size];exact(dy.1 hm).1
    have jW:q*e.size+m<p∨p+vs.length≤q*e.size+m:=by
     rcases EJ q i with ae|fq
     ·left;have:(q+1)*e.size≤i*e.size:=mC _ ae;rw[oh] at this;omega
     ·right;have:(i+1)*e.size≤q*e.size:=mC _ (by omega);rw[oh] at this;omega
    rw[jq,lH,db,iM (by omega)];rcases jW with ho|ho
    ·rw[if_pos ho,dm,if_pos ho];exact h9
    ·rw[if_neg (by omega),iJ (by omega),dN];rw[show p+vs.length+(q*e.size+m-p-vs.length)=q*e.size+m by omega];exact h9
theorem ac3 (h:Inv C S ρ σ own hv w0 σ0 A a w)(hC:CtxOK C σ0){T:TypeId}{x v:Operand}{r:St×List PI}(hr:sR C S T x v=some r){o:Oper}(hd:o.dst=none)(ho:o.op=.store T x v):bP C w0 σ0 Φ S ρ A a w o r:=by
 unfold sR at hr;split at hr
 case h_2=>cases hr
 rename_i inf hi;obtain⟨dU,_⟩:=qF h (gs:=[]) rfl x;split at hr
 case h_3=>cases hr
 ·rename_i j ver off es;rw[es] at dU;cases hb:Nat.beq ver (S.ver j)<;>simp only[hb,cond_true,cond_false] at hr
  ·cases hr
  obtain⟨k,eQ,fI⟩:=dU.2 (au hb);have aV:=h.objs j;split at hr
  case h_2=>cases hr
  rename_i ag shs eo;rw[eo] at aV;obtain⟨k',cs,E,ds,h1,h2,h3,h4,h5,h6,h7⟩:=aV;have dq:=h1;rw[eQ] at h1;cases h1;split at hr
  ·rename_i t e hu;have hv':=cl h hC rfl hu;cases hc:(Nat.beq inf.size t.size&&(t.rowT||t.one)&&Nat.ble (off+t.size) shs.length)<;>simp only[hc,cond_true,cond_false] at hr
   ·cases hr
   cases hr;simp only[aj,gw] at hc;obtain⟨⟨aA,gR⟩,hle⟩:=hc;have aA:=au aA;have hle:=jP hle;obtain⟨f1,f2,f3⟩:=hv'.flat gR;have cr:=hv'.size;refine bP.skip hd fun ρ' af=>?_;rw[qC af]
   refine⟨_,D8 ho hi fI (by rw[cr,aA]) (fun u hu=>by
        obtain⟨m,hm,rfl⟩:=gy hu;exact hv'.cellsOne gR (m:=m) (by simp at hm ⊢)) h3 (by omega),?_⟩
   have bX:=h.storeBox (off:=off) (news:=t.flat.map .dat) (vs:=(a.eval v).cells.toList) (dn:=(e.ev ρ).cells) eo dq h2 h3 h4 h5 h6 h7 (by simp[f1,cr]) (by simp[f2,cr]) (by simp[cr];omega) (fun i s hi=>by
        simp only[cA,av] at hi;obtain⟨ti,CF,rfl⟩:=hi;refine⟨fun _ _ e=>(by cases e),?_⟩;rw[yw];exact(f3 i ti CF).2)
   have e1:(a.eval v).cells.toList.length=t.size:=by simp[cr]
   rw[e1] at bX;rw[aA];refine⟨σ,own,hv,?_⟩;simpa [PE.ev,h5,D.cells] using bX
  ·split at hr
   case h_3=>cases hr
   case h_2=>
        rename_i l fH;obtain⟨yY,_⟩:=qF h (gs:=[]) rfl v;rw[fH] at yY;obtain⟨vs,ds',q1,q2,q3,q4,q5⟩:=yY;cases hc:(Nat.beq inf.size l.length&&Nat.ble (off+l.length) shs.length&&l.all (Lm S))<;>simp only[hc,cond_true,cond_false] at hr
        ·cases hr
        cases hr;simp only[aj] at hc;obtain⟨⟨aA,hle⟩,cW⟩:=hc;have aA:=au aA;have hle:=jP hle;have ir:(a.eval v).cells.toList=vs:=by rw[q1];simp[Value.cells]
        have dA:(a.eval v).cells.size=vs.length:=by rw[←ir];simp
        have dh:∀u∈(a.eval v).cells.toList,u.oneCell'=true:=fun u hu=>by
         rw[ir] at hu;obtain⟨i,hi,rfl⟩:=gy hu;have vF:i<l.length:=by omega
         have g:=q5 i l[i] (bo vF);have hf:=bz.1 cW l[i] (ec vF);have L2:vs.getD i undef=vs[i]:=by simp[aF,hi]
         rw[L2] at g;generalize l[i]=c at g hf;cases c with
         |dat t=>exact(g.2.oneCell g.1).2
         |obj j' mw=>
          simp only[Lm,aj] at hf;rw[g.2 (au hf.1)];exact(Zw h hf.2).2
        refine bP.skip hd fun ρ' af=>?_;rw[qC af];refine⟨_,D8 ho hi fI (by omega) dh h3 (by omega),?_⟩
        have bX:=h.storeBox (off:=off) (news:=l.map AgC.sh) (vs:=vs) (dn:=ds') eo dq h2 h3 h4 h5 h6 h7 (by simp[q3]) (by omega) (by omega) (fun i s hi=>by
         simp only[cA,av] at hi;obtain⟨c,hc,rfl⟩:=hi;have g:=q5 i c hc;cases c with
         |dat t=>exact⟨fun _ _ e=>(by cases e),g.2⟩
         |obj j' mw=>exact⟨fun _ _ e=>(by cases e),g⟩)
        rw[ir,aA];have e1:vs.length=l.length:=q3;rw[e1] at bX;refine⟨σ,own,hv,?_⟩;simpa [PE.ev,h5,q2,D.cells] using bX
   rename_i j' mw fH;obtain⟨yY,_⟩:=qF h (gs:=[]) rfl v;rw[fH] at yY;cases hc:(Nat.beq mw (S.ver j')&&kG (S.o j')&&Nat.beq inf.size 1&&Nat.blt off shs.length)<;>simp only[hc,cond_true,cond_false] at hr
   ·cases hr
   cases hr;simp only[aj] at hc;obtain⟨⟨⟨ahC,gl⟩,aA⟩,ae⟩:=hc;have aA:=au aA;have ae:off<shs.length:=by simpa [ia] using ae
   have cj:=yY.2 (au ahC);obtain⟨c1,c2⟩:=Zw h gl;have ir:(a.eval v).cells=#[a.eval v]:=by rw[cj];exact c1
   refine bP.skip hd fun ρ' af=>?_;rw[qC af];refine⟨_,D8 ho hi fI (by rw[ir,aA];rfl) (fun u hu=>by rw[ir] at hu;simp at hu;subst hu;rw[cj];exact c2) h3 (by omega),?_⟩
   have bX:=h.storeBox (off:=off) (news:=[.obj j' mw]) (vs:=[a.eval v]) (dn:=[.none]) eo dq h2 h3 h4 h5 h6 h7 rfl rfl (by simp;omega) (fun i s hi=>by
        match i,hi with
        |0,hi=>simp at hi;subst hi;exact⟨fun _ _ e=>(by cases e),yY.1,fun _=>by simpa using cj⟩
        |i+1,hi=>simp at hi)
   rw[ir,aA];have e2:shs.take off++[Sh.obj j' mw]++shs.drop (off+[a.eval v].length)=shs.set off (.obj j' mw):=by
        rw[List.set_eq_take_append_cons_drop,if_pos ae];simp
   rw[e2] at bX;refine⟨σ,own,hv,?_⟩;simpa [PE.ev,h5,D.cells] using bX
 ·rename_i j ver size off es;rw[es] at dU;cases hb:Nat.beq ver (S.ver j)<;>simp only[hb,cond_true,cond_false] at hr
  ·cases hr
  obtain⟨k,n,c,ik,i,eQ,th,bl,fI⟩:=dU.2 (au hb);have aV:=h.objs j;split at hr
  ·rename_i T' ts t e eo hu;rw[eo] at aV;have hv':=cl h hC rfl hu;cases hc:(Nat.beq inf.size t.size&&(t.rowT||t.one)&&Nat.beq size ts.length&&Nat.ble (off+t.size) ts.length&&Ty.subs t.flat ((ts.drop off).take t.size))<;>simp only[hc,cond_true,cond_false] at hr
   ·cases hr
   cases hr;simp only[aj,gw] at hc;obtain⟨⟨⟨⟨aA,gR⟩,vT⟩,hle⟩,bI⟩:=hc;have aA:=au aA;have vT:=au vT;have hle:=jP hle;obtain⟨f1,f2,f3⟩:=hv'.flat gR;have cr:=hv'.size;have f1:t.flat.length=t.size:=f1;have f2:(e.ev ρ).cells.length=t.size:=f2;have cr:(a.eval v).cells.size=t.size:=cr;obtain⟨cells,xs,k1,k2,k3,k4⟩:=aV;obtain⟨b,c',e1,Mc,Cd⟩:=wD k2;rw[eQ] at e1;cases e1;obtain⟨us,u1,u2⟩:=k3;obtain⟨y,hy⟩:∃y,xs[i]?=some y:=⟨_,bo bl⟩
   obtain⟨os,ds,tF,hd0,l1,l2,aD,dh⟩:=(u1 i y hy).agg_inv;have CK:(a.eval v).cells.toList.length=t.size:=by simp[cr]
   have lj:Rep C.cap σ (.agg ts) (.agg (os.take off++(a.eval v).cells.toList++os.drop (off+(a.eval v).cells.toList.length)).toArray) (.agg (eM ds off (e.ev ρ).cells)):=by
        refine .agg _ _ _ (by simp[cr];omega) (by simp[eM,f2];omega) (fun m tm hm=>?_) dh;rw[Gj os _ off undef (by rw[CK];omega),eM,Gj ds _ off .none (by rw[f2];omega),CK,f2];split
        ·rename_i hc;have aho:=Ty.subs_get _ _ bI (m-off) tm (by
          rw[dm,if_pos (by omega),dN,show off+(m-off)=m by omega];exact hm)
         obtain⟨tf,htf,bX⟩:=aho;rw[yw];exact((f3 _ tf htf).2).sub bX
        ·exact aD m tm hm
   have aP:=k2.1;have age:i*(Ty.agg ts).size+(Ty.agg ts).size≤xs.length*(Ty.agg ts).size:=by
        have:(i+1)*(Ty.agg ts).size≤xs.length*(Ty.agg ts).size:=mC _ bl;rw[oh] at this;omega
   have Vs:(Ty.agg ts).size=ts.length:=rfl
   obtain⟨cur,q1,q2,q3⟩:=h.storeRow (i:=i) (p:=i*(Ty.agg ts).size+off) (vs:=(a.eval v).cells.toList) eo eQ k1 k2 ⟨us,u1,u2⟩ k4 bl (by omega) (by rw[CK];omega) lj (fun q u hq=>by
        have dK:(os.take off++(a.eval v).cells.toList++os.drop (off+(a.eval v).cells.toList.length))[q]?=some u:=by simpa [Value.cells] using hq
        have asW:q<ts.length:=by have:=(dZ.1 dK).1;simp[cr] at this;omega
        rw[jq,lH,db,iM (by omega)] at dK;rw[jq,lH,db,iM (by omega)];by_cases qk:q<off
        ·rw[if_pos qk,dm,if_pos qk] at dK;rw[if_pos (by omega),dm,if_pos (by omega)];exact u2 i q u bl (by rw[tF];simpa [Value.cells] using dK)
        ·rw[if_neg qk,lH] at dK;rw[if_neg (by omega),lH];rw[show i*(Ty.agg ts).size+q-(i*(Ty.agg ts).size+off)=q-off by omega];by_cases MG:q-off<(a.eval v).cells.toList.length
         ·rw[if_pos MG] at dK ⊢;exact dK
         ·rw[if_neg MG,dN] at dK;rw[if_neg MG,dN];rw[show off+(a.eval v).cells.toList.length+(q-off-(a.eval v).cells.toList.length)=q by omega] at dK;rw[show i*(Ty.agg ts).size+off+(a.eval v).cells.toList.length+(q-off-(a.eval v).cells.toList.length)=i*(Ty.agg ts).size+q by omega];exact u2 i q u bl (by rw[tF];simpa [Value.cells] using dK))
   refine bP.skip hd fun ρ' af=>?_;rw[qC af]
   refine⟨_,D8 ho hi (cs:=cur) (by rw[fI,vT]) (by rw[cr,aA]) (fun u hu=>by
        obtain⟨m,hm,rfl⟩:=gy hu;exact hv'.cellsOne gR (m:=m) (by simp at hm ⊢)) q1 (by rw[CK] at q2;rw[aA,←Vs];exact q2),σ,own,hv,?_⟩
   rw[CK] at q3;simp only[PE.ev,k1,D.l_list,th,D.i_int,uS,rj hy,hd0,uB];rw[aA,←Vs];exact q3
  ·rename_i T' e0 t e az eo hu;rw[eo] at aV;have hv':=cl h hC rfl hu;cases hc:(Nat.beq inf.size 1&&Nat.beq size 1&&Nat.beq off 0&&e0.one&&Ty.sub t e0)<;>simp only[hc,cond_true,cond_false] at hr
   ·cases hr
   cases hr;simp only[aj] at hc;obtain⟨⟨⟨⟨aA,vT⟩,iY⟩,dh⟩,bI⟩:=hc;have aA:=au aA;have vT:=au vT;have iY:=au iY;subst iY;subst vT;have Vv:=hv'.sub bI;obtain⟨c1,c2⟩:=Vv.oneCell dh;have BX:e0.size=1:=by cases e0<;>simp_all [Ty.size,Ty.one]
   obtain⟨cells,xs,k1,k2,k3,k4⟩:=aV;obtain⟨b,c',e1,Mc,Cd⟩:=wD k2;rw[eQ] at e1;cases e1;obtain⟨y,hy⟩:∃y,xs[i]?=some y:=⟨_,bo bl⟩
   have aP:=k2.1
   obtain⟨cur,q1,q2,q3⟩:=h.storeRow (i:=i) (p:=i*e0.size) (vs:=[a.eval v]) eo eQ k1 k2 k3 k4 bl (aU _) (by rw[BX];simp) Vv (fun q u hq=>by
        rw[c1] at hq;have vP:q=0:=by have:=(dy.1 hq).1;simpa using this
        subst vP;simp at hq;subst hq;have:i*e0.size≤cells.length:=by rw[aP];exact mC _ (by omega)
        rw[jq,iJ (by simp;omega)];simp[iM this])
   refine bP.skip hd fun ρ' af=>?_;rw[qC af];refine⟨_,D8 ho hi (cs:=cur) (by rw[fI]) (by rw[c1,aA];rfl) (fun u hu=>by rw[c1] at hu;simp at hu;subst hu;exact c2) q1 (by rw[BX] at q2;rw[aA];simpa using q2),σ,own,hv,?_⟩;rw[c1,aA];have Na:uB y 0 (e.ev ρ)=e.ev ρ:=by
        obtain⟨us,u1,u2⟩:=k3;have:=(u1 i y hy).dcells dh;cases y with
        |agg ds=>have h8:=u1 i _ hy;generalize us i=vv at h8;cases h8;simp[Ty.one] at dh
        |_=>rfl
   simp only[PE.ev,k1,D.l_list,th,D.i_int,uS,rj hy,Na];rw[BX] at q3;simpa using q3
  ·cases hr
end
end Cx
namespace Cx
open Go Go.RowKit
section
variable {C:Ctx} {S:St} {ρ:Env} {σ:Im} {own:Nat→Option Nat} {hv:Nat→Value} {w0:World} {σ0:Base} {A:Nat→Prop} {a:Act} {w:World} {gs:List (Nat×Bool)} {Φ:aR} {dst:Nat}
theorem adq {ρ:Env}{es:List PE}{i:Nat}{e:PE}(h:es[i]?=some e):(PE.evs ρ es)[i]?=some (e.ev ρ):=by
 rw[PE.evs_eq,cA,h];rfl
theorem Tn (h:Inv C S ρ σ own hv w0 σ0 A a w)(hC:CtxOK C σ0)(hg:holds gs ρ=true){T:TypeId}{len:Nat}{ps:Array (Nat×Operand)}{r:St×List PI}(hr:vk C S gs dst T len ps.toList=some r){o:Oper}
 (ho:o.op=.buildSlice T len ps):∃(E:TypeId) (e:Ty) (es:List PE) (v:Value) (w':World),C.P.underlying T=some (.slice E)∧oa C.P E=some e∧r=(mkObj S dst (.row E e),[.setO dst (.lst es),.setR dst (.con .none)])∧
   (execOp a.eval o).run C.P w=.ok (.value v) w'∧Below w.heap.size w w'∧(∀k,Nat.beq k w.heap.size=true→w.heap.size≤k∧k<w'.heap.size)∧
   cn C (S.newO dst (.row E e)) (ρ.setO dst (.list (PE.evs ρ es))) σ (fD own dst (fun k=>Nat.beq k w.heap.size)) (bO hv dst v) w' w0.heap.size dst (.row E e):=by
 unfold vk at hr;split at hr
 case h_2=>cases hr
 rename_i E hT;simp only[ao] at hr;obtain⟨e,he,z,hz,hr⟩:=hr;cases hc:(p5 C.P E e&&Ty.sub z.1 e&&gp (ps.toList.map (·.1))&&ps.toList.all (fun p=>Nat.blt p.1 len)&&Nat.ble (len*e.size) 16777216)<;>simp only[hc,cond_true,cond_false] at hr
 ·cases hr
 simp only[aj] at hc;obtain⟨⟨⟨⟨hef,bI⟩,be⟩,fy⟩,hle⟩:=hc;have hle:=jP hle;obtain⟨inf,zv,hi,hs,oE,h1,hzv,lY⟩:=KX hef;have rM:=RO lY;have jF:=l8 be;have CO:=((wY (cap:=C.cap) (σ:=σ) hz lY).1).sub bI;simp only[av] at hr;obtain⟨es,iW,rfl⟩:=hr;obtain⟨Tw,el2⟩:=mapM_some _ _ _ iW;simp only[EE] at Tw;have UG:∀i,i<len→∃pe,es[i]?=some pe∧F7 C S gs e z.2 ps.toList i=some pe:=by
  intro i hi;obtain⟨y,hy1,rJ⟩:=el2 i i (by rw[pM hi]);exact⟨y,hy1,rJ⟩
 have nE:∀x,x∈ps.toList→x.1<len∧∃t pe,use C S gs x.2=some (t,pe)∧Ty.sub t e=true∧es[x.1]?=some pe:=by
  intro x hx;have vY:x.1<len:=by
   have:=bz.1 fy x hx;simpa [ia] using this
  refine⟨vY,?_⟩;obtain⟨pe,Cp,fw⟩:=UG x.1 vY;have B1:=TJ jF (i:=x.1) (x:=x.2) hx;simp only[F7,B1,ao] at fw;obtain⟨y,hy,fw⟩:=fw;cases hs:Ty.sub y.1 e<;>simp only[hs,cond_true,cond_false] at fw
  ·cases fw
  cases fw;exact⟨y.1,y.2,hy,hs,Cp⟩
 let c0:Array Value:=madeCells zv.cells (len*e.size)
 have oF:c0.size=len*e.size:=size_madeCells _ _
 have jH:∀p,p∈(ps.toList.map fun(x:Nat×Operand)=>(x.1,a.eval x.2))→∃o,(fun i=>some (i*e.size,e.size)) p.1=some (o,p.2.cells.size)∧o+p.2.cells.size≤c0.size:=by
  intro p hp;obtain⟨x,hx,rfl⟩:=eE.1 hp;obtain⟨vY,t,pe,hu,bX,_⟩:=nE x hx;have tE:=((cl h hC hg hu).sub bX).size;simp only;refine⟨x.1*e.size,by rw[tE],?_⟩;rw[tE,oF];have:(x.1+1)*e.size≤len*e.size:=mC _ vY;rw[oh] at this;omega
 have yJ:∀(i j oi si oj sj:Nat),i≠j→(fun i=>some (i*e.size,e.size)) i=some (oi,si)→(fun i=>some (i*e.size,e.size)) j=some (oj,sj)→oi+si≤oj∨oj+sj≤oi:=by
  intro i j oi si oj sj az hi hj;simp only[aO,ng] at hi hj;obtain⟨rfl,rfl⟩:=hi;obtain⟨rfl,rfl⟩:=hj;rcases EJ i j with ae|fq
  ·left;have:(i+1)*e.size≤j*e.size:=mC _ ae;rw[oh] at this;omega
  ·right;have:(j+1)*e.size≤i*e.size:=mC _ (by omega);rw[oh] at this;omega
 obtain⟨dp,f1,f2,f3,f4⟩:=K7 (fun i=>some (i*e.size,e.size)) (ps.toList.map fun(x:Nat×Operand)=>(x.1,a.eval x.2)) c0 jH yJ (by simpa [Ez] using jF);have af:(execOp a.eval o).run C.P w=.ok (.value (.slice (some ⟨w.heap.size,0,none⟩) len len)) (w.alloc (.cells dp E)):=by
  have n1:¬(len*inf.size>2^24):=by rw[hs];omega
  have Gb:Instr.fill (fun i=>some (i*inf.size,inf.size)) c0 (ps.toList.map fun(x:Nat×Operand)=>(x.1,a.eval x.2))=some dp:=by rw[hs];exact f1
  by_cases h0:len*inf.size=0
  ·have yF:c0=#[]:=by
        apply Jy;rw[oF,←hs];exact h0
   rw[yF] at Gb
   have ads:Instr.fill (fun i=>some (i*inf.size,inf.size)) (Array.map (fun _=>default) (Array.range 0)) (ps.toList.map fun(x:Nat×Operand)=>(x.1,a.eval x.2))=some dp:=by
        have:(Array.map (fun _=>(default:Value)) (Array.range 0))=#[]:=by simp
        rw[this];exact Gb
   simp[execOp,ho,Instr.buildSlice,run_underlying hT,Go.sizeOf,run_typeInfo w hi,n1,h0,ads,newRow]
  ·have yF:c0=(Array.range (len*inf.size)).map (fun x=>zv.cells[x%zv.cells.size]!):=by simp only[c0,madeCells,hs]
   rw[yF] at Gb;have h00:¬(len=0∨inf.size=0):=by rw[←Nat.mul_eq_zero];exact h0
   simp[execOp,ho,Instr.buildSlice,run_underlying hT,Go.sizeOf,run_typeInfo w hi,n1,h0,h00,zeroValue,hzv,Gb,newRow]
 refine⟨E,e,es,_,_,hT,he,rfl,af,(Below.refl _ _).alloc (aU _) _,fun k hk=>by simp at hk;simp;omega,?_⟩;have iu:(PE.evs ρ es).length=len:=by rw[PE.evs_eq,fl,Tw]
 have af2:∀(i:Nat) (x:D),(PE.evs ρ es)[i]?=some x→∃v,Rep C.cap σ e v x∧∀q u,v.cells[q]?=some u→dp.toList[i*e.size+q]?=some u:=by
  intro i x hx;have vF:i<len:=by have:=(dZ.1 hx).1;omega
  obtain⟨pe,Cp,fw⟩:=UG i vF;rw[adq Cp] at hx;cases hx;unfold F7 at fw;split at fw
  ·rename_i p hp;have Vg:=sF hp;have He:p.1=i:=by have:=JF hp;simpa using this
   obtain⟨_,t,pe',hu,bX,tA⟩:=nE p Vg;rw[He,Cp] at tA;cases tA;have bE:=(cl h hC hg hu).sub bX;refine⟨_,bE,fun q u hq=>?_⟩;have Hf:q<(a.eval p.2).cells.size:=(dy.1 hq).1;have:=f3 p.1 (a.eval p.2) (p.1*e.size) (eE.2 ⟨p,Vg,rfl⟩) (by simp[bE.size]) q Hf;rw[He] at this;simp[this,hq]
  ·rename_i hp;cases fw;refine⟨zv,CO,fun q u hq=>?_⟩;have Hf:q<zv.cells.size:=(dy.1 hq).1
   have vO:i∉(ps.toList.map fun(x:Nat×Operand)=>(x.1,a.eval x.2)).map (·.1):=by
        intro cK;simp only[JM,eE,Ez] at cK;obtain⟨x,y5,e⟩:=cK;have:=sA.1 hp x y5;simp[e] at this
   have:=f4 i (i*e.size) e.size vO rfl q (by omega);have h9:c0[i*e.size+q]?=zv.cells[q]?:=by
        simp only[c0];rw[←rM];exact Wl (by omega) vF Hf
   simp[this,h9,hq]
 have cr:∃vs:Nat→Value,∀(i:Nat) (x:D),(PE.evs ρ es)[i]?=some x→Rep C.cap σ e (vs i) x∧∀q u,(vs i).cells[q]?=some u→dp.toList[i*e.size+q]?=some u:=by
  have lR:∀i,∃v,∀x,(PE.evs ρ es)[i]?=some x→Rep C.cap σ e v x∧∀q u,v.cells[q]?=some u→dp.toList[i*e.size+q]?=some u:=by
   intro i;cases hx:(PE.evs ρ es)[i]? with
   |none=>exact⟨undef,fun x du=>by cases du⟩
   |some x=>
    obtain⟨v,hv⟩:=af2 i x hx;exact⟨v,fun y hy=>by cases hy;exact hv⟩
  exact⟨fun i=>Classical.choose (lR i),fun i x hx=>RY (lR i) x hx⟩
 obtain⟨vs,cr⟩:=cr;have dA:dp.size=len*e.size:=by rw[f2,oF]
 refine⟨dp.toList,PE.evs ρ es,by simp[Env.setO,aG],?_,⟨vs,fun i x hx=>(cr i x hx).1,fun i j u hi hj=>(cr i _ (bo hi)).2 j u hj⟩,fun k hk=>by rw[aG] at hk;simp[Value.ownBlock] at hk;simp[fD,hk]⟩;rw[aG,iu];have G2:len≤maxLen:=by
  have:len*1≤len*e.size:=Nat.mul_le_mul_left _ h1;unfold maxLen;omega
 exact⟨by simp[dA],.inr ⟨w.heap.size,len,dp,rfl,h.below.size,heap_alloc_new w _,aU _,G2,dA,by rw[sH (by simp[dA])]⟩⟩
theorem acB (h:Inv C S ρ σ own hv w0 σ0 A a w)(hC:CtxOK C σ0)(ht:¬A dst)(ae:dst<a.tmps.size){T:TypeId}{len:Nat}{ps:Array (Nat×Operand)}{r:St×List PI}(hr:vk C S [] dst T len ps.toList=some r){o:Oper}(hd:o.dst=some dst)
 (ho:o.op=.buildSlice T len ps):bP C w0 σ0 Φ S ρ A a w o r:=by
 obtain⟨E,e,es,v,w',_,_,rfl,af,hb,dB,cI⟩:=Tn h hC rfl hr ho;refine bP.value hd fun ρ' nF=>⟨_,_,af,?_⟩
 rw[zZ nF];exact h.mkObj ht ae (.row E e) _ _ (fun k=>Nat.beq k w.heap.size) hb dB cI
theorem Inv.kill (h:Inv C S ρ σ own hv w0 σ0 A a w)(j:Nat):Inv C (S.newO j .dead) ρ σ own hv w0 σ0 A a w:=by
 have dC:∀i,S.ver i≤(S.newO j .dead).ver i:=by
  intro i;show S.ver i≤bO S.ver j (S.ver j+1) i;rw[fj];by_cases e:i=j
  ·subst e;simp
  ·simp[e]
 have hc:Compat S hv (S.newO j .dead) hv:=⟨dC,fun _ _=>rfl⟩
 refine h.step (·=j) rfl (.refl σ) h.ok (fun _ _ _ hx=>.inl hx) (fun _ _ hx=>.inl hx) (.refl _ _) hc (fun i hi=>⟨by simp[St.newO,bf _ _ hi],rfl,rfl,fun k hk=>⟨hk,rfl⟩⟩) (fun i hi=>?_) h.owns (fun _=>id) (fun t=>.inl ⟨rfl,rfl,rfl⟩) (fun _ _=>rfl) (fun _ _ _=>rfl) (fun k i hk=>.inl ⟨i,hk⟩) (fun i hi=>by subst hi;simp[St.newO,aG]);subst hi;simp only[St.newO,aG];trivial
theorem acR (h:Inv C S ρ σ own hv w0 σ0 A a w)(hC:CtxOK C σ0)(ht:¬A dst)(ae:dst<a.tmps.size)(dR:∀g,g∈gs→A g.1)(hg:holds gs ρ=true){T:TypeId}{len:Nat}{ps:Array (Nat×Operand)}{r:St×List PI}(hr:yk C S gs dst T len ps.toList=some r){o:Oper}(hd:o.dst=some dst)
 (ho:o.op=.buildSlice T len ps):bP C w0 σ0 Φ S ρ A a w o r:=by
 unfold yk at hr;split at hr
 case h_2=>cases hr
 rename_i E q hT hq;simp only[ao] at hr;obtain⟨e,he,hr⟩:=hr;obtain⟨E',e',es,v,w',yB,oH,rfl,af,hb,dB,cI⟩:=Tn h hC hg hq ho;rw[hT] at yB;cases yB;rw[he] at oH;cases oH;cases hr;refine bP.value hd fun ρ' nF=>⟨_,_,af,?_⟩
 have hρ:ρ'=ρ.setR dst (.list (PE.evs ρ es)):=by simp[PI.runs,PI.run,PE.ev] at nF;exact nF.symm
 subst hρ;have h1:=h.newO dst (.row E e) (.list (PE.evs ρ es)) v (fun k=>Nat.beq k w.heap.size) hb dB cI;obtain⟨σ2,iz,_,h2⟩:=h1.fz dst;have rz:(S.newO dst (.row E e)).fz dst=(S.newO dst (.row E e)).setO dst (.fz (.slice e.rol)):=by
  have:(S.newO dst (.row E e)).o dst=.row E e:=aG _ _ _;unfold St.fz;rw[this]
 rw[rz] at h2;have aV:=h2.objs dst;have e1:((S.newO dst (.row E e)).setO dst (.fz (.slice e.rol))).o dst=.fz (.slice e.rol):=aG _ _ _;rw[e1] at aV;have bE:Rep C.cap σ2 (.slice e.rol) v (.list (PE.evs ρ es)):=by
  have:=aV.2
  rwa [aG,show(ρ.setO dst (.list (PE.evs ρ es))).o dst=.list (PE.evs ρ es) from aG _ _ _] at this
 have h3:Inv C (S.newO dst .dead) ρ σ2 iz (bO hv dst v) w0 σ0 A a w':=by
  refine h2.step (·=dst) rfl (.refl σ2) h2.ok (fun _ _ _ hx=>.inl hx) (fun _ _ hx=>.inl hx) (.refl _ _) ⟨fun i=>aU _,fun _ _=>rfl⟩ (fun i hi=>⟨?_,?_,rfl,fun k hk=>⟨hk,rfl⟩⟩) (fun i hi=>?_) h2.owns (fun _=>id) (fun t=>.inl ⟨rfl,rfl,rfl⟩) (fun _ _=>rfl) (fun _ _ _=>rfl) (fun k i hk=>.inl ⟨i,hk⟩) (fun i hi=>by subst hi;simp[St.newO,aG])
  ·simp[St.newO,St.setO,bf _ _ hi]
  ·simp[Env.setO,bf _ _ hi]
  ·subst hi;simp only[St.newO,aG];trivial
 have hh:holds gs (ρ.setR dst (.list (PE.evs ρ es)))=true:=by rw[Cm (t:=dst) fun g hm e=>ht (by rw[←e];exact dR g hm)];exact hg
 cases gs with
 |nil=>exact⟨_,_,_,h3.setReg ht (s:=.dat (.slice e.rol)) bE ae (fun _ _ e=>by cases e)⟩
 |cons g bG=>
  refine⟨_,_,_,h3.setReg ht (s:=.opt (g::bG) (.dat (.slice e.rol))) ⟨fun _=>bE,fun e=>absurd (hh.symm.trans e) (by decide)⟩ ae (fun gs s e=>?_)⟩;cases e;exact⟨dR,fun _ _ e=>by cases e⟩
end
end Cx
