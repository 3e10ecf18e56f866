/-
  Shared texts of this claim.
-/
import Derived.Test.YtbagcfebdgiihaaGreatDoorSAB
import Derived.Laws.OwnMore
import Derived.Lib.ConvBytes
set_option linter.unusedSimpArgs false
set_option linter.unusedVariables false
namespace Cx
open Go Go.RowKit
def VZ (b i:Nat):Nat:=4096*(i+1)+b
def St.fz (S:St)(j:Nat):St:=
 match S.o j with
 |.row _ e=>S.setO j (.fz (.slice e.rol))
 |.mp k e=>S.setO j (.fz (.map k e))
 |_=>S
def Bh (S:St)(b:Nat):Option (St×List PI):=
 match S.o b with
 |.box ag shs=>
  (ug S (.o b) shs 0).bind fun x=>
    bif ag then some (S.setO b (.fbox (.agg x.1)),[.setO b (.mk x.2)])
    else match x.1,x.2 with
     |[t],[e]=>some (S.setO b (.fbox t),[.setO b e])
     |_,_=>Option.none
 |_=>Option.none
def St.mv (S:St)(j j':Nat):St:=
 {S with o:=bV (bV S.o j' (S.o j)) j .dead,ver:=bV (bV S.ver j' (S.ver j'+1)) j (S.ver j+1)}
def kS:Ob→Bool
 |.row ..=>true
 |.mp ..=>true
 |_=>false
def DH (S:St)(t j':Nat):Option (St×List PI):=
 match S.r t with
 |.obj j ver=>
  bif Nat.beq ver (S.ver j)&&kS (S.o j)&& !Nat.beq j j' then some ((S.mv j j').setR t (.obj j' (S.ver j'+1)),[.setO j' (.o j)])
  else some (S,[])
 |_=>some (S,[])
def DG (S:St)(b i j':Nat):Option (St×List PI):=
 match S.o b with
 |.box ag shs=>
  match shs[i]? with
  |some (.obj j ver)=>
   bif Nat.beq ver (S.ver j)&&kS (S.o j)&& !Nat.beq j j'&& !Nat.beq b j'&& !Nat.beq b j then
    some ((S.mv j j').setO b (.box ag (shs.set i (.obj j' (S.ver j'+1)))),[.setO j' (.o j)])
   else some (S,[])
  |_=>some (S,[])
 |_=>some (S,[])
def B1 (C:Ctx)(S:St)(b i j:Nat)(T:TypeId):Option (St×List PI):=
 match S.o b with
 |.box ag shs=>
  match shs[i]?,m6 C.P T with
  |some (.dat (.nils _)),some e=>
   bif !Nat.beq b j then some ((S.newO j (.row T e)).setO b (.box ag (shs.set i (.obj j (S.ver j+1)))),[.setO j (.con (.list []))])
   else some (S,[])
  |_,_=>some (S,[])
 |_=>some (S,[])
section
variable {C:Ctx} {S:St} {ρ:Env} {σ:Im} {own:Nat→Option Nat} {hv:Nat→Value} {w0:World} {σ0:Base} {A:Nat→Prop} {a:Act} {w:World} {gs:List (Nat×Bool)} {Φ:aJ} {dst:Nat}
theorem Inv.lt (h:Inv C S ρ σ own hv w0 σ0 A a w){k o:Nat}{u:Value}(hc:σ.c k o=some u):k<w.heap.size:=World.block_lt_of_cell? w (a:=⟨k,o,none⟩) (h.ok.c _ _ _ hc)
theorem Inv.ltm (h:Inv C S ρ σ own hv w0 σ0 A a w){k:Nat}{es:List (Value×Value)}(hc:σ.m k=some es):k<w.heap.size:=by
 exact(h.ok.m _ _ hc).lt
theorem Im.ok.below {σ:Im}{w w':World}(h:σ.ok w)(hb:Below w.heap.size w w'):σ.ok w':=by
 refine⟨fun k o v hc=>?_,fun k es hc=>?_⟩
 ·have h1:=h.c k o v hc;rw[hb.cell (World.block_lt_of_cell? w (a:=⟨k,o,none⟩) h1)];exact h1
 ·exact(h.m k es hc).keep (hb.block k (h.m k es hc).lt)
def fb (own:Nat→Option Nat)(j:Nat)(nb:Nat→Bool):Nat→Option Nat:=fun k=>if nb k then some j else if own k=some j then none else own k
theorem Inv.newOσ (h:Inv C S ρ σ own hv w0 σ0 A a w)(j:Nat)(ob:Ob)(d:D)(v:Value)(nb:Nat→Bool){σ':Im}{w':World}(hle:σ.le σ')(au:σ'.ok w')(dz:∀k o x,σ'.c k o=some x→σ.c k o=some x∨w.heap.size≤k)(cR:∀k x,σ'.m k=some x→σ.m k=some x∨w.heap.size≤k)
 (hw:Below w.heap.size w w') (dP:∀k,nb k=true→w.heap.size≤k∧k<w'.heap.size) (dB:∀k,nb k=true→(∀o,σ'.c k o=none)∧σ'.m k=none)
 (cI:bW C (S.newO j ob) (ρ.setO j d) σ' (fb own j nb) (bV hv j v) w' w0.heap.size j ob) (lQ:ob≠.tr:=by intro h;cases h):Inv C (S.newO j ob) (ρ.setO j d) σ' (fb own j nb) (bV hv j v) w0 σ0 A a w':=by
 have aN:w0.heap.size≤w.heap.size:=h.below.size;have bt:∀k i,i≠j→own k=some i→fb own j nb k=some i:=by
  intro k i hi hk;have h1:=h.owns k i hk;have h2:nb k=false:=by
   cases hn:nb k with
   |false=>rfl
   |true=>have:=dP k hn;omega
  simp[fb,h2,hk,hi]
 refine h.step (fun i=>i=j) rfl hle au (fun k o x hx=>(dz k o x hx).imp id fun e=>⟨by omega,.inr e⟩) (fun k x hx=>(cR k x hx).imp id fun e=>⟨by omega,.inr e⟩) (hw.mono aN) ⟨fun i=>?_,fun i e=>?_⟩ (fun i hi=>⟨?_,?_,?_,fun k hk=>⟨bt k i hi hk,?_⟩⟩) (fun i hi=>?_) (fun k i hk=>?_) (fun _=>id) (fun t=>.inl ⟨rfl,rfl,rfl⟩) (fun _ _=>rfl) (fun k hk _=>hw.block k hk) (fun k i hk=>by
  unfold fb at hk;split at hk
  ·rename_i hn;exact .inr (dP k hn).1
  ·split at hk
   ·cases hk
   ·exact .inl ⟨i,hk⟩) (fun i hi=>by subst hi;simpa only[St.newO,aL] using lQ)
 ·simp only[St.newO,fg];split<;>rename_i e
  ·subst e;omega
  ·omega
 ·simp only[St.newO,fg] at e;split at e
  ·rename_i e';subst e';omega
  ·rename_i az;exact bq _ _ az
 ·simp[St.newO,bq _ _ hi]
 ·simp[Env.setO,bq _ _ hi]
 ·exact bq _ _ hi
 ·exact hw.block k (h.owns k i hk).2.1
 ·subst hi;simp only[St.newO,aL];exact cI
 ·unfold fb at hk;split at hk
  ·rename_i hn;obtain⟨g1,g2⟩:=dP k hn;exact⟨by omega,g2,(dB k hn).1,(dB k hn).2⟩
  ·split at hk
   ·cases hk
   ·obtain⟨g1,g2,g3,g4⟩:=h.owns k i hk;refine⟨g1,by have:=hw.size;omega,fun o=>?_,?_⟩
    ·cases hc:σ'.c k o with
     |none=>rfl
     |some u=>
      rcases dz k o u hc with e|e
      ·rw[g3 o] at e;cases e
      ·omega
    ·cases hc:σ'.m k with
     |none=>rfl
     |some u=>
      rcases cR k u hc with e|e
      ·rw[g4] at e;cases e
      ·omega
theorem Inv.newO (h:Inv C S ρ σ own hv w0 σ0 A a w)(j:Nat)(ob:Ob)(d:D)(v:Value)(nb:Nat→Bool){w':World}(hw:Below w.heap.size w w')(dP:∀k,nb k=true→w.heap.size≤k∧k<w'.heap.size)
 (cI:bW C (S.newO j ob) (ρ.setO j d) σ (fb own j nb) (bV hv j v) w' w0.heap.size j ob) (lQ:ob≠.tr:=by intro h;cases h):Inv C (S.newO j ob) (ρ.setO j d) σ (fb own j nb) (bV hv j v) w0 σ0 A a w':=by
 refine h.newOσ j ob d v nb (.refl σ) (h.ok.below hw) (fun _ _ _ hx=>.inl hx) (fun _ _ hx=>.inl hx) hw dP (fun k hn=>⟨fun o=>?_,?_⟩) cI lQ
 ·cases hc:σ.c k o with
  |none=>rfl
  |some u=>have:=h.lt hc;have:=(dP k hn).1;omega
 ·cases hc:σ.m k with
  |none=>rfl
  |some u=>have:=h.ltm hc;have:=(dP k hn).1;omega
theorem Inv.setObj (h:Inv C S ρ σ own hv w0 σ0 A a w){t j:Nat}(ht:¬A t){v:Value}(dZ:hv j=v)(af:t<a.tmps.size):
 Inv C (S.setR t (.obj j (S.ver j))) (ρ.setR t .none) σ own hv w0 σ0 (fun u=>A u∨u=t) (a.put (some t) v) w:=
 h.setReg ht (s:=.obj j (S.ver j)) (v:=v) (d:=.none) ⟨aU _,fun _=>dZ.symm⟩ af (fun _ _ e=>by cases e)
theorem F7 (S:St)(j:Nat):(S.fz j).ver=S.ver∧(S.fz j).r=S.r:=by
 unfold St.fz;split<;>exact⟨rfl,rfl⟩
theorem Inv.fz (h:Inv C S ρ σ own hv w0 σ0 A a w)(j:Nat):∃σ' own',σ.le σ'∧Inv C (S.fz j) ρ σ' own' hv w0 σ0 A a w:=by
 have aX:=h.objs j;unfold St.fz;split
 ·rename_i T e eo;rw[eo] at aX;obtain⟨cells,xs,h1,h2,⟨vs,h3,h4⟩,h5⟩:=aX;have aN:w0.heap.size≤w.heap.size:=h.below.size
  let nb:Nat→Bool:=fun k=>decide ((hv j).ownBlock=some k)
  let σ':Im:={c:=fun k o=>if nb k then cells[o]? else σ.c k o,m:=σ.m}
  have dP:∀k,nb k=true→own k=some j:=fun k hk=>h5 k (by simpa [nb] using hk);have hle:σ.le σ':=by
   refine⟨fun k o v hc=>?_,fun k es hc=>hc⟩;have:nb k=false:=by
        cases hn:nb k with
        |false=>rfl
        |true=>have:=(h.owns k j (dP k hn)).2.2.1 o;rw[this] at hc;cases hc
   simp[σ',this,hc]
  refine⟨σ',fun k=>if nb k then none else own k,hle,h.step (fun i=>i=j) rfl hle ?_ (fun k o x hx=>?_) (fun _ _ hx=>.inl hx) (.refl _ _) ⟨fun _=>aU _,fun _ _=>rfl⟩ (fun i hi=>⟨?_,rfl,rfl,fun k hk=>⟨?_,rfl⟩⟩) (fun i hi=>?_) (fun k i hk=>?_) (fun _=>id) (fun t=>.inl ⟨rfl,rfl,rfl⟩) (fun _ _=>rfl) (fun _ _ _=>rfl) (fun k i hk=>by
        split at hk
        ·cases hk
        ·exact .inl ⟨i,hk⟩) (fun i hi=>by subst hi;simp[St.setO,aL])⟩
  ·refine⟨fun k o v hc=>?_,h.ok.m⟩;simp only[σ'] at hc;split at hc
   ·rename_i hn;have cI:(hv j).ownBlock=some k:=by simpa [nb] using hn
    have:=h2.cells cI o v hc;rw[rQ] at this;simpa using this
   ·exact h.ok.c k o v hc
  ·simp only[σ'] at hx;split at hx
   ·rename_i hn;exact .inr ⟨(h.owns k j (dP k hn)).1,.inl ⟨j,dP k hn⟩⟩
   ·exact .inl hx
  ·simp[St.setO,bq _ _ hi]
  ·have:nb k=false:=by
        cases hn:nb k with
        |false=>rfl
        |true=>rw[dP k hn] at hk;simp at hk;exact absurd hk.symm hi
   simp[this,hk]
  ·subst hi;simp only[St.setO,aL];refine⟨rfl,?_⟩;rw[h1];rcases h2.2 with⟨e1,e2⟩|⟨g,cap,cur,e1,e2,e3,e4,e5,e6,e7⟩
   ·rw[e1];have:xs=[]:=SS e2;subst this;exact .nil _
   ·rw[e1];refine .slice e.rol g 0 xs.length cap xs vs rfl e4 e5 (fun i x hx=>((h3 i x hx).mono hle).unf_rol) (fun i m u hi hu=>?_);rw[Ty.rol_size];have hn:nb g=true:=by simp[nb,e1,Value.ownBlock]
    simp only[σ',hn,if_true,jD];exact h4 i m u hi hu
  ·split at hk
   ·cases hk
   ·rename_i hn;obtain⟨g1,g2,g3,g4⟩:=h.owns k i hk;exact⟨g1,g2,fun o=>by simp[σ',hn,g3 o],g4⟩
 ·rename_i kt et eo;rw[eo] at aX;obtain⟨k0,arr,clock,fG,h1,h2,h3,h4,h5,⟨hx,_⟩,h6⟩:=aX;have aN:w0.heap.size≤w.heap.size:=h.below.size
  let σ':Im:={c:=σ.c,m:=fun k=>if k=k0 then some (entriesOf arr) else σ.m k}
  have hle:σ.le σ':=by
   refine⟨fun k o v hc=>hc,fun k es hc=>?_⟩;have:k≠k0:=fun e=>by subst e;rw[(h.owns k j h2).2.2.2] at hc;cases hc
   simp[σ',this,hc]
  refine⟨σ',fun k=>if k=k0 then none else own k,hle,h.step (fun i=>i=j) rfl hle ?_ (fun k o x hx=>.inl hx) (fun k x hx=>?_) (.refl _ _) ⟨fun _=>aU _,fun _ _=>rfl⟩ (fun i hi=>⟨?_,rfl,rfl,fun k hk=>⟨?_,rfl⟩⟩) (fun i hi=>?_) (fun k i hk=>?_) (fun _=>id) (fun t=>.inl ⟨rfl,rfl,rfl⟩) (fun _ _=>rfl) (fun _ _ _=>rfl) (fun k i hk=>by
        split at hk
        ·cases hk
        ·exact .inl ⟨i,hk⟩) (fun i hi=>by subst hi;simp[St.setO,aL])⟩
  ·refine⟨h.ok.c,fun k es hc=>?_⟩;simp only[σ'] at hc;split at hc
   ·rename_i e;subst e;cases hc;refine .inl ⟨fun e=>?_,arr,clock,h3,rfl⟩;refine CC (cap:=C.cap) (σ:=σ) (kt:=kt) (es:=fG) (by simp[entriesOf,h5]) (fun i p q hp hq=>?_) e;simp only[entriesOf,cl,ax] at hp;obtain⟨x,cT,rfl⟩:=hp;exact(h6 i x q (by simpa using cT) hq).1
   ·exact h.ok.m k es hc
  ·simp only[σ'] at hx;split at hx
   ·rename_i e;subst e;exact .inr ⟨(h.owns k j h2).1,.inl ⟨j,h2⟩⟩
   ·exact .inl hx
  ·simp[St.setO,bq _ _ hi]
  ·have:k≠k0:=fun e=>by subst e;rw[h2] at hk;simp at hk;exact hi hk.symm
   simp[this,hk]
  ·subst hi;simp only[St.setO,aL];refine⟨rfl,?_⟩;rw[h1,h4];refine .map kt et k0 (entriesOf arr) fG (by simp[σ']) (by simp[entriesOf,h5]) hx (fun i p q hp hq=>?_) (fun i p q hp hq=>?_)
   ·simp only[entriesOf,cl,ax] at hp;obtain⟨e,he,rfl⟩:=hp;exact((h6 i e q (by simpa using he) hq).1).mono hle
   ·simp only[entriesOf,cl,ax] at hp;obtain⟨e,he,rfl⟩:=hp;exact((h6 i e q (by simpa using he) hq).2).mono hle
  ·split at hk
   ·cases hk
   ·rename_i hn;obtain⟨g1,g2,g3,g4⟩:=h.owns k i hk;exact⟨g1,g2,g3,by simp[σ',hn,g4]⟩
 ·exact⟨σ,own,.refl σ,h⟩
end
end Cx
namespace Cx
open Go Go.RowKit
section
variable {C:Ctx} {S:St} {ρ:Env} {σ:Im} {own:Nat→Option Nat} {hv:Nat→Value} {w0:World} {σ0:Base} {A:Nat→Prop} {a:Act} {w:World} {gs:List (Nat×Bool)} {Φ:aJ} {dst:Nat}
theorem rG {j:Nat}{e:PE}{ρ':Env}(h:PI.runs Φ [.setO j e] ρ=some ρ'):ρ'=ρ.setO j (e.ev ρ):=by
 simp[PI.runs,PI.run] at h;exact h.symm
theorem mZ {ρ':Env}(h:PI.runs Φ [] ρ=some ρ'):ρ'=ρ:=by
 simp[PI.runs] at h;exact h.symm
def zY (C:Ctx)(w0:World)(σ0:Base)(Φ:aJ)(S:St)(ρ:Env)(A:Nat→Prop)(a:Act)(w:World)(r:St×List PI):Prop:=
 ∀ρ',PI.runs Φ r.2 ρ=some ρ'→Good C w0 σ0 r.1 ρ' A a w
theorem agt (h:Inv C S ρ σ own hv w0 σ0 A a w){b:Nat}{r:St×List PI}(hr:Bh S b=some r):zY C w0 σ0 Φ S ρ A a w r:=by
 unfold Bh at hr;split at hr
 case h_2=>cases hr
 rename_i ag shs eo;simp only[ar] at hr;obtain⟨x,hx,hr⟩:=hr;have aX:=h.objs b;rw[eo] at aX;obtain⟨k,cs,T,ds,h1,h2,h3,h4,h5,h6,h7⟩:=aX;obtain⟨l1,es,⟨he,qU⟩,l2,bE⟩:=KH (b:=.o b) h (cs:=cs.toList) h5 shs 0 x (fun m s hm=>by rw[ya,jD];exact(h7 m s hm).2) hx
 let σ':Im:={c:=fun k' o=>if k'=k then cs[o]? else σ.c k' o,m:=σ.m}
 have hle:σ.le σ':=by
  refine⟨fun k' o v hc=>?_,fun k es hc=>hc⟩;have:k'≠k:=fun e=>by subst e;rw[(h.owns k' b h2).2.2.1 o] at hc;cases hc
  simp[σ',this,hc]
 have key:∀(t:Ty) (v:Value) (d:D),Rep C.cap σ' t v d→(∀(i:Nat) (u:Value),v.cells[i]?=some u→cs[i]?=some u)→
  Inv C (S.setO b (.fbox t)) (ρ.setO b d) σ' (fun k'=>if k'=k then none else own k') hv w0 σ0 A a w:=by
  intro t v d hrv aW
  refine h.step (fun i=>i=b) rfl hle ?_ (fun k' o x hx=>?_) (fun _ _ hx=>.inl hx) (.refl _ _) ⟨fun _=>aU _,fun _ _=>rfl⟩ (fun i hi=>⟨?_,?_,rfl,fun k' hk=>⟨?_,rfl⟩⟩) (fun i hi=>?_) (fun k' i hk=>?_) (fun _=>id) (fun t=>.inl ⟨rfl,rfl,rfl⟩) (fun _ _=>rfl) (fun _ _ _=>rfl) (fun k' i hk=>by
        split at hk
        ·cases hk
        ·exact .inl ⟨i,hk⟩) (fun i hi=>by subst hi;simp[St.setO,aL])
  ·refine⟨fun k' o v hc=>?_,h.ok.m⟩;simp only[σ'] at hc;split at hc
   ·rename_i e;subst e;simp[World.cell?,h3,hc]
   ·exact h.ok.c k' o v hc
  ·simp only[σ'] at hx;split at hx
   ·rename_i e;subst e;exact .inr ⟨(h.owns k' b h2).1,.inl ⟨b,h2⟩⟩
   ·exact .inl hx
  ·simp[St.setO,bq _ _ hi]
  ·simp[Env.setO,bq _ _ hi]
  ·have:k'≠k:=fun e=>by subst e;rw[h2] at hk;simp at hk;exact hi hk.symm
   simp[this,hk]
  ·subst hi;simp only[St.setO,aL];exact⟨k,v,h1,by simp only[Env.setO,aL];exact hrv,fun i u hu=>by simp[σ',aW i u hu]⟩
  ·split at hk
   ·cases hk
   ·rename_i hn;obtain⟨g1,g2,g3,g4⟩:=h.owns k' i hk;exact⟨g1,g2,fun o=>by simp[σ',hn,g3 o],g4⟩
 have iK:∀(m:Nat) (t:Ty),x.1[m]?=some t→t.one=true∧Rep C.cap σ' t (cs.toList.getD m undef) (es.getD m .none):=fun m t hm=>by
  obtain⟨g1,g2⟩:=bE m t hm;rw[jD] at g2;exact⟨g1,g2.mono hle⟩
 intro ρ' aj;cases ag with
 |true=>
  simp only[cond_true] at hr;cases hr;have:=rG aj;subst this;refine⟨_,_,_,key (.agg x.1) (.agg cs.toList.toArray) _ ?_ (fun i u hu=>by simpa [Value.cells] using hu)⟩;simp only[PE.ev,he];exact .agg _ _ _ (by simp;omega) (by omega) (fun m t hm=>(iK m t hm).2) (fun m t hm=>(iK m t hm).1)
 |false=>
  simp only[cond_false] at hr;split at hr
  ·rename_i t e et ee;cases hr;have:=rG aj;subst this;obtain⟨g1,g2⟩:=iK 0 t (by rw[et];rfl);have gR:es=[e.ev ρ]:=by rw[←qU,ee];rfl
   subst gR;refine⟨_,_,_,key t (cs.toList.getD 0 undef) _ (by simpa using g2) (fun i u hu=>?_)⟩;rw[(g2.oneCell g1).1] at hu;have hi:i=0:=by
        have:=(eA.1 hu).1;simpa using this
   subst hi;simp at hu;subst hu;have:0<cs.size:=by rw[h4];rw[et] at l1;simp at l1;omega
   rw[iY this];simp[aI,iY this]
  ·cases hr
theorem Inv.mv (h:Inv C S ρ σ own hv w0 σ0 A a w){j j':Nat}(az:j≠j')(hk:kS (S.o j)=true):
 Inv C (S.mv j j') (ρ.setO j' (ρ.o j)) σ (fun k=>if own k=some j then some j' else if own k=some j' then none else own k) (bV hv j' (hv j)) w0 σ0 A a w:=by
 have aX:=h.objs j
 refine h.step (fun i=>i=j∨i=j') rfl (.refl σ) h.ok (fun _ _ _ hx=>.inl hx) (fun _ _ hx=>.inl hx) (.refl _ _) ⟨fun i=>?_,fun i e=>?_⟩ (fun i hi=>?_) (fun i hi=>?_) (fun k i hk=>?_) (fun _=>id) (fun t=>.inl ⟨rfl,rfl,rfl⟩) (fun _ _=>rfl) (fun _ _ _=>rfl) (fun k i hk=>by
        split at hk
        ·rename_i e;exact .inl ⟨j,e⟩
        ·split at hk
         ·cases hk
         ·exact .inl ⟨i,hk⟩) (fun i hi=>by
        rcases hi with rfl|rfl
        ·simp[St.mv,aL]
        ·simp only[St.mv,bq _ _ (rN az),aL];intro e;rw[e] at hk;cases hk)
 ·simp only[St.mv,fg];split
  ·rename_i e;subst e;omega
  ·split
   ·rename_i e;subst e;omega
   ·omega
 ·simp only[St.mv,fg] at e;split at e
  ·rename_i e';subst e';omega
  ·split at e
   ·rename_i e';subst e';omega
   ·rename_i L7;exact bq _ _ L7
 ·simp only[not_or] at hi;refine⟨by simp[St.mv,bq _ _ hi.1,bq _ _ hi.2],by simp[Env.setO,bq _ _ hi.2],bq _ _ hi.2,fun k hk=>⟨?_,rfl⟩⟩;have e1:i≠j:=hi.1;have e2:i≠j':=hi.2;simp[hk,e1,e2]
 ·rcases hi with rfl|rfl
  ·simp only[St.mv,aL];trivial
  ·simp only[St.mv,bq _ _ (rN az),aL];cases cI:S.o j with
   |row T e=>
    rw[cI] at aX;obtain⟨cells,xs,h1,h2,h3,h4⟩:=aX;refine⟨cells,xs,by simp only[Env.setO,aL];exact h1,by rw[aL];exact h2,h3,fun k hk=>?_⟩;rw[aL] at hk;simp[h4 k hk]
   |mp kt et=>
    rw[cI] at aX;obtain⟨k0,arr,clock,es,h1,h2,h3,h4,h5,h6⟩:=aX;exact⟨k0,arr,clock,es,by rw[aL];exact h1,by simp[h2],h3,by simp only[Env.setO,aL];exact h4,h5,h6⟩
   |_=>rw[cI] at hk;simp[kS] at hk
 ·split at hk
  ·rename_i e;exact h.owns k j e
  ·split at hk
   ·cases hk
   ·exact h.owns k i hk
theorem aoy (h:Inv C S ρ σ own hv w0 σ0 A a w){t j':Nat}{r:St×List PI}(hr:DH S t j'=some r):zY C w0 σ0 Φ S ρ A a w r:=by
 intro ρ' aj;unfold DH at hr;split at hr
 ·rename_i j ver es;cases hb:(Nat.beq ver (S.ver j)&&kS (S.o j)&& !Nat.beq j j')<;>simp only[hb,cond_true,cond_false] at hr
  ·cases hr;rw[mZ aj];exact⟨_,_,_,h⟩
  ·cases hr;simp only[aq,jx] at hb;have dv:=aw hb.1.1;have az:j≠j':=fun e=>by subst e;simp at hb
   have kc:=h.mv az hb.1.2;have iP:=h.regs t;rw[es] at iP;have cf:=iP.2 dv;rw[rG aj];refine⟨_,_,_,kc.step (S':=(S.mv j j').setR t (.obj j' (S.ver j'+1))) (fun _=>False) rfl (.refl σ) kc.ok (fun _ _ _ hx=>.inl hx) (fun _ _ hx=>.inl hx) (.refl _ _) ⟨fun _=>aU _,fun _ _=>rfl⟩ (fun i _=>⟨rfl,rfl,rfl,fun k hk=>⟨hk,rfl⟩⟩) (fun _ hf=>hf.elim) kc.owns (fun _=>id) (fun u=>?_) (fun _ _=>rfl) (fun _ _ _=>rfl) (fun k i hk=>.inl ⟨i,hk⟩) (fun _ hf=>hf.elim)⟩;by_cases hu:u=t
   ·subst hu;refine .inr ⟨?_,fun gs s e=>by simp[St.setR,aL] at e⟩;simp only[St.setR,aL];refine⟨?_,fun _=>?_⟩
    ·simp[St.mv,bq _ _ (rN az),aL]
    ·rw[aL];exact cf
   ·exact .inl ⟨by simp[St.setR,bq _ _ hu],rfl,rfl⟩
 ·cases hr;rw[mZ aj];exact⟨_,_,_,h⟩
theorem aox (h:Inv C S ρ σ own hv w0 σ0 A a w){b i j':Nat}{r:St×List PI}(hr:DG S b i j'=some r):zY C w0 σ0 Φ S ρ A a w r:=by
 intro ρ' aj;unfold DG at hr;split at hr
 ·rename_i ag shs eo;split at hr
  ·rename_i j ver es;cases hb:(Nat.beq ver (S.ver j)&&kS (S.o j)&& !Nat.beq j j'&& !Nat.beq b j'&& !Nat.beq b j)<;>simp only[hb,cond_true,cond_false] at hr
   ·cases hr;rw[mZ aj];exact⟨_,_,_,h⟩
   ·cases hr;simp only[aq,jx] at hb;have dv:=aw hb.1.1.1.1;have az:j≠j':=fun e=>by subst e;simp at hb
    have iJ:b≠j':=fun e=>by subst e;simp at hb
    have fm:b≠j:=fun e=>by subst e;simp at hb
    have aX:=h.objs b;rw[eo] at aX;obtain⟨k,cs,T,ds,h1,h2,h3,h4,h5,h6,h7⟩:=aX;have cf:=(h7 i _ es).2.2 dv;have kc:=h.mv az hb.1.1.1.2;rw[rG aj];have K1:(S.mv j j').o b=.box ag shs:=by simp[St.mv,bq _ _ iJ,bq _ _ fm,eo]
    have BZ:=kc.objs b;rw[K1] at BZ;refine⟨_,_,_,kc.step (S':=(S.mv j j').setO b (.box ag (shs.set i (.obj j' (S.ver j'+1))))) (fun m=>m=b) rfl (.refl σ) kc.ok (fun _ _ _ hx=>.inl hx) (fun _ _ hx=>.inl hx) (.refl _ _) ⟨fun _=>aU _,fun _ _=>rfl⟩ (fun m hm=>⟨by simp[St.setO,bq _ _ hm],rfl,rfl,fun k hk=>⟨hk,rfl⟩⟩) (fun m hm=>?_) kc.owns (fun _=>id) (fun t=>.inl ⟨rfl,rfl,rfl⟩) (fun _ _=>rfl) (fun _ _ _=>rfl) (fun k i hk=>.inl ⟨i,hk⟩) (fun m hm=>by subst hm;simp[St.setO,aL])⟩;subst hm;rw[St.setO_o];obtain⟨k1,AP,T1,AR,g1,g2,g3,g4,g5,g6,g7⟩:=BZ;have e1:AP=cs:=by
     rw[bq _ _ iJ,h1] at g1;cases g1;rw[h3] at g3;cases g3;rfl
    refine⟨k1,AP,T1,AR,g1,g2,g3,by simpa using g4,g5,by simpa using g6,fun q x hq=>?_⟩;rw[Ab] at hq;split at hq
    ·rename_i e;subst e;split at hq
     ·cases hq;refine⟨(fun _ _ e=>by cases e),?_,fun _=>?_⟩
      ·simp[St.setO,St.mv,bq _ _ (rN az),aL]
      ·rw[aL,e1];exact cf
     ·cases hq
    ·obtain⟨f1,f2⟩:=g7 q x hq;exact⟨f1,f2.mono' (.refl σ) (Compat.setO _ _ _ _) f1⟩
  ·cases hr;rw[mZ aj];exact⟨_,_,_,h⟩
 ·cases hr;rw[mZ aj];exact⟨_,_,_,h⟩
theorem aiC (h:Inv C S ρ σ own hv w0 σ0 A a w){b i j:Nat}{T:TypeId}{r:St×List PI}(hr:B1 C S b i j T=some r):zY C w0 σ0 Φ S ρ A a w r:=by
 intro ρ' aj;unfold B1 at hr;split at hr
 ·rename_i ag shs eo;split at hr
  ·rename_i e0 e es et;cases hb:(!Nat.beq b j)<;>simp only[hb,cond_true,cond_false] at hr
   ·cases hr;rw[mZ aj];exact⟨_,_,_,h⟩
   ·cases hr;have az:b≠j:=fun e=>by subst e;simp at hb
    have aX:=h.objs b;rw[eo] at aX;obtain⟨k,cs,T0,ds,h1,h2,h3,h4,h5,h6,h7⟩:=aX;have cf:cs.getD i undef=.slice none 0 0:=by
     have:=(h7 i _ es).2;generalize cs.getD i undef=v at this;generalize ds.getD i .none=d at this;cases this;rfl
    have kg:=h.newO j (.row T e) (.list []) (.slice none 0 0) (fun _=>false) (.refl _ _) (by simp) ⟨[],[],by simp[Env.setO,aL],by rw[aL];exact World.ownsRow_nil _ _ _ _,⟨fun _=>undef,by simp,by simp⟩,by rw[aL];simp[Value.ownBlock]⟩;rw[rG aj];have K1:(S.newO j (.row T e)).o b=.box ag shs:=by simp[St.newO,bq _ _ az,eo]
    have BZ:=kg.objs b;rw[K1] at BZ;refine⟨_,_,_,kg.step (S':=(S.newO j (.row T e)).setO b (.box ag (shs.set i (.obj j (S.ver j+1))))) (fun m=>m=b) rfl (.refl σ) kg.ok (fun _ _ _ hx=>.inl hx) (fun _ _ hx=>.inl hx) (.refl _ _) ⟨fun _=>aU _,fun _ _=>rfl⟩ (fun m hm=>⟨by simp[St.setO,bq _ _ hm],rfl,rfl,fun k hk=>⟨hk,rfl⟩⟩) (fun m hm=>?_) kg.owns (fun _=>id) (fun t=>.inl ⟨rfl,rfl,rfl⟩) (fun _ _=>rfl) (fun _ _ _=>rfl) (fun k i hk=>.inl ⟨i,hk⟩) (fun m hm=>by subst hm;simp[St.setO,aL])⟩;subst hm;rw[St.setO_o];obtain⟨k1,AP,T1,AR,g1,g2,g3,g4,g5,g6,g7⟩:=BZ;have e1:AP=cs:=by
     rw[bq _ _ az,h1] at g1;cases g1;rw[h3] at g3;cases g3;rfl
    refine⟨k1,AP,T1,AR,g1,g2,g3,by simpa using g4,g5,by simpa using g6,fun q x hq=>?_⟩;rw[Ab] at hq;split at hq
    ·rename_i e';subst e';split at hq
     ·cases hq;refine⟨(fun _ _ e=>by cases e),?_,fun _=>?_⟩
      ·simp[St.setO,St.newO,aL]
      ·rw[aL,e1];exact cf
     ·cases hq
    ·obtain⟨f1,f2⟩:=g7 q x hq;exact⟨f1,f2.mono' (.refl σ) (Compat.setO _ _ _ _) f1⟩
  ·cases hr;rw[mZ aj];exact⟨_,_,_,h⟩
 ·cases hr;rw[mZ aj];exact⟨_,_,_,h⟩
end
end Cx
namespace Cx
open Go Go.RowKit
def mkObj (S:St)(dst:Nat)(ob:Ob):St:=(S.newO dst ob).setR dst (.obj dst (S.ver dst+1))
def mkPtr (S:St)(dst:Nat)(ob:Ob):St:=(S.newO dst ob).setR dst (.ptr dst (S.ver dst+1) 0)
abbrev j1:=Option (St×List PI)
def A1 (C:Ctx)(S:St)(dst:Nat)(T:TypeId)(x:Operand):j1:=
 match use C S [] x,C.P.underlying T with
 |some (.nils _,_),some (.slice E)=>(m6 C.P E).map fun e=>(mkObj S dst (.row E e),[.setO dst (.con (.list [])),.setR dst (.con .none)])
 |_,_=>Option.none
def AS (C:Ctx)(S:St)(dst:Nat)(T:TypeId):j1:=
 match m6 C.P T,C.P.info? T,nV C.P T with
 |some t,some inf,some ag=>
  bif rJ inf t&&(t.rowT||t.one) then
   (m9 t).map fun z=>(mkPtr S dst (.box ag (z.1.flat.map .dat)),[.setO dst (.con (.agg z.2.cells)),.setR dst (.con .none)])
  else Option.none
 |_,_,_=>Option.none
def AU (C:Ctx)(S:St)(dst:Nat)(T:TypeId)(x:Operand):j1:=
 match use C S [] x,nV C.P T with
 |some (t,e),some ag=>
  bif t.rowT||t.one then some (mkPtr S dst (.box ag (t.flat.map .dat)),[.setO dst (.mk [e]),.setR dst (.con .none)]) else Option.none
 |_,_=>Option.none
def AY (C:Ctx)(S:St)(dst:Nat)(T:TypeId)(r:Option Operand):j1:=
 match C.P.underlying T,r with
 |some (.map K E),Option.none=>
  (m6 C.P K).bind fun kt=>(m6 C.P E).map fun et=>(mkObj S dst (.mp kt et),[.setO dst (.con (.map [])),.setR dst (.con .none)])
 |_,_=>Option.none
def AZ (C:Ctx)(S:St)(dst:Nat)(T:TypeId)(l c:Operand):j1:=
 match C.P.underlying T,use C S [] l,use C S [] c with
 |some (.slice E),some (.int _,n),some (.int _,m)=>
  (m6 C.P E).bind fun e=>
    bif oX C.P E e then
     (m9 e).bind fun z=>
        bif Ty.sub z.1 e then some (mkObj S dst (.row E e),[.chk (Nl n),.chk (.ci .eql n m),.setO dst (.rep n (.con z.2)),.setR dst (.con .none)]) else Option.none
    else Option.none
 |_,_,_=>Option.none
def A2 (C:Ctx)(S:St)(dst:Nat)(T:TypeId)(x:Operand):j1:=
 match C.P.underlying T,gM S [] x with
 |some (.map _ _),.obj j ver=>
  bif Nat.beq ver (S.ver j)&& !Nat.beq j dst then
   match S.o j with
   |.mp kt et=>some (mkObj (S.mv j dst) dst (.it kt et),[.setO dst (.tup [.lst [],.o j]),.setR dst (.con .none)])
   |_=>Option.none
  else Option.none
 |_,_=>Option.none
def AV (C:Ctx)(S:St)(dst:Nat)(s d:TypeId)(x:Operand):j1:=
 match use C S [] x,C.P.underlying s,C.P.underlying d with
 |some (.str,e),some .string,some (.slice E)=>
  (match C.P.underlying E with
   |some (.int .u8)=>some (S.setR dst (.dat (.slice (.int .u8))),[.chk (.ci .leq (.slen e) (.con (.int lZ))),.setR dst (.bytes e)])
   |_=>Option.none)
 |_,_,_=>Option.none
section
variable {C:Ctx} {S:St} {ρ:Env} {σ:Im} {own:Nat→Option Nat} {hv:Nat→Value} {w0:World} {σ0:Base} {A:Nat→Prop} {a:Act} {w:World} {gs:List (Nat×Bool)} {Φ:aJ} {dst:Nat}
def bS (C:Ctx)(w0:World)(σ0:Base)(Φ:aJ)(S:St)(ρ:Env)(A:Nat→Prop)(a:Act)(w:World)(o:Oper)(r:St×List PI):Prop:=
 ∀ρ',PI.runs Φ r.2 ρ=some ρ'→∀(K:Act→World→Prop) (Q:Exit→Act→World→Prop),(∀a' w',Good C w0 σ0 r.1 ρ' (fun u=>A u∨o.dst=some u) a' w'→a'.tmps.size=a.tmps.size→K a' w')→o.wp C.P a w K Q
theorem size_put (a:Act)(d:Option Tmp)(v:Value):(a.put d v).tmps.size=a.tmps.size:=by
 cases d<;>simp[Act.put]
theorem bS.value {o:Oper}{r:St×List PI}(hd:o.dst=some dst)(hx:∀ρ',PI.runs Φ r.2 ρ=some ρ'→∃v w',(execOp a.eval o).run C.P w=.ok (.value v) w'∧Good C w0 σ0 r.1 ρ' (fun u=>A u∨u=dst) (a.put (some dst) v) w'):bS C w0 σ0 Φ S ρ A a w o r:=by
 intro ρ' aj K Q hK;obtain⟨v,w',h1,h2⟩:=hx ρ' aj;simp only[Oper.wp,h1,Oper.upon,hd];refine hK _ _ ?_ (size_put _ _ _)
 have:(fun u=>A u∨o.dst=some u)=(fun u=>A u∨u=dst):=by
  funext u;rw[hd];simp[eq_comm]
 rw[this];exact h2
theorem bS.skip {o:Oper}{r:St×List PI}(hd:o.dst=none)(hx:∀ρ',PI.runs Φ r.2 ρ=some ρ'→∃w',(execOp a.eval o).run C.P w=.ok .skip w'∧Good C w0 σ0 r.1 ρ' A a w'):bS C w0 σ0 Φ S ρ A a w o r:=by
 intro ρ' aj K Q hK;obtain⟨w',h1,h2⟩:=hx ρ' aj;simp only[Oper.wp,h1,Oper.upon,hd]
 have:(fun u=>A u∨o.dst=some u)=A:=by
  funext u;rw[hd];simp
 rw[this] at hK;exact hK _ _ h2 (size_put _ _ _)
theorem dM.eff (h:Inv C S ρ σ own hv w0 σ0 A a w)(ht:¬A dst)(af:dst<a.tmps.size){o:Oper}(hd:o.dst=some dst){s:Sh}{CN:List PI}(hq:dM C S ρ σ hv Φ dst a w o (s,CN)):bS C w0 σ0 Φ S ρ A a w o (S.setR dst s,CN):=by
 refine bS.value hd fun ρ' aj=>?_;obtain⟨v,d,rfl,h1,h2,h3⟩:=hq ρ' aj;exact⟨v,w,h1,σ,own,hv,h.setReg ht (aF.mono' (.refl σ) (.refl S hv) h3 h2) af (fun gs s' e=>absurd e (h3 gs s'))⟩
theorem dM.effG (h:Inv C S ρ σ own hv w0 σ0 A a w)(ht:¬A dst)(af:dst<a.tmps.size)(dC:∀g,g∈gs→A g.1)(hg:holds gs ρ=true){o:Oper}(hd:o.dst=some dst){s:Sh}{CN:List PI}(hq:dM C S ρ σ hv Φ dst a w o (s,CN)):bS C w0 σ0 Φ S ρ A a w o (S.setR dst (.opt gs s),CN):=by
 refine bS.value hd fun ρ' aj=>?_;obtain⟨v,d,rfl,h1,h2,h3⟩:=hq ρ' aj;have hh:holds gs (ρ.setR dst d)=true:=by rw[B0 (t:=dst) (d:=d) fun g hm e=>ht (by rw[←e];exact dC g hm)];exact hg
 refine⟨v,w,h1,σ,own,hv,h.setReg ht ⟨fun _=>aF.mono' (.refl σ) (.refl S hv) h3 h2,fun e=>absurd (hh.symm.trans e) (by decide)⟩ af (fun bJ s' e=>?_)⟩;cases e;exact⟨dC,h3⟩
theorem Inv.passed (h:Inv C S ρ σ own hv w0 σ0 A a w)(ht:¬A dst)(af:dst<a.tmps.size)(dC:∀g,g∈gs→A g.1)(hg:holds gs ρ=false){s:Sh}(hs:∀bJ s',s≠.opt bJ s')(d:D):Inv C (S.setR dst (.opt gs s)) (ρ.setR dst d) σ own hv w0 σ0 (fun u=>A u∨u=dst) (a.put (some dst) undef) w:=by
 have hh:holds gs (ρ.setR dst d)=false:=by rw[B0 (t:=dst) (d:=d) fun g hm e=>ht (by rw[←e];exact dC g hm)];exact hg
 refine h.setReg ht (s:=.opt gs s) (v:=undef) (d:=d) ⟨fun e=>absurd (hh.symm.trans e) (by decide),fun _=>rfl⟩ af (fun bJ s' e=>?_);cases e;exact⟨dC,hs⟩
theorem Inv.mkObj (h:Inv C S ρ σ own hv w0 σ0 A a w)(ht:¬A dst)(af:dst<a.tmps.size)(ob:Ob)(d:D)(v:Value)(nb:Nat→Bool){w':World}(hw:Below w.heap.size w w')(dP:∀k,nb k=true→w.heap.size≤k∧k<w'.heap.size)
 (cI:bW C (S.newO dst ob) (ρ.setO dst d) σ (fb own dst nb) (bV hv dst v) w' w0.heap.size dst ob) (lQ:ob≠.tr:=by intro h;cases h):
 Good C w0 σ0 (Cx.mkObj S dst ob) ((ρ.setO dst d).setR dst .none) (fun u=>A u∨u=dst) (a.put (some dst) v) w':=by
 have h1:=h.newO dst ob d v nb hw dP cI lQ;have h2:=h1.setObj ht (j:=dst) (v:=v) (aL _ _ _) af;have e:(S.newO dst ob).ver dst=S.ver dst+1:=aL _ _ _;rw[e] at h2;exact⟨_,_,_,h2⟩
theorem Inv.mkPtr (h:Inv C S ρ σ own hv w0 σ0 A a w)(ht:¬A dst)(af:dst<a.tmps.size)(ob:Ob)(d:D)(k:Nat)(nb:Nat→Bool){w':World}(hw:Below w.heap.size w w')(dP:∀k,nb k=true→w.heap.size≤k∧k<w'.heap.size)
 (cI:bW C (S.newO dst ob) (ρ.setO dst d) σ (fb own dst nb) (bV hv dst (.pointer (some ⟨k,0,none⟩))) w' w0.heap.size dst ob) (lQ:ob≠.tr:=by intro h;cases h):
 Good C w0 σ0 (Cx.mkPtr S dst ob) ((ρ.setO dst d).setR dst .none) (fun u=>A u∨u=dst) (a.put (some dst) (.pointer (some ⟨k,0,none⟩))) w':=by
 have h1:=h.newO dst ob d _ nb hw dP cI lQ;have e:(S.newO dst ob).ver dst=S.ver dst+1:=aL _ _ _;have h2:=h1.setReg ht (s:=.ptr dst (S.ver dst+1) 0) (v:=.pointer (some ⟨k,0,none⟩)) (d:=.none) ⟨Nat.le_of_eq e.symm,fun _=>⟨k,aL _ _ _,rfl⟩⟩ af (fun _ _ e=>by cases e);exact⟨_,_,_,h2⟩
theorem DM {e:PE}{ρ':Env}(h:PI.runs Φ [.setO dst e,.setR dst (.con .none)] ρ=some ρ'):ρ'=(ρ.setO dst (e.ev ρ)).setR dst .none:=by
 simp[PI.runs,PI.run,PE.ev] at h;exact h.symm
theorem TK (h:Inv C S ρ σ own hv w0 σ0 A a w){t:Ty}{v:Value}{d:D}(hr:Rep C.cap σ t v d)(ho:t.rowT=true∨t.one=true)(ag:Bool)(T:TypeId):
 bW C (S.newO dst (.box ag (t.flat.map .dat))) (ρ.setO dst (.agg d.cells)) σ (fb own dst (fun k=>Nat.beq k w.heap.size)) (bV hv dst (.pointer (some ⟨w.heap.size,0,none⟩))) (w.alloc (.cells v.cells T)) w0.heap.size dst (.box ag (t.flat.map .dat)):=by
 obtain⟨f1,f2,f3⟩:=hr.flat ho;refine⟨w.heap.size,v.cells,T,d.cells,aL _ _ _,by simp[fb],heap_alloc_new w _,by rw[hr.size];simp[f1],by simp[Env.setO,aL],by simp[f1,f2],fun i s hi=>?_⟩;simp only[cl,ax] at hi;obtain⟨ti,MD,rfl⟩:=hi;exact⟨fun _ _ e=>(by cases e),(f3 i ti MD).2⟩
theorem aev (h:Inv C S ρ σ own hv w0 σ0 A a w)(hC:CtxOK C σ0)(ht:¬A dst)(af:dst<a.tmps.size){T:TypeId}{x:Operand}{r:St×List PI}(hr:A1 C S dst T x=some r){o:Oper}(hd:o.dst=some dst)(ho:o.op=.assign x):bS C w0 σ0 Φ S ρ A a w o r:=by
 unfold A1 at hr;split at hr
 case h_2=>cases hr
 rename_i e0 e1 E hu hT;simp only[ax] at hr;obtain⟨e,he,rfl⟩:=hr;have hx:=bZ h hC rfl hu;have cf:a.eval x=.slice none 0 0:=by
  generalize a.eval x=v at hx;generalize e1.ev ρ=d at hx;cases hx;rfl
 refine bS.value hd fun ρ' aj=>⟨.slice none 0 0,w,by simp[execOp,ho,cf],?_⟩
 rw[DM aj];exact h.mkObj ht af (.row E e) _ _ (fun _=>false) (.refl _ _) (by simp) ⟨[],[],by simp[Env.setO,aL,PE.ev],by rw[aL];exact World.ownsRow_nil _ _ _ _,⟨fun _=>undef,by simp,by simp⟩,by rw[aL];simp[Value.ownBlock]⟩
theorem ad5 (h:Inv C S ρ σ own hv w0 σ0 A a w)(ht:¬A dst)(af:dst<a.tmps.size){T:TypeId}{r:St×List PI}(hr:AS C S dst T=some r){o:Oper}(hd:o.dst=some dst)(ho:o.op=.alloc T):bS C w0 σ0 Φ S ρ A a w o r:=by
 unfold AS at hr;split at hr
 case h_2=>cases hr
 rename_i t inf ag ME hi ha;cases hc:(rJ inf t&&(t.rowT||t.one))<;>simp only[hc,cond_true,cond_false] at hr
 ·cases hr
 simp only[aq,jy] at hc;simp only[ax] at hr;obtain⟨z,hz,rfl⟩:=hr;obtain⟨v0,nU,yN⟩:∃v0,inf.zero=some v0∧iu t v0=true:=by
  have:=hc.1;unfold rJ at this;split at this
  ·exact⟨_,by assumption,this⟩
  ·cases this
 obtain⟨k1,k2,k3⟩:=wD (cap:=C.cap) (σ:=σ) hz yN;have lT:z.1.rowT=true∨z.1.one=true:=by
  rcases hc.2 with e|e
  ·left;cases t<;>simp[Ty.rowT] at e;simp[m9] at hz;obtain⟨_,_,rfl⟩:=hz;rfl
  ·right;rw[k3];exact e
 refine bS.value hd fun ρ' aj=>⟨.pointer (some ⟨w.heap.size,0,none⟩),w.alloc (.cells v0.cells T),?_,?_⟩
 ·simp[execOp,ho,Instr.alloc,zeroValue,run_typeInfo w hi,nU,newVar,newRow]
 ·rw[DM aj];exact h.mkPtr ht af _ _ _ (fun k=>Nat.beq k w.heap.size) ((Below.refl _ _).alloc (aU _) _) (fun k hk=>by simp at hk;simp;omega) (TK h k1 lT ag T)
theorem ad9 (h:Inv C S ρ σ own hv w0 σ0 A a w)(hC:CtxOK C σ0)(ht:¬A dst)(af:dst<a.tmps.size){T:TypeId}{x:Operand}{r:St×List PI}(hr:AU C S dst T x=some r){o:Oper}(hd:o.dst=some dst)(ho:o.op=.box T x):bS C w0 σ0 Φ S ρ A a w o r:=by
 unfold AU at hr;split at hr
 case h_2=>cases hr
 rename_i t e ag hu ha;cases hc:(t.rowT||t.one)<;>simp only[hc,cond_true,cond_false] at hr
 ·cases hr
 cases hr;simp only[jy] at hc;have hx:=bZ h hC rfl hu;refine bS.value hd fun ρ' aj=>⟨.pointer (some ⟨w.heap.size,0,none⟩),w.alloc (.cells (a.eval x).cells T),?_,?_⟩
 ·simp[execOp,ho,Instr.box,newVar,newRow]
 ·rw[DM aj];have:(PE.mk [e]).ev ρ=.agg (e.ev ρ).cells:=by simp[PE.ev,PE.evc]
  rw[this];exact h.mkPtr ht af _ _ _ (fun k=>Nat.beq k w.heap.size) ((Below.refl _ _).alloc (aU _) _) (fun k hk=>by simp at hk;simp;omega) (TK h hx hc ag T)
theorem aep (h:Inv C S ρ σ own hv w0 σ0 A a w)(ht:¬A dst)(af:dst<a.tmps.size){T:TypeId}{m:Option Operand}{r:St×List PI}(hr:AY C S dst T m=some r){o:Oper}(hd:o.dst=some dst)(ho:o.op=.makeMap T m):bS C w0 σ0 Φ S ρ A a w o r:=by
 unfold AY at hr;split at hr
 case h_2=>cases hr
 rename_i K E hT;simp only[ar,ax] at hr;obtain⟨kt,hk,et,he,rfl⟩:=hr;refine bS.value hd fun ρ' aj=>⟨.map (some w.heap.size),w.alloc (.map #[] 0),?_,?_⟩
 ·simp[execOp,ho,Instr.makeMap]
 ·rw[DM aj]
  exact h.mkObj ht af (.mp kt et) _ _ (fun k=>Nat.beq k w.heap.size) ((Below.refl _ _).alloc (aU _) _) (fun k hk=>by simp at hk;simp;omega)
   ⟨w.heap.size,#[],0,[],aL _ _ _,by simp[fb],heap_alloc_new w _,by simp[Env.setO,aL,PE.ev],rfl,⟨by simp,by simp[lq]⟩,by simp⟩
theorem aex (h:Inv C S ρ σ own hv w0 σ0 A a w)(ht:¬A dst)(af:dst<a.tmps.size){T:TypeId}{x:Operand}{r:St×List PI}(hr:A2 C S dst T x=some r){o:Oper}(hd:o.dst=some dst)(ho:o.op=.range T x):bS C w0 σ0 Φ S ρ A a w o r:=by
 unfold A2 at hr;split at hr
 case h_2=>cases hr
 rename_i K E j ver hT es;obtain⟨dX,_⟩:=tB h (gs:=[]) rfl x;rw[es] at dX;cases hb:(Nat.beq ver (S.ver j)&& !Nat.beq j dst)<;>simp only[hb,cond_true,cond_false] at hr
 ·cases hr
 simp only[aq,jx] at hb;have cf:=dX.2 (aw hb.1);have az:j≠dst:=fun e=>by subst e;simp at hb
 have aX:=h.objs j;split at hr
 case h_2=>cases hr
 rename_i kt et eo;cases hr;rw[eo] at aX;obtain⟨m,arr,clock,ds,h1,h2,h3,h4,h5,⟨h6,pk⟩,h7⟩:=aX;have kc:=h.mv az (by rw[eo];rfl);have qY:m<w.heap.size:=(eA.1 h3).1;have L2:w0.heap.size≤m:=(h.owns m j h2).1;refine bS.value hd fun ρ' aj=>⟨.pointer (some ⟨w.heap.size,0,none⟩),w.alloc (.mapIter (some m) clock #[] clock),?_,?_⟩
 ·simp[execOp,ho,Instr.range,cf,h1,run_underlying hT,getObj,Sem.run,h3]
 have hρ:ρ'=((ρ.setO dst (.tup [.list [],.map ds])).setR dst .none):=by
  simp[PI.runs,PI.run,PE.ev,PE.evs,h4] at aj;exact aj.symm
 subst hρ;have eh:Below w.heap.size w (w.alloc (.mapIter (some m) clock #[] clock)):=(Below.refl _ _).alloc (aU _) _;have My:=kc.step (S':=(S.mv j dst).newO dst (.it kt et)) (ρ':=(ρ.setO dst (.tup [.list [],.map ds]))) (σ':=σ) (hv':=bV (bV hv dst (hv j)) dst (.pointer (some ⟨w.heap.size,0,none⟩)))
  (own':=fun k=>if k=w.heap.size then some dst else(if own k=some j then some dst else if own k=some dst then none else own k)) (a':=a) (A':=A) (w':=w.alloc (.mapIter (some m) clock #[] clock)) (fun i=>i=dst)
  rfl (.refl σ) (h.ok.below eh) (fun _ _ _ hx=>.inl hx) (fun _ _ hx=>.inl hx) (eh.mono h.below.size) ⟨fun i=>?_,fun i e=>?_⟩ (fun i hi=>⟨?_,?_,?_,fun k hk=>⟨?_,?_⟩⟩) (fun i hi=>?_) (fun k i hk=>?_) (fun _=>id) (fun t=>.inl ⟨rfl,rfl,rfl⟩) (fun _ _=>rfl) (fun k hk _=>eh.block k hk) (fun k i hk=>?_) (fun i hi=>by subst hi;simp[St.newO,aL])
 ·have j7:=My.setObj ht (j:=dst) (v:=.pointer (some ⟨w.heap.size,0,none⟩)) (aL _ _ _) af;have e:((S.mv j dst).newO dst (.it kt et)).ver dst=(S.mv j dst).ver dst+1:=aL _ _ _;rw[e] at j7;exact⟨_,_,_,j7⟩
 ·simp only[St.newO,fg];split<;>rename_i e
  ·subst e;omega
  ·omega
 ·simp only[St.newO,fg] at e;split at e
  ·rename_i e';subst e';omega
  ·rename_i L7;exact bq _ _ L7
 ·simp[St.newO,bq _ _ hi]
 ·simp[Env.setO,bq _ _ hi]
 ·exact bq _ _ hi
 ·have axe:=(kc.owns k i hk).2.1;have bL:k≠w.heap.size:=by omega
  simp only[if_neg bL];exact hk
 ·exact eh.block k (kc.owns k i hk).2.1
 ·subst hi;simp only[St.newO,aL];have eF:m≠w.heap.size:=by omega
  refine⟨w.heap.size,m,arr,clock,ds,[],aL _ _ _,by simp,by simp[eF,h2],by omega,?_,heap_alloc_new w _,by simp[Env.setO,aL,fP],List.nodup_nil,by simp,h5,pk,h7⟩;rw[eh.block m qY];exact h3
 ·split at hk
  ·rename_i e;subst e;refine⟨h.below.size,by simp,fun o=>?_,?_⟩
   ·cases hc:σ.c w.heap.size o with
    |none=>rfl
    |some u=>have:=h.lt hc;omega
   ·cases hc:σ.m w.heap.size with
    |none=>rfl
    |some u=>have:=h.ltm hc;omega
  ·obtain⟨g1,g2,g3,g4⟩:=kc.owns k i hk;exact⟨g1,by simp;omega,g3,g4⟩
 ·split at hk
  ·rename_i e;subst e;exact .inr (aU _)
  ·exact .inl ⟨i,hk⟩
theorem aed (h:Inv C S ρ σ own hv w0 σ0 A a w)(hC:CtxOK C σ0)(ht:¬A dst)(af:dst<a.tmps.size){T U:TypeId}{x:Operand}{r:St×List PI}(hr:AV C S dst T U x=some r){o:Oper}(hd:o.dst=some dst)(ho:o.op=.convert T U x):bS C w0 σ0 Φ S ρ A a w o r:=by
 unfold AV at hr;split at hr
 case h_2=>cases hr
 rename_i e E hu hT hU;split at hr
 case h_2=>cases hr
 rename_i hE;cases hr;have hx:=bZ h hC rfl hu;obtain⟨s,aQ,bf,hs⟩:=hx.str_inv;have sF:=Lib.run_convert_string_bytes (P:=C.P) w T U E s hT hU hE;refine bS.value hd fun ρ' aj=>⟨.slice (some ⟨w.heap.size,0,none⟩) s.size (grownCap w s.size 0 E),Lib.bytesWorld w E s,by simp[execOp,ho,aQ,sF],?_⟩
 simp only[PI.runs,PI.run,ar] at aj;obtain⟨ρ1,g1,ρ2,g2,g3⟩:=aj;cases c1:((PE.ci BinOp.leq (.slen e) (.con (.int lZ))).ev ρ).b<;>simp only[c1,cond_true,cond_false] at g1
 ·cases g1
 cases g1;cases g2;cases g3;have ah9:s.size≤4294967296:=by
  simp[PE.ev,bf,D.s,D.i,D.b,gz,D.int,lZ] at c1;omega
 have eh:Below w.heap.size w (Lib.bytesWorld w E s):=⟨rfl,rfl,rfl,by rw[Lib.bytesWorld_size];omega,fun k hk=>Lib.bytesWorld_at_old w E s k hk⟩
 have aN:(Lib.bytesWorld w E s).heap.size=w.heap.size+1:=Lib.bytesWorld_size w E s
 let σ':Im:={c:=fun k i=>if k=w.heap.size then(if i<s.size then some (.int .u8 (s.data.toList.getD i 0).toNat) else none) else σ.c k i,m:=σ.m}
 have hle:σ.le σ':=by
  refine⟨fun k o v hc=>?_,fun k es hc=>hc⟩;have:k≠w.heap.size:=by have:=h.lt hc;omega
  simp[σ',this,hc]
 have au:σ'.ok (Lib.bytesWorld w E s):=by
  refine⟨fun k i v hc=>?_,(h.ok.below eh).m⟩;simp only[σ'] at hc;split at hc
  ·rename_i ek;subst ek;split at hc
   ·rename_i hi;cases hc;exact Lib.bytesWorld_cell w E s i hi
   ·cases hc
  ·exact(h.ok.below eh).c k i v hc
 have h1:=h.step (S':=S) (ρ':=ρ) (σ':=σ') (own':=own) (hv':=hv) (A':=A) (a':=a) (w':=Lib.bytesWorld w E s) (fun _=>False) rfl hle au (fun k i v hc=>?_) (fun k es hc=>.inl hc) (eh.mono h.below.size) ⟨fun _=>aU _,fun _ _=>rfl⟩
  (fun j _=>⟨rfl,rfl,rfl,fun k hk=>⟨hk,eh.block k (h.owns k j hk).2.1⟩⟩) (fun j hj=>hj.elim) (fun k j hk=>?_) (fun _=>id) (fun t=>.inl ⟨rfl,rfl,rfl⟩) (fun _ _=>rfl) (fun k hk _=>eh.block k hk) (fun k i hk=>.inl ⟨i,hk⟩) (fun _ hf=>hf.elim)
 ·refine⟨_,_,_,h1.setReg ht (s:=.dat (.slice (.int .u8))) ?_ af (fun _ _ e=>by cases e)⟩;show Rep C.cap σ' _ _ _;simp only[PE.ev,bf,D.s];refine .slice (.int .u8) w.heap.size 0 s.size _ _ (fun i=>.int .u8 (s.data.toList.getD i 0).toNat) (by simp) (grownCap_ge w s.size 0 E) (grownCap_le_maxLen w s.size 0 E (by unfold maxLen;omega)) (fun i x hx=>?_) (fun i j u hi hu=>?_)
  ·simp only[cl,ax] at hx;obtain⟨b,hb,rfl⟩:=hx;have:s.data.toList.getD i 0=b:=by simp[aI,hb]
   rw[this];have:=b.toNat_lt;exact .int .u8 _ (by show(0:Int)≤_;omega) (by show _≤(255:Int);omega)
  ·have hj:j=0:=by
        have:=(eA.1 hu).1;simp[Value.cells] at this;exact this
   subst hj;simp[Value.cells] at hu;subst hu;simp[σ',Ty.size,hi]
 ·simp only[σ'] at hc;split at hc
  ·rename_i ek;exact .inr ⟨by have:=h.below.size;omega,.inr (by omega)⟩
  ·exact .inl hc
 ·obtain⟨g1,g2,g3,g4⟩:=h.owns k j hk;refine⟨g1,by omega,fun i=>?_,g4⟩;have:k≠w.heap.size:=by omega
  simp[σ',this,g3 i]
end
end Cx
namespace Cx
open Go Go.RowKit
def FX (C:Ctx)(S:St)(gs:List (Nat×Bool))(e:Ty)(z:D)(parts:List (Nat×Operand))(i:Nat):Option PE:=
 match parts.find? (fun p=>Nat.beq p.1 i) with
 |some p=>(use C S gs p.2).bind fun a=>bif Ty.sub a.1 e then some a.2 else Option.none
 |Option.none=>some (PE.con z)
def uy (C:Ctx)(S:St)(gs:List (Nat×Bool))(dst:Nat)(T:TypeId)(len:Nat)(parts:List (Nat×Operand)):j1:=
 match C.P.underlying T with
 |some (.slice E)=>
  (m6 C.P E).bind fun e=>(m9 e).bind fun z=>
    bif oX C.P E e&&Ty.sub z.1 e&&iS (parts.map (·.1))&&parts.all (fun p=>Nat.blt p.1 len)&&Nat.ble (len*e.size) 16777216 then
     ((List.range len).mapM (FX C S gs e z.2 parts)).map fun es=>(mkObj S dst (.row E e),[.setO dst (.lst es),.setR dst (.con .none)])
    else Option.none
 |_=>Option.none
def xS (C:Ctx)(S:St)(gs:List (Nat×Bool))(dst:Nat)(T:TypeId)(len:Nat)(parts:List (Nat×Operand)):j1:=
 match C.P.underlying T,uy C S gs dst T len parts with
 |some (.slice E),some r=>
  (m6 C.P E).bind fun e=>
    match r.2 with
    |.setO _ x::_=>some ((S.newO dst .dead).setR dst (match gs with|[]=>.dat (.slice e.rol)|_=>.opt gs (.dat (.slice e.rol))),[.setR dst x])
    |_=>Option.none
 |_,_=>Option.none
def A3 (C:Ctx)(S:St)(T:TypeId)(x v:Operand):j1:=
 match C.P.info? T with
 |some inf=>
  match gM S [] x with
  |.ptr j ver off=>
   bif Nat.beq ver (S.ver j) then
    match S.o j with
    |.box ag shs=>
     match use C S [] v with
     |some (t,e)=>
      bif Nat.beq inf.size t.size&&(t.rowT||t.one)&&Nat.ble (off+t.size) shs.length then
             some (S.setO j (.box ag (shs.take off++t.flat.map .dat++shs.drop (off+t.size))),[.setO j (.setc (.o j) off e)])
      else Option.none
     |Option.none=>
      match gM S [] v with
      |.obj j' m8=>
       bif Nat.beq m8 (S.ver j')&&kS (S.o j')&&Nat.beq inf.size 1&&Nat.blt off shs.length then
              some (S.setO j (.box ag (shs.set off (.obj j' m8))),[.setO j (.setc (.o j) off (.con .none))])
       else Option.none
      |_=>Option.none
    |_=>Option.none
   else Option.none
  |.eptr j ver size off=>
   bif Nat.beq ver (S.ver j) then
    match S.o j,use C S [] v with
    |.row _ (.agg ts),some (t,e)=>
     bif Nat.beq inf.size t.size&&(t.rowT||t.one)&&Nat.beq size ts.length&&Nat.ble (off+t.size) ts.length&&Ty.subs t.flat ((ts.drop off).take t.size) then
         some (S,[.setO j (.setn (.o j) (tu x) off e)])
     else Option.none
    |.row _ e0,some (t,e)=>
     bif Nat.beq inf.size 1&&Nat.beq size 1&&Nat.beq off 0&&e0.one&&Ty.sub t e0 then some (S,[.setO j (.setn (.o j) (tu x) 0 e)]) else Option.none
    |_,_=>Option.none
   else Option.none
  |_=>Option.none
 |Option.none=>Option.none
def xT (C:Ctx)(S:St)(T:TypeId)(m k v:Operand):j1:=
 match C.P.underlying T,gM S [] m with
 |some (.map K _),.obj j ver=>
  bif Nat.beq ver (S.ver j) then
   match S.o j,use C S [] k,use C S [] v with
   |.mp kt et,some (tk,ek),some (tv,ev)=>
    bif Ty.beq tk kt&&sP C.P K kt&&Ty.sub tv et then some (S,[.chk (.ci .lss (.mlen (.o j)) (.con (.int lZ))),.setO j (.put (.o j) ek ev)]) else Option.none
   |_,_,_=>Option.none
  else Option.none
 |_,_=>Option.none
def Hf (x y:PE):PE:=.ci .leq (.llen (.app x y)) (.con (.int lZ))
def I9:Ty→Ty→Bool
 |.slice e',e=>Ty.beq e'.unf e
 |.nils _,_=>true
 |_,_=>false
def AT (C:Ctx)(S:St)(dst:Nat)(T:TypeId)(s x:Operand):j1:=
 match C.P.underlying T with
 |some (.slice E)=>
  (m6 C.P E).bind fun e=>
    match view C S [] x with
    |some (tx,ex)=>
     bif oX C.P E e&&I9 tx e then
        match use C S [] s with
        |some (.nils _,_)=>some (mkObj S dst (.row E e),[.chk (Hf (.con (.list [])) ex),.setO dst (.app (.con (.list [])) ex),.setR dst (.con .none)])
        |some _=>Option.none
        |Option.none=>
         match gM S [] s with
         |.obj j ver=>
          bif Nat.beq ver (S.ver j) then
             match S.o j with
             |.row E' e'=>
              bif Nat.beq E' E&&Ty.beq e' e then
                some ((S.newO j (.row E e)).setR dst (.obj j (S.ver j+1)),[.chk (Hf (.o j) ex),.setO j (.app (.o j) ex),.setR dst (.con .none)])
              else Option.none
             |_=>Option.none
          else Option.none
         |_=>Option.none
     else Option.none
    |Option.none=>Option.none
 |_=>Option.none
theorem KX {P:Program}{T:TypeId}{e:Ty}(h:oX P T e=true):∃inf z,P.info? T=some inf∧inf.size=e.size∧inf.bytes≤vp∧1≤e.size∧inf.zero=some z∧iu e z=true:=by
 unfold oX at h;split at h
 ·rename_i i hi;simp only[aq] at h;have h4:=h.2;unfold rJ at h4;split at h4
  ·rename_i z hz;exact⟨i,z,hi,aw h.1.1.1,j3 h.1.1.2,j3 h.1.2,hz,h4⟩
  ·cases h4
 ·cases h
theorem SD {e:Ty}{z:Value}(h:iu e z=true):z.cells.size=e.size:=by
 cases e with
 |agg ts=>
  cases z with
  |agg vs=>simp only[iu] at h;have:=(SF ts vs.toList h).1;simpa [Value.cells,Ty.size] using this
  |_=>simp[iu] at h
 |_=>cases z<;>simp_all [iu,wC,Value.cells,Ty.size]
theorem adp {ρ:Env}{x y:PE}(h:((PE.ci .lss x y).ev ρ).b=true):(x.ev ρ).i<(y.ev ρ).i:=by
 simpa [PE.ev,D.b_bool,gz] using h
theorem T3 {ρ:Env}{x y:PE}(h:((PE.ci .leq x y).ev ρ).b=true):(x.ev ρ).i≤(y.ev ρ).i:=by
 simpa [PE.ev,D.b_bool,gz] using h
theorem aj6 {n:Nat}(h:(n:Int)<lZ):n<4294967296:=by unfold lZ at h;omega
theorem WV {n:Nat}(h:(n:Int)≤lZ):n≤4294967296:=by unfold lZ at h;omega
theorem St.setO_self {S:St}{j:Nat}{ob:Ob}(h:S.o j=ob):S.setO j ob=S:=by
 have:bV S.o j ob=S.o:=by
  funext i;rw[fg];split
  ·rename_i e;subst e;exact h.symm
  ·rfl
 cases S;simp only[St.setO] at this ⊢;rw[this]
section
variable {C:Ctx} {S:St} {ρ:Env} {σ:Im} {own:Nat→Option Nat} {hv:Nat→Value} {w0:World} {σ0:Base} {A:Nat→Prop} {a:Act} {w:World} {gs:List (Nat×Bool)} {Φ:aJ} {dst:Nat}
theorem Inv.updO (h:Inv C S ρ σ own hv w0 σ0 A a w)(j:Nat)(ob:Ob)(d:D)(v:Value)(nb:Nat→Bool){w':World}(hw:Below w0.heap.size w w')
 (qQ:∀k,k<w.heap.size→own k≠some j→w'.heap[k]?=w.heap[k]?) (dP:∀k,nb k=true→(own k=some j∨w.heap.size≤k)∧k<w'.heap.size)
 (cI:bW C (S.newO j ob) (ρ.setO j d) σ (fb own j nb) (bV hv j v) w' w0.heap.size j ob) (lQ:ob≠.tr:=by intro h;cases h):Inv C (S.newO j ob) (ρ.setO j d) σ (fb own j nb) (bV hv j v) w0 σ0 A a w':=by
 have aN:w0.heap.size≤w.heap.size:=h.below.size;have bt:∀k i,i≠j→own k=some i→fb own j nb k=some i:=by
  intro k i hi hk;have h1:=h.owns k i hk;have h2:nb k=false:=by
   cases hn:nb k with
   |false=>rfl
   |true=>
    rcases(dP k hn).1 with e|e
    ·rw[hk] at e;simp at e;exact absurd e hi
    ·omega
  simp[fb,h2,hk,hi]
 have au:σ.ok w':=by
  refine⟨fun k o u hc=>?_,fun k es hc=>?_⟩
  ·have az:own k≠some j:=fun e=>by rw[(h.owns k j e).2.2.1 o] at hc;cases hc
   rw[World.cell?_of_block (qQ k (h.lt hc) az)];exact h.ok.c k o u hc
  ·have az:own k≠some j:=fun e=>by rw[(h.owns k j e).2.2.2] at hc;cases hc
   exact(h.ok.m k es hc).keep (qQ k (h.ltm hc) az)
 refine h.step (fun i=>i=j) rfl (.refl σ) au (fun _ _ _ hx=>.inl hx) (fun _ _ hx=>.inl hx) hw ⟨fun i=>?_,fun i e=>?_⟩ (fun i hi=>⟨?_,?_,?_,fun k hk=>⟨bt k i hi hk,?_⟩⟩) (fun i hi=>?_) (fun k i hk=>?_) (fun _=>id) (fun t=>.inl ⟨rfl,rfl,rfl⟩) (fun _ _=>rfl) (fun k hk e=>qQ k hk (by rw[e];simp)) (fun k i hk=>by
  unfold fb at hk;split at hk
  ·rename_i hn;rcases(dP k hn).1 with e|e
   ·exact .inl ⟨j,e⟩
   ·exact .inr e
  ·split at hk
   ·cases hk
   ·exact .inl ⟨i,hk⟩) (fun i hi=>by subst hi;simpa only[St.newO,aL] using lQ)
 ·simp only[St.newO,fg];split<;>rename_i e
  ·subst e;omega
  ·omega
 ·simp only[St.newO,fg] at e;split at e
  ·rename_i e';subst e';omega
  ·rename_i az;exact bq _ _ az
 ·simp[St.newO,bq _ _ hi]
 ·simp[Env.setO,bq _ _ hi]
 ·exact bq _ _ hi
 ·exact qQ k (h.owns k i hk).2.1 (by rw[hk];simpa using hi)
 ·subst hi;simp only[St.newO,aL];exact cI
 ·unfold fb at hk;split at hk
  ·rename_i hn;obtain⟨g1,g2⟩:=dP k hn;rcases g1 with e|e
   ·obtain⟨f1,f2,f3,f4⟩:=h.owns k j e;exact⟨f1,g2,f3,f4⟩
   ·refine⟨by omega,g2,fun o=>?_,?_⟩
    ·cases hc:σ.c k o with
     |none=>rfl
     |some u=>have:=h.lt hc;omega
    ·cases hc:σ.m k with
     |none=>rfl
     |some u=>have:=h.ltm hc;omega
  ·split at hk
   ·cases hk
   ·obtain⟨g1,g2,g3,g4⟩:=h.owns k i hk;exact⟨g1,by have:=hw.size;omega,g3,g4⟩
theorem Inv.updB (h:Inv C S ρ σ own hv w0 σ0 A a w)(j:Nat)(ob:Ob)(d:D){w':World}(hw:Below w0.heap.size w w')
 (qQ:∀k,k<w.heap.size→own k≠some j→w'.heap[k]?=w.heap[k]?)
 (cI:bW C (S.setO j ob) (ρ.setO j d) σ own hv w' w0.heap.size j ob) (lQ:ob≠.tr:=by intro h;cases h):Inv C (S.setO j ob) (ρ.setO j d) σ own hv w0 σ0 A a w':=by
 have au:σ.ok w':=by
  refine⟨fun k o u hc=>?_,fun k es hc=>?_⟩
  ·have az:own k≠some j:=fun e=>by rw[(h.owns k j e).2.2.1 o] at hc;cases hc
   rw[World.cell?_of_block (qQ k (h.lt hc) az)];exact h.ok.c k o u hc
  ·have az:own k≠some j:=fun e=>by rw[(h.owns k j e).2.2.2] at hc;cases hc
   exact(h.ok.m k es hc).keep (qQ k (h.ltm hc) az)
 refine h.step (fun i=>i=j) rfl (.refl σ) au (fun _ _ _ hx=>.inl hx) (fun _ _ hx=>.inl hx) hw (Compat.setO _ _ _ _) (fun i hi=>⟨by simp[St.setO,bq _ _ hi],by simp[Env.setO,bq _ _ hi],rfl,fun k hk=>⟨hk,qQ k (h.owns k i hk).2.1 (by rw[hk];simpa using hi)⟩⟩) (fun i hi=>?_) (fun k i hk=>?_) (fun _=>id) (fun t=>.inl ⟨rfl,rfl,rfl⟩) (fun _ _=>rfl) (fun k hk e=>qQ k hk (by rw[e];simp)) (fun k i hk=>.inl ⟨i,hk⟩) (fun i hi=>by subst hi;rw[St.setO_o];exact lQ)
 ·subst hi;rw[St.setO_o];exact cI
 ·obtain⟨g1,g2,g3,g4⟩:=h.owns k i hk;exact⟨g1,by have:=hw.size;omega,g3,g4⟩
theorem UT {B:Nat}{w w':World}{row:Option Nat}(hg:w.grownBy w' row)(hB:B≤w.heap.size)(hr:∀k,row=some k→B≤k):Below B w w':=(Below.refl B w).grown hg hB hr
theorem Xj {z:Array Value}{n i q:Nat}(hz:0<z.size)(hi:i<n)(hq:q<z.size):(madeCells z (n*z.size))[i*z.size+q]?=z[q]?:=by
 have af:i*z.size+q<n*z.size:=by
  have:(i+1)*z.size≤n*z.size:=nm _ hi;rw[nk] at this;omega
 have hm:(i*z.size+q)%z.size=q:=by rw[Ae,abL,Ta hq]
 simp[madeCells,Array.getElem?_range,af,hm,hq]
theorem aer (h:Inv C S ρ σ own hv w0 σ0 A a w)(hC:CtxOK C σ0)(ht:¬A dst)(af:dst<a.tmps.size){T:TypeId}{l c:Operand}{r:St×List PI}(hr:AZ C S dst T l c=some r){o:Oper}(hd:o.dst=some dst)(ho:o.op=.makeSlice T l c):bS C w0 σ0 Φ S ρ A a w o r:=by
 unfold AZ at hr;split at hr
 case h_2=>cases hr
 rename_i E k1 n k2 m hT hl hc;simp only[ar] at hr;obtain⟨e,he,hr⟩:=hr;cases hf:oX C.P E e<;>simp only[hf,cond_true,cond_false] at hr
 ·cases hr
 obtain⟨inf,z0,hi,hs,hb,h1,hz,kR⟩:=KX hf;simp only[ar] at hr;obtain⟨z,hzt,hr⟩:=hr;cases bT:Ty.sub z.1 e<;>simp only[bT,cond_true,cond_false] at hr
 ·cases hr
 cases hr;obtain⟨n1,aQ,bf,b1,b2⟩:=(bZ h hC rfl hl).int_inv;obtain⟨n2,gm,dN,b3,b4⟩:=(bZ h hC rfl hc).int_inv;simp only at bf dN;have Cn:=((wD (cap:=C.cap) (σ:=σ) hzt kR).1).sub bT;refine bS.value hd fun ρ' aj=>?_;simp only[PI.runs,PI.run,ar] at aj;obtain⟨ρ1,g1,ρ2,g2,aj⟩:=aj;cases c1:((Nl n).ev ρ).b<;>simp only[c1,cond_true,cond_false] at g1
 ·cases g1
 cases g1;cases c2:((PE.ci BinOp.eql n m).ev ρ).b<;>simp only[c2,cond_true,cond_false] at g2
 ·cases g2
 cases g2;have ain:n1=n2:=by simpa [PE.ev,bf,dN,D.i_int,D.b_bool,gz] using c2
 subst ain;have hb:0≤n1∧n1≤lZ:=by simpa [Nl,PE.ev,bf,D.i_int,D.b_bool,gz,D.int] using c1
 obtain⟨nn,rfl⟩:=mh hb.1;have BX:nn≤4294967296:=by have:=hb.2;unfold lZ at this;omega
 have q9:z0.cells.size=e.size:=SD kR;obtain⟨w',r1,r2,r3⟩:=run_make_full (P:=C.P) w w0.heap.size T E inf z0 e.size hT hi hz hs k1 k2 nn (by
  have:inf.bytes*nn≤vp*4294967296:=Nat.mul_le_mul (by assumption) BX;unfold vp at this;omega) (by unfold maxLen;omega) h.below.size
 refine⟨.slice (some ⟨w.heap.size,0,none⟩) nn nn,w',by simp[execOp,ho,aQ,gm,r1],?_⟩;obtain⟨ρ3,g3,ρ4,g4,g5⟩:=aj;cases g3;cases g4;cases g5;simp only[PE.ev,bf,D.i_int,tQ];have hlen:(List.replicate nn z.2).length=nn:=by simp
 refine h.mkObj ht af (.row E e) _ _ (fun k=>Nat.beq k w.heap.size) (UT r3 (aU _) (by simp)) (fun k hk=>?_) ⟨_,List.replicate nn z.2,by simp[Env.setO,aL],by rw[aL,hlen];exact r2,⟨fun _=>z0,fun i x hx=>?_,fun i j u hi hj=>?_⟩,fun k hk=>?_⟩
 ·have bL:k=w.heap.size:=aw hk;have:=(r2.lt _ rfl).2;subst bL;exact⟨aU _,this⟩
 ·have:=(ed.1 hx)
  obtain⟨q1,q2⟩:=this;simp at q2;subst q2;exact Cn
 ·rw[hlen] at hi;have cC:j<z0.cells.size:=(eA.1 hj).1;rw[zU,←q9];rw[Xj (by omega) hi cC];exact hj
 ·rw[aL] at hk;simp[Value.ownBlock] at hk;simp[fb,hk]
theorem lq.push {arr:Array MapEntry}{clock:Nat}(h:lq arr clock)(k v:Value):lq (arr.push {key:=k,val:=v,born:=clock}) (clock+1):=by
 have key:∀(i:Nat) (e:MapEntry),(arr.push {key:=k,val:=v,born:=clock})[i]?=some e→(arr[i]?=some e∧e.born<clock)∨(i=arr.size∧e.born=clock):=by
  intro i e he;rw[Array.getElem?_push] at he;split at he
  ·rename_i hi;cases he;exact .inr ⟨hi,rfl⟩
  ·exact .inl ⟨he,h.1 i e he⟩
 refine⟨fun i e he=>?_,fun i j e f he hf hb=>?_⟩
 ·rcases key i e he with⟨_,h1⟩|⟨_,h1⟩<;>omega
 ·rcases key i e he with⟨h1,h2⟩|⟨h1,h2⟩<;>rcases key j f hf with⟨h3,h4⟩|⟨h3,h4⟩
  ·exact h.2 i j e f h1 h3 hb
  ·omega
  ·omega
  ·omega
theorem lq.modify {arr:Array MapEntry}{clock:Nat}(h:lq arr clock)(i0:Nat)(k v:Value):lq (arr.modify i0 fun e=>{e with key:=k,val:=v}) clock:=by
 have key:∀(i:Nat) (e:MapEntry),(arr.modify i0 fun e=>{e with key:=k,val:=v})[i]?=some e→∃e',arr[i]?=some e'∧e'.born=e.born:=by
  intro i e he;rw[Array.getElem?_modify] at he;split at he
  ·simp only[ax] at he;obtain⟨e',h1,rfl⟩:=he;exact⟨e',h1,rfl⟩
  ·exact⟨e,he,rfl⟩
 refine⟨fun i e he=>?_,fun i j e f he hf hb=>?_⟩
 ·obtain⟨e',h1,h2⟩:=key i e he;rw[←h2];exact h.1 i e' h1
 ·obtain⟨e',h1,h2⟩:=key i e he;obtain⟨f',h3,h4⟩:=key j f hf;exact h.2 i j e' f' h1 h3 (by rw[h2,h4,hb])
theorem Um (h:Inv C S ρ σ own hv w0 σ0 A a w)(hC:CtxOK C σ0){T:TypeId}{m k v:Operand}{r:St×List PI}(hr:xT C S T m k v=some r){o:Oper}(hd:o.dst=none)(ho:o.op=.mapUpdate T m k v∨o.op=.insert T m k v):bS C w0 σ0 Φ S ρ A a w o r:=by
 unfold xT at hr;split at hr
 case h_2=>cases hr
 rename_i K E j ver hT es;obtain⟨dX,_⟩:=tB h (gs:=[]) rfl m;rw[es] at dX;cases hb:Nat.beq ver (S.ver j)<;>simp only[hb,cond_true,cond_false] at hr
 ·cases hr
 have cf:=dX.2 (aw hb);have aX:=h.objs j;split at hr
 case h_2=>cases hr
 rename_i kt et tk ek tv ev eo hk ve;rw[eo] at aX;cases hc:(Ty.beq tk kt&&sP C.P K kt&&Ty.sub tv et)<;>simp only[hc,cond_true,cond_false] at hr
 ·cases hr
 cases hr;simp only[aq] at hc;obtain⟨⟨GN,BO⟩,bT⟩:=hc;obtain⟨g,arr,clock,ds,h1,h2,h3,h4,h5,⟨h6,pk⟩,h7⟩:=aX;have bL:=bZ h hC rfl hk;rw[Ty.beq_eq _ _ GN] at bL;have hv':=(bZ h hC rfl ve).sub bT;refine bS.skip hd fun ρ' aj=>?_;simp only[PI.runs,PI.run,ar] at aj;obtain⟨ρ1,g1,ρ2,g2,g3⟩:=aj;cases c1:((PE.ci BinOp.lss (.mlen (.o j)) (.con (.int lZ))).ev ρ).b<;>simp only[c1,cond_true,cond_false] at g1
 ·cases g1
 cases g1;cases g2;cases g3;have ah9:ds.length<4294967296:=by
  have h8:=adp c1;simp only[PE.ev,h4,D.m,D.i_int,D.int] at h8;exact aj6 h8
 have nO:(Instr.checkKey false 10000 K (a.eval k)).run C.P w=.ok () w:=T2 (cap:=C.cap) (σ:=σ) BO bL;have kl:∃rS xM ds',(Instr.mapUpdate T (a.eval m) (a.eval k) (a.eval v)).run C.P w=.ok () {w with heap:=w.heap.setIfInBounds g (.map rS xM)}∧eu (ek.ev ρ) (ev.ev ρ) ds=ds'∧ds'.length=rS.size∧(ds'.length≤maxLen∧lq rS xM)∧
  ∀(i:Nat) (e:MapEntry) (p:D×D),rS[i]?=some e→ds'[i]?=some p→Rep C.cap σ kt e.key p.1∧Rep C.cap σ et e.val p.2:=by
  rcases run_findKey BO bL arr ds h5 h7 w with⟨f1,f2,f3⟩|⟨i,e,p,f1,f2,f3,f4,f5,f6⟩
  ·refine⟨arr.push {key:=a.eval k,val:=a.eval v,born:=clock},clock+1,ds++[(ek.ev ρ,ev.ev ρ)],?_,f3 _,by simp[h5],⟨by simp;unfold maxLen;omega,pk.push _ _⟩,fun q e p he hp=>?_⟩
   ·rw[cf,h1];simp[Instr.mapUpdate,run_underlying hT,getObj,Sem.run,h3,nO,f1,setObj]
   ·rw[Array.getElem?_push] at he;rw[kD] at hp;by_cases hq:q=arr.size
    ·subst hq;simp at he;rw[if_neg (by omega)] at hp;simp[h5] at hp;subst he;subst hp;exact⟨bL,hv'⟩
    ·rw[if_neg hq] at he;have G2:q<arr.size:=(eA.1 he).1;rw[if_pos (by omega)] at hp;exact h7 q e p he hp
  ·refine⟨arr.modify i fun e=>{e with key:=a.eval k,val:=a.eval v},clock,ds.set i (ek.ev ρ,ev.ev ρ),?_,f5 _,by simp[h5],⟨by simp;exact h6,pk.modify _ _ _⟩,fun q e' p' he hp=>?_⟩
   ·rw[cf,h1];have cS:(Instr.keyThatStays e.key (a.eval k)).run C.P w=.ok (a.eval k) w:=by simp[Instr.keyThatStays,f6]
    simp[Instr.mapUpdate,run_underlying hT,getObj,Sem.run,h3,nO,f3,f1,cS,setObj]
   ·rw[Array.getElem?_modify] at he;rw[Ab] at hp;by_cases hq:i=q
    ·subst hq;simp only[if_true] at he hp;rw[f1] at he;simp at he;split at hp
     ·cases hp;subst he;exact⟨bL,hv'⟩
     ·cases hp
    ·rw[if_neg hq] at he hp;exact h7 q e' p' he hp
 obtain⟨rS,xM,ds',r1,r2,r3,r4,r5⟩:=kl;refine⟨{w with heap:=w.heap.setIfInBounds g (.map rS xM)},by rcases ho with ho|ho<;>simp[execOp,ho,r1],?_⟩;have GF:g<w.heap.size:=(eA.1 h3).1;have hgB:w0.heap.size≤g:=(h.owns g j h2).1;have bK:(PE.put (.o j) ek ev).ev ρ=.map ds':=by simp only[PE.ev,h4,D.m,r2]
 rw[bK]
 have:=h.updB j (.mp kt et) (.map ds') (w':={w with heap:=w.heap.setIfInBounds g (.map rS xM)}) ⟨rfl,rfl,rfl,by simp,fun k hk=>by simp;rw[SH (by omega)]⟩
  (fun k hk az=>by simp;rw[SH (fun e=>az (by rw[←e];exact h2))])
  ⟨g,rS,xM,ds',h1,h2,by simp[GF],by simp[Env.setO,aL],r3,r4,r5⟩
 have eS:S.setO j (.mp kt et)=S:=St.setO_self eo;rw[eS] at this;exact⟨_,_,_,this⟩
end
end Cx
namespace Cx
open Go Go.RowKit
theorem ash {e:Ty}{z:Value}(h:iu e z=true):e.rowT=true∨e.one=true:=by
 cases e<;>first|exact .inl rfl|exact .inr rfl|(cases z<;>simp[iu,wC] at h)
theorem Rep.cellsOne {cap:Nat→Option CSig}{σ:Im}{t:Ty}{v:Value}{d:D}(h:Rep cap σ t v d)(ht:t.rowT=true∨t.one=true){m:Nat}{u:Value}(hu:v.cells[m]?=some u):u.oneCell'=true:=by
 obtain⟨f1,f2,f3⟩:=h.flat ht;have af:m<v.cells.size:=(eA.1 hu).1;rw[h.size] at af;obtain⟨g1,g2⟩:=f3 m _ (be (by omega:m<t.flat.length));have:=(g2.oneCell g1).2;rw[fi,hu] at this;exact this
theorem aeP {cap:Nat→Option CSig}{σ:Im}{e:Ty}{cells:List Value}{xs:List D}(h:dT cap σ e cells xs)(hl:cells.length=xs.length*e.size)(gl:e.rowT=true∨e.one=true):∀u∈cells,u.oneCell'=true:=by
 obtain⟨vs,h1,h2⟩:=h;intro u hu;obtain⟨p,hp,rfl⟩:=fj hu;rw[hl] at hp;have hs:0<e.size:=Nat.pos_of_ne_zero fun e0=>by rw[e0] at hp;simp at hp
 have hi:p/e.size<xs.length:=(Nat.div_lt_iff_lt_mul hs).2 hp;have hq:p%e.size<e.size:=Nat.mod_lt _ hs;have bE:=h1 _ _ (be hi);have aN:=bE.size;have nN:(vs (p/e.size)).cells[p%e.size]?=some (vs (p/e.size)).cells[p%e.size]:=iY (by omega);have:=h2 _ _ _ hi nN;rw[Nat.mul_comm,Nat.div_add_mod] at this;have h3:cells[p]=(vs (p/e.size)).cells[p%e.size]:=by
  have h4:=be (show p<cells.length by omega);rw[h4] at this;exact Ek this
 rw[h3];exact bE.cellsOne gl nN
theorem aeO {cap:Nat→Option CSig}{σ:Im}{e:Ty}{c1 c2:List Value}{xs ys:List D}(h:dT cap σ e c1 xs)(k:dT cap σ e c2 ys)(hl:c1.length=xs.length*e.size):dT cap σ e (c1++c2) (xs++ys):=by
 obtain⟨vs,h1,h2⟩:=h;obtain⟨us,k1,k2⟩:=k;refine⟨fun i=>if i<xs.length then vs i else us (i-xs.length),fun i x hx=>?_,fun i j u hi hj=>?_⟩
 ·rw[kD] at hx;split at hx
  ·rename_i af;simp only[af,if_true];exact h1 i x hx
  ·rename_i af;simp only[af,if_false];exact k1 _ x hx
 ·by_cases af:i<xs.length
  ·simp only[af,if_true] at hj;have:=h2 i j u af hj;rw[mi (ed.1 this).1];exact this
  ·simp only[af,if_false] at hj;have dO:i-xs.length<ys.length:=by simp at hi;omega
   have:=k2 _ j u dO hj;have e1:i*e.size=c1.length+(i-xs.length)*e.size:=by rw[hl,←nk];congr 1;omega
   rw[mj (by omega)];rw[show i*e.size+j-c1.length=(i-xs.length)*e.size+j by omega];exact this
section
variable {C:Ctx} {S:St} {ρ:Env} {σ:Im} {own:Nat→Option Nat} {hv:Nat→Value} {w0:World} {σ0:Base} {A:Nat→Prop} {a:Act} {w:World} {gs:List (Nat×Bool)} {Φ:aJ} {dst:Nat}
theorem ar6 (h:Inv C S ρ σ own hv w0 σ0 A a w){B:Nat}{e f:Ty}{v:Value}{d:D}(hs:0<e.size)(gl:e.rowT=true∨e.one=true)(hf:f.unf=e)(MJ:JQ C σ w B (.slice f) v d):
 ∃ys,d=.list ys∧ys.length≤maxLen∧((v=.slice none 0 0∧ys=[])∨∃(ad:Addr) (c:Nat) (news:List Value),v=.slice (some ad) ys.length c∧news.length=ys.length*e.size∧
  (∀j u,news[j]?=some u→w.cell? (ad.add j)=some u)∧dT C.cap σ e news ys):=by
 rcases MJ with hr|⟨T,e',cells,xs,ht,hd,bt,fI⟩|⟨k,arr,clock,es,kt,et,ht,_⟩
 ·obtain⟨xs,hd,sn⟩:=hr.slice_inv;rw[←f.unf_size,hf] at sn;rcases sn with⟨⟨p0,aQ⟩,rfl⟩|⟨k,o,c,aQ,h1,h2,vs,h3,h4⟩
  ·cases p0 with
   |none=>exact⟨[],hd,by simp,.inl ⟨aQ,rfl⟩⟩
   |some a0=>exact⟨[],hd,by simp,.inr ⟨a0,0,[],aQ,by simp,fun j u hu=>by simp at hu,fun _=>undef,fun i x hx=>by simp at hx,fun i j u hi=>by simp at hi⟩⟩
  ·refine⟨xs,hd,by omega,.inr ⟨⟨k,o,none⟩,c,(List.range (xs.length*e.size)).map fun p=>(vs (p/e.size)).cells.getD (p%e.size) undef,aQ,by simp,fun j u hu=>?_,vs,h3,fun i j u hi hj=>?_⟩⟩
   ·simp only[cl,ax] at hu;obtain⟨p,hp,rfl⟩:=hu;have fJ:j<xs.length*e.size:=by have:=(ed.1 hp).1;simpa using this
    rw[oI fJ] at hp;cases hp;have hi:j/e.size<xs.length:=(Nat.div_lt_iff_lt_mul hs).2 fJ;have hq:j%e.size<e.size:=Nat.mod_lt _ hs;have bE:=h3 _ _ (be hi);have aN:=bE.size;have nN:(vs (j/e.size)).cells[j%e.size]?=some ((vs (j/e.size)).cells.getD (j%e.size) undef):=by
     rw[fi,iY (by omega)];rfl
    have:=h.cell (h4 _ _ _ hi nN);rw[rQ]
    rwa [show o+j/e.size*e.size+j%e.size=o+j by rw[tW,Nat.mul_comm,Nat.div_add_mod]] at this
   ·have bE:=h3 _ _ (be hi);have cC:j<e.size:=by rw[←bE.size];exact(eA.1 hj).1
    have af:i*e.size+j<xs.length*e.size:=by
     have:(i+1)*e.size≤xs.length*e.size:=nm _ hi;rw[nk] at this;omega
    have e1:(i*e.size+j)/e.size=i:=by rw[Nat.mul_comm,Nat.mul_add_div hs,Nat.div_eq_of_lt cC];omega
    have e2:(i*e.size+j)%e.size=j:=by rw[Ae,abL,Ta cC]
    simp only[cl,oI af,jE,e1,e2];rw[fi,hj];rfl
 ·cases ht;rw[Ty.unf_rol] at hf;obtain⟨b,c,aQ,hm,_⟩:=vK bt;have fI:dT C.cap σ e cells xs:=by
   obtain⟨us,u1,u2⟩:=fI;refine⟨us,fun i x hx=>hf▸(u1 i x hx).unf,fun i j u hi hu=>?_⟩;rw[←hf,Ty.unf_size];exact u2 i j u hi hu
  have bt:w.ownsRow B T e.size v xs.length cells:=by rw[←hf,Ty.unf_size];exact bt
  rcases bt.2 with⟨e1,e2⟩|⟨g,cap,cur,e1,e2⟩
  ·have:xs=[]:=SS e2;subst this;exact⟨[],hd,by simp,.inl ⟨e1,rfl⟩⟩
  ·exact⟨xs,hd,hm,.inr ⟨⟨g,0,none⟩,cap,cells,e1,bt.1,bt.cells (by rw[e1];rfl),fI⟩⟩
 ·cases ht
theorem aoO {P:Program}{B:Nat}{T E ty:TypeId}{inf:TypeInfo}{z:Value}{size:Nat}{v x:Value}{n m:Nat}{xs news:List Value}(hT:P.underlying T=some (.slice E))(hi:P.info? E=some inf)(hz:inf.zero=some z)
 (hs:inf.size=size) (q9:z.cells.size=size) (aN:0<size) (nM:inf.bytes≤vp) (bt:w.ownsRow B E size v n xs) (hB:B≤w.heap.size) (cR:n+m≤4294967296)
 (hx:(x=.slice none 0 0∧m=0∧news=[])∨∃(ad:Addr) (c:Nat),x=.slice (some ad) m c∧news.length=m*size∧(∀j u,news[j]?=some u→w.cell? (ad.add j)=some u)∧∀u∈news,u.oneCell'=true):
 ∃v' w',(Builtin.append_ #[T,T] ty #[v,x]).run P w=.ok v' w'∧w'.ownsRow B E size v' (n+m) (xs++news)∧w.grownBy w' v.ownBlock∧∀k,v'.ownBlock=some k→v.ownBlock=some k∨(w.heap.size≤k∧k<w'.heap.size):=by
 rcases hx with⟨rfl,rfl,rfl⟩|⟨ad,c,rfl,hl,GV,h1⟩
 ·refine⟨v,w,run_append_owned_none w B T ty E inf size hT hi v n xs bt,by simpa using bt,⟨rfl,rfl,rfl,aU _,fun _ _ _=>rfl⟩,fun k hk=>.inl hk⟩
 ·have LD:(n+m)*inf.bytes≤140737488355328:=by
   have:(n+m)*inf.bytes≤4294967296*vp:=Nat.mul_le_mul cR nM;unfold vp at this;omega
  obtain⟨v',w',r1,r2,r3,r4⟩:=run_append_own (P:=P) w B T ty E inf z size inf.bytes hT hi hz hs rfl q9 aN v n xs bt ad m c news hl GV h1 (by unfold maxLen;omega) LD hB;refine⟨v',w',r1,r2,r3,fun k hk=>?_⟩;have af:=(r2.lt k hk).2;subst hs;rcases bt.2 with⟨rfl,rfl⟩|⟨g,cap,cur,rfl,hbg,hg,dz,lJ,da,Cf⟩
  ·by_cases hm:m=0
   ·subst hm;have:=r4.2 ⟨rfl,rfl⟩;subst this;simp[Value.ownBlock] at hk
   ·have hr:=run_append_nil (P:=P) w T ty E inf z hT hi hz ad m c news hl GV (by omega) (by omega) (by have hb:=LD;simp only[jD] at hb;omega);rw[hr] at r1;cases r1;simp[Value.ownBlock] at hk;subst hk;exact .inr ⟨aU _,af⟩
  ·by_cases V8:n+m≤cap
   ·have GB:n*inf.size+news.length≤cur.size:=by rw[hl,da,←nk];exact nm _ V8
    have hr:=run_append_room (P:=P) w T ty E inf hT hi g n cap cur hg ad m c news hl GV h1 V8 GB;rw[hr] at r1;cases r1;exact .inl hk
   ·have hr:=run_append_grow (P:=P) w T ty E inf z hT hi hz ⟨g,0,none⟩ n cap xs bt.1 (bt.cells (g:=g) rfl) ad m c news hl GV (by omega) (by omega) (growslice_fits (by omega) LD);rw[hr] at r1;cases r1;simp[Value.ownBlock] at hk;subst hk;exact .inr ⟨aU _,af⟩
theorem ad7 (h:Inv C S ρ σ own hv w0 σ0 A a w)(hC:CtxOK C σ0)(ht:¬A dst)(af:dst<a.tmps.size){T:TypeId}{s x:Operand}{r:St×List PI}(hr:AT C S dst T s x=some r){o:Oper}(hd:o.dst=some dst)
 (ho:o.op=.call {callee:=.builtin .append,args:=#[s,x],argTypes:=#[T,T]}):bS C w0 σ0 Φ S ρ A a w o r:=by
 unfold AT at hr;split at hr
 case h_2=>cases hr
 rename_i E hT;simp only[ar] at hr;obtain⟨e,he,hr⟩:=hr;split at hr
 case h_2=>cases hr
 rename_i tx ex MJ;have hv':=SA h hC (gs:=[]) rfl MJ;obtain⟨cs,aj⟩:=P8 (C:=C) (w:=w) (a:=a) ho;cases hc:(oX C.P E e&&I9 tx e)<;>simp only[hc,cond_true,cond_false] at hr
 ·cases hr
 simp only[aq] at hc;obtain⟨inf,z,hi,hs,nM,h1,hz,kR⟩:=KX hc.1;have q9:=SD kR;have gl:=ash kR;have MK:∃f:Ty,f.unf=e∧JQ C σ w w0.heap.size (.slice f) (a.eval x) (ex.ev ρ):=by
  have cS:=hc.2;unfold I9 at cS;split at cS
  ·exact⟨_,Ty.beq_eq _ _ cS,hv'⟩
  ·refine⟨e,Ty.unf_ro gl,?_⟩;rcases hv' with hr|⟨_,_,_,_,ht,_⟩|⟨_,_,_,_,_,_,ht,_⟩
   ·exact .inl (hr.sub (by simp[Ty.sub]))
   ·cases ht
   ·cases ht
  ·cases cS
 obtain⟨fv,dY,MK⟩:=MK;obtain⟨ys,Gy,ko,ai9⟩:=ar6 h h1 gl dY MK;have hx:∃news,dT C.cap σ e news ys∧news.length=ys.length*e.size∧((a.eval x=.slice none 0 0∧ys.length=0∧news=[])∨∃(ad:Addr) (c:Nat),a.eval x=.slice (some ad) ys.length c∧news.length=ys.length*e.size∧(∀j u,news[j]?=some u→w.cell? (ad.add j)=some u)∧∀u∈news,u.oneCell'=true):=by
  rcases ai9 with⟨e1,rfl⟩|⟨ad,c,news,e1,e2,e3,e4⟩
  ·exact⟨[],⟨fun _=>undef,by simp,by simp⟩,by simp,.inl ⟨e1,rfl,rfl⟩⟩
  ·exact⟨news,e4,e2,.inr ⟨ad,c,e1,e2,e3,aeP e4 e2 gl⟩⟩
 obtain⟨news,az,VV,hx⟩:=hx;have main:∀(j:Nat) (v:Value) (xs:List D) (cells:List Value),a.eval s=v→w.ownsRow w0.heap.size E e.size v xs.length cells→dT C.cap σ e cells xs→xs.length+ys.length≤4294967296→
  (∀k,v.ownBlock=some k→own k=some j)→
  ∃v' w',(execOp a.eval o).run C.P w=.ok (.value v') w'∧Good C w0 σ0 ((S.newO j (.row E e)).setR dst (.obj j (S.ver j+1))) ((ρ.setO j (.list (xs++ys))).setR dst .none) (fun u=>A u∨u=dst) (a.put (some dst) v') w':=by
  intro j v xs cells MA bt fI hlen cI;obtain⟨v',w',r1,r2,r3,r4⟩:=aoO (P:=C.P) (ty:=o.type) hT hi hz hs q9 h1 nM bt h.below.size hlen hx;refine⟨v',w',by rw[aj];simp[builtin,MA,r1],?_⟩
  have MG:=h.updO j (.row E e) (.list (xs++ys)) v' (fun k=>decide (v'.ownBlock=some k)) (w':=w') (UT r3 h.below.size (fun k hk=>(h.owns k j (cI k hk)).1)) (fun k hk az=>r3.block k hk (fun e=>az (cI k e.symm))) (fun k hk=>by
        have bL:v'.ownBlock=some k:=by simpa using hk
        rcases r4 k bL with e|e
        ·exact⟨.inl (cI k e),(r2.lt k bL).2⟩
        ·exact⟨.inr e.1,e.2⟩)
   ⟨cells++news,xs++ys,by simp[Env.setO,aL],by rw[aL,lu];exact r2,aeO fI az bt.1,fun k hk=>by rw[aL] at hk;simp[fb,hk]⟩
  have h2:=MG.setObj ht (j:=j) (v:=v') (aL _ _ _) af;have e:(S.newO j (.row E e)).ver j=S.ver j+1:=aL _ _ _;rw[e] at h2;exact⟨_,_,_,h2⟩
 split at hr
 ·rename_i e0 pe0 hu;cases hr;refine bS.value hd fun ρ' pA=>?_;have MB:=bZ h hC rfl hu;have MA:a.eval s=.slice none 0 0:=by
   generalize a.eval s=v at MB;generalize pe0.ev ρ=d at MB;cases MB;rfl
  simp only[PI.runs,PI.run,ar] at pA;obtain⟨ρ1,g1,ρ2,g2,ρ3,g3,g4⟩:=pA;cases c1:((Hf (.con (.list [])) ex).ev ρ).b<;>simp only[c1,cond_true,cond_false] at g1
  ·cases g1
  cases g1;cases g2;cases g3;cases g4;have hlen:=T3 c1;simp only[PE.ev,D.l_list,Gy,tV,D.i_int,D.int] at hlen;have:=main dst (.slice none 0 0) [] [] MA (World.ownsRow_nil _ _ _ _) ⟨fun _=>undef,by simp,by simp⟩ (by simpa using WV hlen) (by simp[Value.ownBlock]);simpa [PE.ev,D.l_list,Gy,mkObj] using this
 ·cases hr
 ·obtain⟨dX,_⟩:=tB h (gs:=[]) rfl s;split at hr
  case h_2=>cases hr
  rename_i j ver es;rw[es] at dX;cases hb:Nat.beq ver (S.ver j)<;>simp only[hb,cond_true,cond_false] at hr
  ·cases hr
  have cf:=dX.2 (aw hb);have aX:=h.objs j;split at hr
  case h_2=>cases hr
  rename_i E' e' eo;rw[eo] at aX;cases jJ:(Nat.beq E' E&&Ty.beq e' e)<;>simp only[jJ,cond_true,cond_false] at hr
  ·cases hr
  cases hr;simp only[aq] at jJ;have e1:=aw jJ.1;have e2:=Ty.beq_eq _ _ jJ.2;subst e1;subst e2;obtain⟨cells,xs,k1,k2,k3,k4⟩:=aX;refine bS.value hd fun ρ' pA=>?_;simp only[PI.runs,PI.run,ar] at pA;obtain⟨ρ1,g1,ρ2,g2,ρ3,g3,g4⟩:=pA;cases c1:((Hf (.o j) ex).ev ρ).b<;>simp only[c1,cond_true,cond_false] at g1
  ·cases g1
  cases g1;cases g2;cases g3;cases g4;have hlen:=T3 c1;simp only[PE.ev,D.l_list,Gy,k1,D.i_int,D.int] at hlen;have:=main j (hv j) xs cells cf k2 k3 (by have:=WV hlen;simpa using this) k4;simpa [PE.ev,D.l_list,Gy,k1] using this
end
end Cx
namespace Cx
open Go Go.RowKit
theorem I2 {P:Program}{a:Act}{w:World}{o:Oper}{T:TypeId}{x v:Operand}{inf:TypeInfo}{k off:Nat}{cs:Array Value}{E:TypeId}(ho:o.op=.store T x v)(hi:P.info? T=some inf)(hx:a.eval x=.pointer (some ⟨k,off,none⟩))
 (hs:(a.eval v).cells.size=inf.size) (dj:∀u∈(a.eval v).cells.toList,u.oneCell'=true) (hb:w.heap[k]?=some (.cells cs E (0,0))) (hle:off+inf.size≤cs.size):
 (execOp a.eval o).run P w=.ok .skip (w.setRow k (cs.toList.take off++(a.eval v).cells.toList++cs.toList.drop (off+inf.size)).toArray):=by
 have:=run_storeCells_at P k off E (a.eval v).cells.toList 0 cs w hb (by simp[hs];exact hle) dj;simp only[ml,zV,hs] at this;simp[execOp,ho,Instr.storeAt,hx,Instr.sureAddr,storeVar,Go.sizeOf,run_typeInfo w hi,hs,this]
theorem aaT {w:World}{B k:Nat}{cs:Array Value}(hB:B≤k):Below B w (w.setRow k cs)∧∀i,i≠k→(w.setRow k cs).heap[i]?=w.heap[i]?:=
 ⟨⟨rfl,rfl,rfl,by simp[World.setRow],fun i hi=>setRow_other w k i cs (by omega)⟩,fun i hi=>setRow_other w k i cs hi⟩
theorem F8 {α:Type}(xs ys:List α)(off:Nat)(d:α)(hle:off+ys.length≤xs.length)(i:Nat):(xs.take off++ys++xs.drop (off+ys.length)).getD i d=if off≤i∧i<off+ys.length then ys.getD (i-off) d else xs.getD i d:=by
 simp only[aI,oH];rw[kD,gd,nl (by omega)];split
 ·rename_i h;rw[if_neg (by omega),ga,if_pos h]
 ·rename_i h;rw[kD];split
  ·rename_i h2;rw[if_pos (by omega)]
  ·rename_i h2;rw[if_neg (by omega),gw];congr 2;omega
section
variable {C:Ctx} {S:St} {ρ:Env} {σ:Im} {own:Nat→Option Nat} {hv:Nat→Value} {w0:World} {σ0:Base} {A:Nat→Prop} {a:Act} {w:World} {gs:List (Nat×Bool)} {Φ:aJ} {dst:Nat}
theorem Inv.storeBox (h:Inv C S ρ σ own hv w0 σ0 A a w){j k off:Nat}{ag:Bool}{shs news:List Sh}{cs:Array Value}{E:TypeId}{ds dn:List D}{vs:List Value}(eo:S.o j=.box ag shs)
 (h1:hv j=.pointer (some ⟨k,0,none⟩)) (h2:own k=some j) (h3:w.heap[k]?=some (.cells cs E (0,0))) (h4:cs.size=shs.length) (h5:ρ.o j=.agg ds) (h6:ds.length=shs.length)
 (h7:∀i s,shs[i]?=some s→(∀gs s',s≠.opt gs s')∧aF C S ρ σ hv s (cs.getD i undef) (ds.getD i .none))
 (l1:news.length=vs.length) (l2:dn.length=vs.length) (hle:off+vs.length≤shs.length)
 (kg:∀i s,news[i]?=some s→(∀gs s',s≠.opt gs s')∧aF C S ρ σ hv s (vs.getD i undef) (dn.getD i .none)):
 Inv C (S.setO j (.box ag (shs.take off++news++shs.drop (off+vs.length)))) (ρ.setO j (.agg (cr ds off dn))) σ own hv w0 σ0 A a (w.setRow k (cs.toList.take off++vs++cs.toList.drop (off+vs.length)).toArray):=by
 have hkB:w0.heap.size≤k:=(h.owns k j h2).1;obtain⟨b1,b2⟩:=aaT (w:=w) (B:=w0.heap.size) (k:=k) (cs:=(cs.toList.take off++vs++cs.toList.drop (off+vs.length)).toArray) hkB;refine h.updB j _ _ b1 (fun i hi az=>b2 i fun e=>az (e▸h2)) ⟨k,_,E,cr ds off dn,h1,h2,setRow_heap w k cs _ E _ h3,?_,by simp[Env.setO,aL],?_,fun i s hi=>?_⟩
 ·simp[l1];omega
 ·simp[cr,l2,l1];omega
 ·have da:(cs.toList.take off++vs++cs.toList.drop (off+vs.length)).toArray.getD i undef=if off≤i∧i<off+vs.length then vs.getD (i-off) undef else cs.getD i undef:=by
   have e0:∀l:List Value,l.toArray.getD i undef=l.getD i undef:=fun l=>by simp[fi,aI]
   rw[e0,F8 cs.toList vs off undef (by simp;omega),ya cs i]
  have qT:(cr ds off dn).getD i .none=if off≤i∧i<off+vs.length then dn.getD (i-off) .none else ds.getD i .none:=by
   rw[cr,F8 ds dn off .none (by omega),l2]
  rw[da,qT];have VR:∀s v d,(∀gs s',s≠.opt gs s')→aF C S ρ σ hv s v d→aF C (S.setO j (.box ag (shs.take off++news++shs.drop (off+vs.length)))) (ρ.setO j (.agg (cr ds off dn))) σ hv s v d:=
   fun s v d hn hk=>aF.mono' (.refl σ) (Compat.setO _ _ _ _) hn hk
  have mI:(shs.take off++news++shs.drop (off+vs.length))[i]?=if off≤i∧i<off+vs.length then news[i-off]? else shs[i]?:=by
   rw[oH,kD,gd,nl (by omega)];split
   ·rename_i h;rw[if_neg (by omega),ga,if_pos h]
   ·rename_i h;rw[kD,l1];split
    ·rename_i h2;rw[if_pos (by omega)]
    ·rename_i h2;rw[if_neg (by omega),gw];congr 1;omega
  rw[mI] at hi;split
  ·rename_i hc;rw[if_pos hc] at hi;obtain⟨g1,g2⟩:=kg _ s hi;exact⟨g1,VR _ _ _ g1 g2⟩
  ·rename_i hc;rw[if_neg hc] at hi;obtain⟨g1,g2⟩:=h7 _ s hi;exact⟨g1,VR _ _ _ g1 g2⟩
theorem aoL (h:Inv C S ρ σ own hv w0 σ0 A a w){j:Nat}(hr:kS (S.o j)=true):(hv j).cells=#[hv j]∧(hv j).oneCell'=true:=by
 have aX:=h.objs j;cases cI:S.o j with
 |row T e=>
  rw[cI] at aX;obtain⟨cells,xs,h1,h2,h3,h4⟩:=aX;obtain⟨b,c,e1,_⟩:=vK h2;rw[e1];exact⟨rfl,rfl⟩
 |mp kt et=>
  rw[cI] at aX;obtain⟨k0,arr,clock,es,h1,_⟩:=aX;rw[h1];exact⟨rfl,rfl⟩
 |_=>rw[cI] at hr;simp[kS] at hr
theorem Inv.storeRow (h:Inv C S ρ σ own hv w0 σ0 A a w){j k n c i p:Nat}{T:TypeId}{e:Ty}{cells vs:List Value}{xs:List D}{v':Value}{d':D}(eo:S.o j=.row T e)(dZ:hv j=.slice (some ⟨k,0,none⟩) n c)
 (h1:ρ.o j=.list xs) (h2:w.ownsRow w0.heap.size T e.size (hv j) xs.length cells) (h3:dT C.cap σ e cells xs) (h4:∀k,(hv j).ownBlock=some k→own k=some j) (hi:i<xs.length)
 (B3:i*e.size≤p) (eH:p+vs.length≤i*e.size+e.size) (hr:Rep C.cap σ e v' d')
 (hv':∀q u,v'.cells[q]?=some u→(cells.take p++vs++cells.drop (p+vs.length))[i*e.size+q]?=some u):
 ∃cur,w.heap[k]?=some (.cells cur T (0,0))∧p+vs.length≤cur.size∧Inv C S (ρ.setO j (.list (xs.set i d'))) σ own hv w0 σ0 A a (w.setRow k (cur.toList.take p++vs++cur.toList.drop (p+vs.length)).toArray):=by
 have aW:=h2.1;rcases h2.2 with⟨e0,e1⟩|⟨g,cap,cur,e1,e2,e3,e4,e5,e6,e7⟩
 ·omega
 rw[dZ] at e1;cases e1;have ah3:i*e.size+e.size≤xs.length*e.size:=by
  have:(i+1)*e.size≤xs.length*e.size:=nm _ hi;rw[nk] at this;omega
 have aw3:xs.length*e.size≤c*e.size:=nm _ e4;have aiK:p+vs.length≤cur.size:=by omega
 refine⟨cur,e3,aiK,?_⟩;have bt:own k=some j:=h4 k (by rw[dZ];rfl);obtain⟨b1,b2⟩:=aaT (w:=w) (B:=w0.heap.size) (k:=k) (cs:=(cur.toList.take p++vs++cur.toList.drop (p+vs.length)).toArray) e2;have Cf:(cur.toList.take p++vs++cur.toList.drop (p+vs.length)).take (xs.length*e.size)=cells.take p++vs++cells.drop (p+vs.length):=by
  rw[←e7];apply Ec;intro q;simp only[oH,ga,kD,gd,gw,zV];by_cases hq:q<xs.length*e.size
  ·rw[if_pos hq];by_cases hq1:q<p
   ·simp[hq1,Nat.lt_min,show q<cur.size by omega,hq]
   ·by_cases gV:q-p<vs.length
    ·rw[if_neg (by omega),nl (by omega),if_pos gV,if_neg (by omega),nl (by omega),if_pos gV]
    ·rw[if_neg (by omega),nl (by omega),if_neg gV,if_neg (by omega),nl (by omega),if_neg gV,if_pos (by omega)]
  ·rw[if_neg hq];have:¬q<p:=by omega
   rw[if_neg (by omega),nl (by omega),if_neg (by omega),if_neg (by omega)]
 have:=h.updB j (.row T e) (.list (xs.set i d')) b1 (fun q hq az=>b2 q fun e=>az (e▸bt))
  ⟨cells.take p++vs++cells.drop (p+vs.length),xs.set i d',by simp[Env.setO,aL],⟨by simp;omega,.inr ⟨k,c,_,by rw[dZ];simp,e2,setRow_heap w k cur _ T _ e3,by simpa using e4,e5,by simp;omega,by simpa using Cf⟩⟩,?_,h4⟩
 ·rw[St.setO_self eo] at this;exact this
 ·obtain⟨us,u1,u2⟩:=h3;refine⟨fun q=>if q=i then v' else us q,fun q x hx=>?_,fun q m u hq hm=>?_⟩
  ·rw[Ab] at hx;by_cases yF:i=q
   ·subst yF;simp only[if_true] at hx ⊢;rw[if_pos hi] at hx;cases hx;exact hr
   ·rw[if_neg yF] at hx;simp only[show ¬q=i from fun e=>yF e.symm,if_false];exact u1 q x hx
  ·by_cases yF:q=i
   ·subst yF;simp only[if_true] at hm;exact hv' m u hm
   ·simp only[yF,if_false] at hm;simp only[List.length_set] at hq;have h9:=u2 q m u hq hm;have axj:m<e.size:=by rw[←(u1 q _ (be hq)).size];exact(eA.1 hm).1
    have ji:q*e.size+m<p∨p+vs.length≤q*e.size+m:=by
     rcases JL q i with af|gk
     ·left;have:(q+1)*e.size≤i*e.size:=nm _ af;rw[nk] at this;omega
     ·right;have:(i+1)*e.size≤q*e.size:=nm _ (by omega);rw[nk] at this;omega
    rw[oH,kD,gd,nl (by omega)];rcases ji with ho|ho
    ·rw[if_pos ho,ga,if_pos ho];exact h9
    ·rw[if_neg (by omega),mj (by omega),gw];rw[show p+vs.length+(q*e.size+m-p-vs.length)=q*e.size+m by omega];exact h9
theorem aez (h:Inv C S ρ σ own hv w0 σ0 A a w)(hC:CtxOK C σ0){T:TypeId}{x v:Operand}{r:St×List PI}(hr:A3 C S T x v=some r){o:Oper}(hd:o.dst=none)(ho:o.op=.store T x v):bS C w0 σ0 Φ S ρ A a w o r:=by
 unfold A3 at hr;split at hr
 case h_2=>cases hr
 rename_i inf hi;obtain⟨dX,_⟩:=tB h (gs:=[]) rfl x;split at hr
 case h_3=>cases hr
 ·rename_i j ver off es;rw[es] at dX;cases hb:Nat.beq ver (S.ver j)<;>simp only[hb,cond_true,cond_false] at hr
  ·cases hr
  obtain⟨k,dZ,fl⟩:=dX.2 (aw hb);have aX:=h.objs j;split at hr
  case h_2=>cases hr
  rename_i ag shs eo;rw[eo] at aX;obtain⟨k',cs,E,ds,h1,h2,h3,h4,h5,h6,h7⟩:=aX;have cP:=h1;rw[dZ] at h1;cases h1;split at hr
  ·rename_i t e hu;have hv':=bZ h hC rfl hu;cases hc:(Nat.beq inf.size t.size&&(t.rowT||t.one)&&Nat.ble (off+t.size) shs.length)<;>simp only[hc,cond_true,cond_false] at hr
   ·cases hr
   cases hr;simp only[aq,jy] at hc;obtain⟨⟨aN,gl⟩,hle⟩:=hc;have aN:=aw aN;have hle:=j3 hle;obtain⟨f1,f2,f3⟩:=hv'.flat gl;have gn:=hv'.size;refine bS.skip hd fun ρ' aj=>?_;rw[rG aj]
   refine⟨_,I2 ho hi fl (by rw[gn,aN]) (fun u hu=>by
        obtain⟨m,hm,rfl⟩:=fj hu;exact hv'.cellsOne gl (m:=m) (by simp at hm ⊢)) h3 (by omega),?_⟩
   have cS:=h.storeBox (off:=off) (news:=t.flat.map .dat) (vs:=(a.eval v).cells.toList) (dn:=(e.ev ρ).cells) eo cP h2 h3 h4 h5 h6 h7 (by simp[f1,gn]) (by simp[f2,gn]) (by simp[gn];omega) (fun i s hi=>by
        simp only[cl,ax] at hi;obtain⟨ti,MD,rfl⟩:=hi;refine⟨fun _ _ e=>(by cases e),?_⟩;rw[ya];exact(f3 i ti MD).2)
   have e1:(a.eval v).cells.toList.length=t.size:=by simp[gn]
   rw[e1] at cS;rw[aN];refine⟨σ,own,hv,?_⟩;simpa [PE.ev,h5,D.cells] using cS
  ·split at hr
   case h_2=>cases hr
   rename_i j' m8 fG;obtain⟨Mw,_⟩:=tB h (gs:=[]) rfl v;rw[fG] at Mw;cases hc:(Nat.beq m8 (S.ver j')&&kS (S.o j')&&Nat.beq inf.size 1&&Nat.blt off shs.length)<;>simp only[hc,cond_true,cond_false] at hr
   ·cases hr
   cases hr;simp only[aq] at hc;obtain⟨⟨⟨ajw,fL⟩,aN⟩,af⟩:=hc;have aN:=aw aN;have af:off<shs.length:=by simpa [oK] using af
   have cf:=Mw.2 (aw ajw);obtain⟨c1,c2⟩:=aoL h fL;have iK:(a.eval v).cells=#[a.eval v]:=by rw[cf];exact c1
   refine bS.skip hd fun ρ' aj=>?_;rw[rG aj];refine⟨_,I2 ho hi fl (by rw[iK,aN];rfl) (fun u hu=>by rw[iK] at hu;simp at hu;subst hu;rw[cf];exact c2) h3 (by omega),?_⟩
   have cS:=h.storeBox (off:=off) (news:=[.obj j' m8]) (vs:=[a.eval v]) (dn:=[.none]) eo cP h2 h3 h4 h5 h6 h7 rfl rfl (by simp;omega) (fun i s hi=>by
        match i,hi with
        |0,hi=>simp at hi;subst hi;exact⟨fun _ _ e=>(by cases e),Mw.1,fun _=>by simpa using cf⟩
        |i+1,hi=>simp at hi)
   rw[iK,aN];have e2:shs.take off++[Sh.obj j' m8]++shs.drop (off+[a.eval v].length)=shs.set off (.obj j' m8):=by
        rw[List.set_eq_take_append_cons_drop,if_pos af];simp
   rw[e2] at cS;refine⟨σ,own,hv,?_⟩;simpa [PE.ev,h5,D.cells] using cS
 ·rename_i j ver size off es;rw[es] at dX;cases hb:Nat.beq ver (S.ver j)<;>simp only[hb,cond_true,cond_false] at hr
  ·cases hr
  obtain⟨k,n,c,ik,i,dZ,sr,cv,fl⟩:=dX.2 (aw hb);have aX:=h.objs j;split at hr
  ·rename_i T' ts t e eo hu;rw[eo] at aX;have hv':=bZ h hC rfl hu;cases hc:(Nat.beq inf.size t.size&&(t.rowT||t.one)&&Nat.beq size ts.length&&Nat.ble (off+t.size) ts.length&&Ty.subs t.flat ((ts.drop off).take t.size))<;>simp only[hc,cond_true,cond_false] at hr
   ·cases hr
   cases hr;simp only[aq,jy] at hc;obtain⟨⟨⟨⟨aN,gl⟩,va⟩,hle⟩,bT⟩:=hc;have aN:=aw aN;have va:=aw va;have hle:=j3 hle;obtain⟨f1,f2,f3⟩:=hv'.flat gl;have gn:=hv'.size;have f1:t.flat.length=t.size:=f1;have f2:(e.ev ρ).cells.length=t.size:=f2;have gn:(a.eval v).cells.size=t.size:=gn;obtain⟨cells,xs,k1,k2,k3,k4⟩:=aX;obtain⟨b,c',e1,BR,BS⟩:=vK k2;rw[dZ] at e1;cases e1;obtain⟨us,u1,u2⟩:=k3;obtain⟨y,hy⟩:∃y,xs[i]?=some y:=⟨_,be cv⟩
   obtain⟨os,ds,yI,hd0,l1,l2,aR,dj⟩:=(u1 i y hy).agg_inv;have Ch:(a.eval v).cells.toList.length=t.size:=by simp[gn]
   have kg:Rep C.cap σ (.agg ts) (.agg (os.take off++(a.eval v).cells.toList++os.drop (off+(a.eval v).cells.toList.length)).toArray) (.agg (cr ds off (e.ev ρ).cells)):=by
        refine .agg _ _ _ (by simp[gn];omega) (by simp[cr,f2];omega) (fun m tm hm=>?_) dj;rw[F8 os _ off undef (by rw[Ch];omega),cr,F8 ds _ off .none (by rw[f2];omega),Ch,f2];split
        ·rename_i hc;have ajd:=Ty.subs_get _ _ bT (m-off) tm (by
          rw[ga,if_pos (by omega),gw,show off+(m-off)=m by omega];exact hm)
         obtain⟨tf,htf,cS⟩:=ajd;rw[ya];exact((f3 _ tf htf).2).sub cS
        ·exact aR m tm hm
   have aW:=k2.1;have ah3:i*(Ty.agg ts).size+(Ty.agg ts).size≤xs.length*(Ty.agg ts).size:=by
        have:(i+1)*(Ty.agg ts).size≤xs.length*(Ty.agg ts).size:=nm _ cv;rw[nk] at this;omega
   have We:(Ty.agg ts).size=ts.length:=rfl
   obtain⟨cur,q1,q2,q3⟩:=h.storeRow (i:=i) (p:=i*(Ty.agg ts).size+off) (vs:=(a.eval v).cells.toList) eo dZ k1 k2 ⟨us,u1,u2⟩ k4 cv (by omega) (by rw[Ch];omega) kg (fun q u hq=>by
        have dk:(os.take off++(a.eval v).cells.toList++os.drop (off+(a.eval v).cells.toList.length))[q]?=some u:=by simpa [Value.cells] using hq
        have axp:q<ts.length:=by have:=(ed.1 dk).1;simp[gn] at this;omega
        rw[oH,kD,gd,nl (by omega)] at dk;rw[oH,kD,gd,nl (by omega)];by_cases py:q<off
        ·rw[if_pos py,ga,if_pos py] at dk;rw[if_pos (by omega),ga,if_pos (by omega)];exact u2 i q u cv (by rw[yI];simpa [Value.cells] using dk)
        ·rw[if_neg py,kD] at dk;rw[if_neg (by omega),kD];rw[show i*(Ty.agg ts).size+q-(i*(Ty.agg ts).size+off)=q-off by omega];by_cases Mr:q-off<(a.eval v).cells.toList.length
         ·rw[if_pos Mr] at dk ⊢;exact dk
         ·rw[if_neg Mr,gw] at dk;rw[if_neg Mr,gw];rw[show off+(a.eval v).cells.toList.length+(q-off-(a.eval v).cells.toList.length)=q by omega] at dk;rw[show i*(Ty.agg ts).size+off+(a.eval v).cells.toList.length+(q-off-(a.eval v).cells.toList.length)=i*(Ty.agg ts).size+q by omega];exact u2 i q u cv (by rw[yI];simpa [Value.cells] using dk))
   refine bS.skip hd fun ρ' aj=>?_;rw[rG aj]
   refine⟨_,I2 ho hi (cs:=cur) (by rw[fl,va]) (by rw[gn,aN]) (fun u hu=>by
        obtain⟨m,hm,rfl⟩:=fj hu;exact hv'.cellsOne gl (m:=m) (by simp at hm ⊢)) q1 (by rw[Ch] at q2;rw[aN,←We];exact q2),σ,own,hv,?_⟩
   rw[Ch] at q3;simp only[PE.ev,k1,D.l_list,sr,D.i_int,tQ,qL hy,hd0,tE];rw[aN,←We];exact q3
  ·rename_i T' e0 t e az eo hu;rw[eo] at aX;have hv':=bZ h hC rfl hu;cases hc:(Nat.beq inf.size 1&&Nat.beq size 1&&Nat.beq off 0&&e0.one&&Ty.sub t e0)<;>simp only[hc,cond_true,cond_false] at hr
   ·cases hr
   cases hr;simp only[aq] at hc;obtain⟨⟨⟨⟨aN,va⟩,gU⟩,dj⟩,bT⟩:=hc;have aN:=aw aN;have va:=aw va;have gU:=aw gU;subst gU;subst va;have Wi:=hv'.sub bT;obtain⟨c1,c2⟩:=Wi.oneCell dj;have BD:e0.size=1:=by cases e0<;>simp_all [Ty.size,Ty.one]
   obtain⟨cells,xs,k1,k2,k3,k4⟩:=aX;obtain⟨b,c',e1,BR,BS⟩:=vK k2;rw[dZ] at e1;cases e1;obtain⟨y,hy⟩:∃y,xs[i]?=some y:=⟨_,be cv⟩
   have aW:=k2.1
   obtain⟨cur,q1,q2,q3⟩:=h.storeRow (i:=i) (p:=i*e0.size) (vs:=[a.eval v]) eo dZ k1 k2 k3 k4 cv (aU _) (by rw[BD];simp) Wi (fun q u hq=>by
        rw[c1] at hq;have B7:q=0:=by have:=(eA.1 hq).1;simpa using this
        subst B7;simp at hq;subst hq;have:i*e0.size≤cells.length:=by rw[aW];exact nm _ (by omega)
        rw[oH,mj (by simp;omega)];simp[nl this])
   refine bS.skip hd fun ρ' aj=>?_;rw[rG aj];refine⟨_,I2 ho hi (cs:=cur) (by rw[fl]) (by rw[c1,aN];rfl) (fun u hu=>by rw[c1] at hu;simp at hu;subst hu;exact c2) q1 (by rw[BD] at q2;rw[aN];simpa using q2),σ,own,hv,?_⟩;rw[c1,aN];have Cm:tE y 0 (e.ev ρ)=e.ev ρ:=by
        obtain⟨us,u1,u2⟩:=k3;have:=(u1 i y hy).dcells dj;cases y with
        |agg ds=>have h8:=u1 i _ hy;generalize us i=vv at h8;cases h8;simp[Ty.one] at dj
        |_=>rfl
   simp only[PE.ev,k1,D.l_list,sr,D.i_int,tQ,qL hy,Cm];rw[BD] at q3;simpa using q3
  ·cases hr
end
end Cx
namespace Cx
open Go Go.RowKit
section
variable {C:Ctx} {S:St} {ρ:Env} {σ:Im} {own:Nat→Option Nat} {hv:Nat→Value} {w0:World} {σ0:Base} {A:Nat→Prop} {a:Act} {w:World} {gs:List (Nat×Bool)} {Φ:aJ} {dst:Nat}
theorem ae0 {ρ:Env}{es:List PE}{i:Nat}{e:PE}(h:es[i]?=some e):(PE.evs ρ es)[i]?=some (e.ev ρ):=by
 rw[PE.evs_eq,cl,h];rfl
theorem Ug (h:Inv C S ρ σ own hv w0 σ0 A a w)(hC:CtxOK C σ0)(hg:holds gs ρ=true){T:TypeId}{len:Nat}{ps:Array (Nat×Operand)}{r:St×List PI}(hr:uy C S gs dst T len ps.toList=some r){o:Oper}
 (ho:o.op=.buildSlice T len ps):∃(E:TypeId) (e:Ty) (es:List PE) (v:Value) (w':World),C.P.underlying T=some (.slice E)∧m6 C.P E=some e∧r=(mkObj S dst (.row E e),[.setO dst (.lst es),.setR dst (.con .none)])∧
   (execOp a.eval o).run C.P w=.ok (.value v) w'∧Below w.heap.size w w'∧(∀k,Nat.beq k w.heap.size=true→w.heap.size≤k∧k<w'.heap.size)∧
   bW C (S.newO dst (.row E e)) (ρ.setO dst (.list (PE.evs ρ es))) σ (fb own dst (fun k=>Nat.beq k w.heap.size)) (bV hv dst v) w' w0.heap.size dst (.row E e):=by
 unfold uy at hr;split at hr
 case h_2=>cases hr
 rename_i E hT;simp only[ar] at hr;obtain⟨e,he,z,hz,hr⟩:=hr;cases hc:(oX C.P E e&&Ty.sub z.1 e&&iS (ps.toList.map (·.1))&&ps.toList.all (fun p=>Nat.blt p.1 len)&&Nat.ble (len*e.size) 16777216)<;>simp only[hc,cond_true,cond_false] at hr
 ·cases hr
 simp only[aq] at hc;obtain⟨⟨⟨⟨hef,bT⟩,bm⟩,eI⟩,hle⟩:=hc;have hle:=j3 hle;obtain⟨inf,zv,hi,hs,nM,h1,hzv,kR⟩:=KX hef;have q9:=SD kR;have kP:=oa bm;have Cn:=((wD (cap:=C.cap) (σ:=σ) hz kR).1).sub bT;simp only[ax] at hr;obtain⟨es,gR,rfl⟩:=hr;obtain⟨Uq,el2⟩:=mapM_some _ _ _ gR;simp only[S4] at Uq;have Vt:∀i,i<len→∃pe,es[i]?=some pe∧FX C S gs e z.2 ps.toList i=some pe:=by
  intro i hi;obtain⟨y,hy1,Cl⟩:=el2 i i (by rw[oI hi]);exact⟨y,hy1,Cl⟩
 have px:∀x,x∈ps.toList→x.1<len∧∃t pe,use C S gs x.2=some (t,pe)∧Ty.sub t e=true∧es[x.1]?=some pe:=by
  intro x hx;have vf:x.1<len:=by
   have:=df.1 eI x hx;simpa [oK] using this
  refine⟨vf,?_⟩;obtain⟨pe,B3,eH⟩:=Vt x.1 vf;have BF:=UH kP (i:=x.1) (x:=x.2) hx;simp only[FX,BF,ar] at eH;obtain⟨y,hy,eH⟩:=eH;cases hs:Ty.sub y.1 e<;>simp only[hs,cond_true,cond_false] at eH
  ·cases eH
  cases eH;exact⟨y.1,y.2,hy,hs,B3⟩
 let c0:Array Value:=madeCells zv.cells (len*e.size)
 have Bw:c0.size=len*e.size:=size_madeCells _ _
 have jO:∀p,p∈(ps.toList.map fun(x:Nat×Operand)=>(x.1,a.eval x.2))→∃o,(fun i=>some (i*e.size,e.size)) p.1=some (o,p.2.cells.size)∧o+p.2.cells.size≤c0.size:=by
  intro p hp;obtain⟨x,hx,rfl⟩:=cZ.1 hp;obtain⟨vf,t,pe,hu,cS,_⟩:=px x hx;have sG:=((bZ h hC hg hu).sub cS).size;simp only;refine⟨x.1*e.size,by rw[sG],?_⟩;rw[sG,Bw];have:(x.1+1)*e.size≤len*e.size:=nm _ vf;rw[nk] at this;omega
 have yp:∀(i j oi si oj sj:Nat),i≠j→(fun i=>some (i*e.size,e.size)) i=some (oi,si)→(fun i=>some (i*e.size,e.size)) j=some (oj,sj)→oi+si≤oj∨oj+sj≤oi:=by
  intro i j oi si oj sj az hi hj;simp only[aT,mm] at hi hj;obtain⟨rfl,rfl⟩:=hi;obtain⟨rfl,rfl⟩:=hj;rcases JL i j with af|gk
  ·left;have:(i+1)*e.size≤j*e.size:=nm _ af;rw[nk] at this;omega
  ·right;have:(j+1)*e.size≤i*e.size:=nm _ (by omega);rw[nk] at this;omega
 obtain⟨dh,f1,f2,f3,f4⟩:=K9 (fun i=>some (i*e.size,e.size)) (ps.toList.map fun(x:Nat×Operand)=>(x.1,a.eval x.2)) c0 jO yp (by simpa [D9] using kP);have aj:(execOp a.eval o).run C.P w=.ok (.value (.slice (some ⟨w.heap.size,0,none⟩) len len)) (w.alloc (.cells dh E)):=by
  have n1:¬(len*inf.size>2^24):=by rw[hs];omega
  have F1:Instr.fill (fun i=>some (i*inf.size,inf.size)) c0 (ps.toList.map fun(x:Nat×Operand)=>(x.1,a.eval x.2))=some dh:=by rw[hs];exact f1
  by_cases h0:len*inf.size=0
  ·have LG:c0=#[]:=by
        apply Jy;rw[Bw,←hs];exact h0
   rw[LG] at F1
   have aff:Instr.fill (fun i=>some (i*inf.size,inf.size)) (Array.map (fun _=>default) (Array.range 0)) (ps.toList.map fun(x:Nat×Operand)=>(x.1,a.eval x.2))=some dh:=by
        have:(Array.map (fun _=>(default:Value)) (Array.range 0))=#[]:=by simp
        rw[this];exact F1
   simp[execOp,ho,Instr.buildSlice,run_underlying hT,Go.sizeOf,run_typeInfo w hi,n1,h0,aff,newRow]
  ·have LG:c0=(Array.range (len*inf.size)).map (fun x=>zv.cells[x%zv.cells.size]!):=by simp only[c0,madeCells,hs]
   rw[LG] at F1;have h00:¬(len=0∨inf.size=0):=by rw[←Nat.mul_eq_zero];exact h0
   simp[execOp,ho,Instr.buildSlice,run_underlying hT,Go.sizeOf,run_typeInfo w hi,n1,h0,h00,zeroValue,hzv,F1,newRow]
 refine⟨E,e,es,_,_,hT,he,rfl,aj,(Below.refl _ _).alloc (aU _) _,fun k hk=>by simp at hk;simp;omega,?_⟩;have fI:(PE.evs ρ es).length=len:=by rw[PE.evs_eq,eN,Uq]
 have ahP:∀(i:Nat) (x:D),(PE.evs ρ es)[i]?=some x→∃v,Rep C.cap σ e v x∧∀q u,v.cells[q]?=some u→dh.toList[i*e.size+q]?=some u:=by
  intro i x hx;have GJ:i<len:=by have:=(ed.1 hx).1;omega
  obtain⟨pe,B3,eH⟩:=Vt i GJ;rw[ae0 B3] at hx;cases hx;unfold FX at eH;split at eH
  ·rename_i p hp;have V3:=tT hp;have G0:p.1=i:=by have:=z7 hp;simpa using this
   obtain⟨_,t,pe',hu,cS,sB⟩:=px p V3;rw[G0,B3] at sB;cases sB;have bE:=(bZ h hC hg hu).sub cS;refine⟨_,bE,fun q u hq=>?_⟩;have G2:q<(a.eval p.2).cells.size:=(eA.1 hq).1;have:=f3 p.1 (a.eval p.2) (p.1*e.size) (cZ.2 ⟨p,V3,rfl⟩) (by simp[bE.size]) q G2;rw[G0] at this;simp[this,hq]
  ·rename_i hp;cases eH;refine⟨zv,Cn,fun q u hq=>?_⟩;have G2:q<zv.cells.size:=(eA.1 hq).1
   have pv:i∉(ps.toList.map fun(x:Nat×Operand)=>(x.1,a.eval x.2)).map (·.1):=by
        intro cQ;simp only[Ac,cZ,D9] at cQ;obtain⟨x,yM,e⟩:=cQ;have:=tR.1 hp x yM;simp[e] at this
   have:=f4 i (i*e.size) e.size pv rfl q (by omega);have h9:c0[i*e.size+q]?=zv.cells[q]?:=by
        simp only[c0];rw[←q9];exact Xj (by omega) GJ G2
   simp[this,h9,hq]
 have gn:∃vs:Nat→Value,∀(i:Nat) (x:D),(PE.evs ρ es)[i]?=some x→Rep C.cap σ e (vs i) x∧∀q u,(vs i).cells[q]?=some u→dh.toList[i*e.size+q]?=some u:=by
  have kK:∀i,∃v,∀x,(PE.evs ρ es)[i]?=some x→Rep C.cap σ e v x∧∀q u,v.cells[q]?=some u→dh.toList[i*e.size+q]?=some u:=by
   intro i;cases hx:(PE.evs ρ es)[i]? with
   |none=>exact⟨undef,fun x cT=>by cases cT⟩
   |some x=>
    obtain⟨v,hv⟩:=ahP i x hx;exact⟨v,fun y hy=>by cases hy;exact hv⟩
  exact⟨fun i=>Classical.choose (kK i),fun i x hx=>Classical.choose_spec (kK i) x hx⟩
 obtain⟨vs,gn⟩:=gn;have da:dh.size=len*e.size:=by rw[f2,Bw]
 refine⟨dh.toList,PE.evs ρ es,by simp[Env.setO,aL],?_,⟨vs,fun i x hx=>(gn i x hx).1,fun i j u hi hj=>(gn i _ (be hi)).2 j u hj⟩,fun k hk=>by rw[aL] at hk;simp[Value.ownBlock] at hk;simp[fb,hk]⟩;rw[aL,fI];have LY:len≤maxLen:=by
  have:len*1≤len*e.size:=Nat.mul_le_mul_left _ h1;unfold maxLen;omega
 exact⟨by simp[da],.inr ⟨w.heap.size,len,dh,rfl,h.below.size,heap_alloc_new w _,aU _,LY,da,by rw[wP (by simp[da])]⟩⟩
theorem aeb (h:Inv C S ρ σ own hv w0 σ0 A a w)(hC:CtxOK C σ0)(ht:¬A dst)(af:dst<a.tmps.size){T:TypeId}{len:Nat}{ps:Array (Nat×Operand)}{r:St×List PI}(hr:uy C S [] dst T len ps.toList=some r){o:Oper}(hd:o.dst=some dst)
 (ho:o.op=.buildSlice T len ps):bS C w0 σ0 Φ S ρ A a w o r:=by
 obtain⟨E,e,es,v,w',_,_,rfl,aj,hb,dP,cI⟩:=Ug h hC rfl hr ho;refine bS.value hd fun ρ' pA=>⟨_,_,aj,?_⟩
 rw[DM pA];exact h.mkObj ht af (.row E e) _ _ (fun k=>Nat.beq k w.heap.size) hb dP cI
theorem Inv.kill (h:Inv C S ρ σ own hv w0 σ0 A a w)(j:Nat):Inv C (S.newO j .dead) ρ σ own hv w0 σ0 A a w:=by
 have dv:∀i,S.ver i≤(S.newO j .dead).ver i:=by
  intro i;show S.ver i≤bV S.ver j (S.ver j+1) i;rw[fg];by_cases e:i=j
  ·subst e;simp
  ·simp[e]
 have hc:Compat S hv (S.newO j .dead) hv:=⟨dv,fun _ _=>rfl⟩
 refine h.step (·=j) rfl (.refl σ) h.ok (fun _ _ _ hx=>.inl hx) (fun _ _ hx=>.inl hx) (.refl _ _) hc (fun i hi=>⟨by simp[St.newO,bq _ _ hi],rfl,rfl,fun k hk=>⟨hk,rfl⟩⟩) (fun i hi=>?_) h.owns (fun _=>id) (fun t=>.inl ⟨rfl,rfl,rfl⟩) (fun _ _=>rfl) (fun _ _ _=>rfl) (fun k i hk=>.inl ⟨i,hk⟩) (fun i hi=>by subst hi;simp[St.newO,aL]);subst hi;simp only[St.newO,aL];trivial
theorem aen (h:Inv C S ρ σ own hv w0 σ0 A a w)(hC:CtxOK C σ0)(ht:¬A dst)(af:dst<a.tmps.size)(dC:∀g,g∈gs→A g.1)(hg:holds gs ρ=true){T:TypeId}{len:Nat}{ps:Array (Nat×Operand)}{r:St×List PI}(hr:xS C S gs dst T len ps.toList=some r){o:Oper}(hd:o.dst=some dst)
 (ho:o.op=.buildSlice T len ps):bS C w0 σ0 Φ S ρ A a w o r:=by
 unfold xS at hr;split at hr
 case h_2=>cases hr
 rename_i E q hT hq;simp only[ar] at hr;obtain⟨e,he,hr⟩:=hr;obtain⟨E',e',es,v,w',yh,qU,rfl,aj,hb,dP,cI⟩:=Ug h hC hg hq ho;rw[hT] at yh;cases yh;rw[he] at qU;cases qU;cases hr;refine bS.value hd fun ρ' pA=>⟨_,_,aj,?_⟩
 have hρ:ρ'=ρ.setR dst (.list (PE.evs ρ es)):=by simp[PI.runs,PI.run,PE.ev] at pA;exact pA.symm
 subst hρ;have h1:=h.newO dst (.row E e) (.list (PE.evs ρ es)) v (fun k=>Nat.beq k w.heap.size) hb dP cI;obtain⟨σ2,gJ,_,h2⟩:=h1.fz dst;have BI:(S.newO dst (.row E e)).fz dst=(S.newO dst (.row E e)).setO dst (.fz (.slice e.rol)):=by
  have:(S.newO dst (.row E e)).o dst=.row E e:=aL _ _ _;unfold St.fz;rw[this]
 rw[BI] at h2;have aX:=h2.objs dst;have e1:((S.newO dst (.row E e)).setO dst (.fz (.slice e.rol))).o dst=.fz (.slice e.rol):=aL _ _ _;rw[e1] at aX;have bE:Rep C.cap σ2 (.slice e.rol) v (.list (PE.evs ρ es)):=by
  have:=aX.2
  rwa [aL,show(ρ.setO dst (.list (PE.evs ρ es))).o dst=.list (PE.evs ρ es) from aL _ _ _] at this
 have h3:Inv C (S.newO dst .dead) ρ σ2 gJ (bV hv dst v) w0 σ0 A a w':=by
  refine h2.step (·=dst) rfl (.refl σ2) h2.ok (fun _ _ _ hx=>.inl hx) (fun _ _ hx=>.inl hx) (.refl _ _) ⟨fun i=>aU _,fun _ _=>rfl⟩ (fun i hi=>⟨?_,?_,rfl,fun k hk=>⟨hk,rfl⟩⟩) (fun i hi=>?_) h2.owns (fun _=>id) (fun t=>.inl ⟨rfl,rfl,rfl⟩) (fun _ _=>rfl) (fun _ _ _=>rfl) (fun k i hk=>.inl ⟨i,hk⟩) (fun i hi=>by subst hi;simp[St.newO,aL])
  ·simp[St.newO,St.setO,bq _ _ hi]
  ·simp[Env.setO,bq _ _ hi]
  ·subst hi;simp only[St.newO,aL];trivial
 have hh:holds gs (ρ.setR dst (.list (PE.evs ρ es)))=true:=by rw[B0 (t:=dst) fun g hm e=>ht (by rw[←e];exact dC g hm)];exact hg
 cases gs with
 |nil=>exact⟨_,_,_,h3.setReg ht (s:=.dat (.slice e.rol)) bE af (fun _ _ e=>by cases e)⟩
 |cons g bJ=>
  refine⟨_,_,_,h3.setReg ht (s:=.opt (g::bJ) (.dat (.slice e.rol))) ⟨fun _=>bE,fun e=>absurd (hh.symm.trans e) (by decide)⟩ af (fun gs s e=>?_)⟩;cases e;exact⟨dC,fun _ _ e=>by cases e⟩
end
end Cx
