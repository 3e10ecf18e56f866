/-
  Shared texts of this claim.
-/
import Derived.Test.YtbagcfebdgiihaaGreatDoorTAB
import Derived.Laws.OwnMore
import Derived.Lib.ConvBytes
set_option linter.unusedSimpArgs false
set_option linter.unusedVariables false
namespace Cx
open Go Go.RowKit
def VU (b i:Nat):Nat:=4096*(i+1)+b
def St.fz (S:St)(j:Nat):St:=
 match S.o j with
 |.row _ e=>S.setO j (.fz (.slice e.rol))
 |.mp k e=>S.setO j (.fz (.map k e))
 |_=>S
def AW (S:St)(b:Nat):Option (St×List PI):=
 match S.o b with
 |.box ag shs=>
  (tF S (.o b) shs 0).bind fun x=>
    bif ag then some (S.setO b (.fbox (.agg x.1)),[.setO b (.mk x.2)])
    else match x.1,x.2 with
     |[t],[e]=>some (S.setO b (.fbox t),[.setO b e])
     |_,_=>Option.none
 |_=>Option.none
def St.mv (S:St)(j j':Nat):St:=
 {S with o:=bT (bT S.o j' (S.o j)) j .dead,ver:=bT (bT S.ver j' (S.ver j'+1)) j (S.ver j+1)}
def kD:Ob→Bool
 |.row ..=>true
 |.mp ..=>true
 |_=>false
def Dq (S:St)(t j':Nat):Option (St×List PI):=
 match S.r t with
 |.obj j ver=>
  bif Nat.beq ver (S.ver j)&&kD (S.o j)&& !Nat.beq j j' then some ((S.mv j j').setR t (.obj j' (S.ver j'+1)),[.setO j' (.o j)])
  else some (S,[])
 |_=>some (S,[])
def Dp (S:St)(b i j':Nat):Option (St×List PI):=
 match S.o b with
 |.box ag shs=>
  match shs[i]? with
  |some (.obj j ver)=>
   bif Nat.beq ver (S.ver j)&&kD (S.o j)&& !Nat.beq j j'&& !Nat.beq b j'&& !Nat.beq b j then
    some ((S.mv j j').setO b (.box ag (shs.set i (.obj j' (S.ver j'+1)))),[.setO j' (.o j)])
   else some (S,[])
  |_=>some (S,[])
 |_=>some (S,[])
def BH (C:Ctx)(S:St)(b i j:Nat)(T:TypeId):Option (St×List PI):=
 match S.o b with
 |.box ag shs=>
  match shs[i]?,mE C.P T with
  |some (.dat (.nils _)),some e=>
   bif !Nat.beq b j then some ((S.newO j (.row T e)).setO b (.box ag (shs.set i (.obj j (S.ver j+1)))),[.setO j (.con (.list []))])
   else some (S,[])
  |_,_=>some (S,[])
 |_=>some (S,[])
section
variable {C:Ctx} {S:St} {ρ:Env} {σ:Im} {own:Nat→Option Nat} {hv:Nat→Value} {w0:World} {σ0:Base} {A:Nat→Prop} {a:Act} {w:World} {gs:List (Nat×Bool)} {Φ:aJ} {dst:Nat}
theorem Inv.lt (h:Inv C S ρ σ own hv w0 σ0 A a w){k o:Nat}{u:Value}(hc:σ.c k o=some u):k<w.heap.size:=World.block_lt_of_cell? w (a:=⟨k,o,none⟩) (h.ok.c _ _ _ hc)
theorem Inv.ltm (h:Inv C S ρ σ own hv w0 σ0 A a w){k:Nat}{es:List (Value×Value)}(hc:σ.m k=some es):k<w.heap.size:=by
 exact(h.ok.m _ _ hc).lt
theorem Im.ok.below {σ:Im}{w w':World}(h:σ.ok w)(hb:Below w.heap.size w w'):σ.ok w':=by
 refine⟨fun k o v hc=>?_,fun k es hc=>?_⟩
 ·have h1:=h.c k o v hc;rw[hb.cell (World.block_lt_of_cell? w (a:=⟨k,o,none⟩) h1)];exact h1
 ·exact(h.m k es hc).keep (hb.block k (h.m k es hc).lt)
def eT (own:Nat→Option Nat)(j:Nat)(nb:Nat→Bool):Nat→Option Nat:=fun k=>if nb k then some j else if own k=some j then none else own k
theorem Inv.newOσ (h:Inv C S ρ σ own hv w0 σ0 A a w)(j:Nat)(ob:Ob)(d:D)(v:Value)(nb:Nat→Bool){σ':Im}{w':World}(hle:σ.le σ')(ar:σ'.ok w')(dv:∀k o x,σ'.c k o=some x→σ.c k o=some x∨w.heap.size≤k)(cP:∀k x,σ'.m k=some x→σ.m k=some x∨w.heap.size≤k)
 (hw:Below w.heap.size w w') (dI:∀k,nb k=true→w.heap.size≤k∧k<w'.heap.size) (dx:∀k,nb k=true→(∀o,σ'.c k o=none)∧σ'.m k=none)
 (cI:bU C (S.newO j ob) (ρ.setO j d) σ' (eT own j nb) (bT hv j v) w' w0.heap.size j ob) (lu:ob≠.tr:=by intro h;cases h):Inv C (S.newO j ob) (ρ.setO j d) σ' (eT own j nb) (bT hv j v) w0 σ0 A a w':=by
 have aL:w0.heap.size≤w.heap.size:=h.below.size;have bt:∀k i,i≠j→own k=some i→eT own j nb k=some i:=by
  intro k i hi hk;have h1:=h.owns k i hk;have h2:nb k=false:=by
   cases hn:nb k with
   |false=>rfl
   |true=>have:=dI k hn;omega
  simp[eT,h2,hk,hi]
 refine h.step (fun i=>i=j) rfl hle ar (fun k o x hx=>(dv k o x hx).imp id fun e=>⟨by omega,.inr e⟩) (fun k x hx=>(cP k x hx).imp id fun e=>⟨by omega,.inr e⟩) (hw.mono aL) ⟨fun i=>?_,fun i e=>?_⟩ (fun i hi=>⟨?_,?_,?_,fun k hk=>⟨bt k i hi hk,?_⟩⟩) (fun i hi=>?_) (fun k i hk=>?_) (fun _=>id) (fun t=>.inl ⟨rfl,rfl,rfl⟩) (fun _ _=>rfl) (fun k hk _=>hw.block k hk) (fun k i hk=>by
  unfold eT at hk;split at hk
  ·rename_i hn;exact .inr (dI k hn).1
  ·split at hk
   ·cases hk
   ·exact .inl ⟨i,hk⟩) (fun i hi=>by subst hi;simpa only[St.newO,aK] using lu)
 ·simp only[St.newO,eX];split<;>rename_i e
  ·subst e;omega
  ·omega
 ·simp only[St.newO,eX] at e;split at e
  ·rename_i e';subst e';omega
  ·rename_i az;exact bp _ _ az
 ·simp[St.newO,bp _ _ hi]
 ·simp[Env.setO,bp _ _ hi]
 ·exact bp _ _ hi
 ·exact hw.block k (h.owns k i hk).2.1
 ·subst hi;simp only[St.newO,aK];exact cI
 ·unfold eT at hk;split at hk
  ·rename_i hn;obtain⟨g1,g2⟩:=dI k hn;exact⟨by omega,g2,(dx k hn).1,(dx k hn).2⟩
  ·split at hk
   ·cases hk
   ·obtain⟨g1,g2,g3,g4⟩:=h.owns k i hk;refine⟨g1,by have:=hw.size;omega,fun o=>?_,?_⟩
    ·cases hc:σ'.c k o with
     |none=>rfl
     |some u=>
      rcases dv k o u hc with e|e
      ·rw[g3 o] at e;cases e
      ·omega
    ·cases hc:σ'.m k with
     |none=>rfl
     |some u=>
      rcases cP k u hc with e|e
      ·rw[g4] at e;cases e
      ·omega
theorem Inv.newO (h:Inv C S ρ σ own hv w0 σ0 A a w)(j:Nat)(ob:Ob)(d:D)(v:Value)(nb:Nat→Bool){w':World}(hw:Below w.heap.size w w')(dI:∀k,nb k=true→w.heap.size≤k∧k<w'.heap.size)
 (cI:bU C (S.newO j ob) (ρ.setO j d) σ (eT own j nb) (bT hv j v) w' w0.heap.size j ob) (lu:ob≠.tr:=by intro h;cases h):Inv C (S.newO j ob) (ρ.setO j d) σ (eT own j nb) (bT hv j v) w0 σ0 A a w':=by
 refine h.newOσ j ob d v nb (.refl σ) (h.ok.below hw) (fun _ _ _ hx=>.inl hx) (fun _ _ hx=>.inl hx) hw dI (fun k hn=>⟨fun o=>?_,?_⟩) cI lu
 ·cases hc:σ.c k o with
  |none=>rfl
  |some u=>have:=h.lt hc;have:=(dI k hn).1;omega
 ·cases hc:σ.m k with
  |none=>rfl
  |some u=>have:=h.ltm hc;have:=(dI k hn).1;omega
theorem Inv.setObj (h:Inv C S ρ σ own hv w0 σ0 A a w){t j:Nat}(ht:¬A t){v:Value}(dS:hv j=v)(af:t<a.tmps.size):
 Inv C (S.setR t (.obj j (S.ver j))) (ρ.setR t .none) σ own hv w0 σ0 (fun u=>A u∨u=t) (a.put (some t) v) w:=
 h.setReg ht (s:=.obj j (S.ver j)) (v:=v) (d:=.none) ⟨aU _,fun _=>dS.symm⟩ af (fun _ _ e=>by cases e)
theorem FO (S:St)(j:Nat):(S.fz j).ver=S.ver∧(S.fz j).r=S.r:=by
 unfold St.fz;split<;>exact⟨rfl,rfl⟩
theorem Inv.fz (h:Inv C S ρ σ own hv w0 σ0 A a w)(j:Nat):∃σ' own',σ.le σ'∧Inv C (S.fz j) ρ σ' own' hv w0 σ0 A a w:=by
 have aW:=h.objs j;unfold St.fz;split
 ·rename_i T e eo;rw[eo] at aW;obtain⟨cells,xs,h1,h2,⟨vs,h3,h4⟩,h5⟩:=aW;have aL:w0.heap.size≤w.heap.size:=h.below.size
  let nb:Nat→Bool:=fun k=>decide ((hv j).ownBlock=some k)
  let σ':Im:={c:=fun k o=>if nb k then cells[o]? else σ.c k o,m:=σ.m}
  have dI:∀k,nb k=true→own k=some j:=fun k hk=>h5 k (by simpa [nb] using hk);have hle:σ.le σ':=by
   refine⟨fun k o v hc=>?_,fun k es hc=>hc⟩;have:nb k=false:=by
        cases hn:nb k with
        |false=>rfl
        |true=>have:=(h.owns k j (dI k hn)).2.2.1 o;rw[this] at hc;cases hc
   simp[σ',this,hc]
  refine⟨σ',fun k=>if nb k then none else own k,hle,h.step (fun i=>i=j) rfl hle ?_ (fun k o x hx=>?_) (fun _ _ hx=>.inl hx) (.refl _ _) ⟨fun _=>aU _,fun _ _=>rfl⟩ (fun i hi=>⟨?_,rfl,rfl,fun k hk=>⟨?_,rfl⟩⟩) (fun i hi=>?_) (fun k i hk=>?_) (fun _=>id) (fun t=>.inl ⟨rfl,rfl,rfl⟩) (fun _ _=>rfl) (fun _ _ _=>rfl) (fun k i hk=>by
        split at hk
        ·cases hk
        ·exact .inl ⟨i,hk⟩) (fun i hi=>by subst hi;simp[St.setO,aK])⟩
  ·refine⟨fun k o v hc=>?_,h.ok.m⟩;simp only[σ'] at hc;split at hc
   ·rename_i hn;have cI:(hv j).ownBlock=some k:=by simpa [nb] using hn
    have:=h2.cells cI o v hc;rw[rp] at this;simpa using this
   ·exact h.ok.c k o v hc
  ·simp only[σ'] at hx;split at hx
   ·rename_i hn;exact .inr ⟨(h.owns k j (dI k hn)).1,.inl ⟨j,dI k hn⟩⟩
   ·exact .inl hx
  ·simp[St.setO,bp _ _ hi]
  ·have:nb k=false:=by
        cases hn:nb k with
        |false=>rfl
        |true=>rw[dI k hn] at hk;simp at hk;exact absurd hk.symm hi
   simp[this,hk]
  ·subst hi;simp only[St.setO,aK];refine⟨rfl,?_⟩;rw[h1];rcases h2.2 with⟨e1,e2⟩|⟨g,cap,cur,e1,e2,e3,e4,e5,e6,e7⟩
   ·rw[e1];have:xs=[]:=SO e2;subst this;exact .nil _
   ·rw[e1];refine .slice e.rol g 0 xs.length cap xs vs rfl e4 e5 (fun i x hx=>((h3 i x hx).mono hle).unf_rol) (fun i m u hi hu=>?_);rw[Ty.rol_size];have hn:nb g=true:=by simp[nb,e1,Value.ownBlock]
    simp only[σ',hn,if_true,jo];exact h4 i m u hi hu
  ·split at hk
   ·cases hk
   ·rename_i hn;obtain⟨g1,g2,g3,g4⟩:=h.owns k i hk;exact⟨g1,g2,fun o=>by simp[σ',hn,g3 o],g4⟩
 ·rename_i kt et eo;rw[eo] at aW;obtain⟨k0,arr,clock,fy,h1,h2,h3,h4,h5,⟨hx,_⟩,h6⟩:=aW;have aL:w0.heap.size≤w.heap.size:=h.below.size
  let σ':Im:={c:=σ.c,m:=fun k=>if k=k0 then some (entriesOf arr) else σ.m k}
  have hle:σ.le σ':=by
   refine⟨fun k o v hc=>hc,fun k es hc=>?_⟩;have:k≠k0:=fun e=>by subst e;rw[(h.owns k j h2).2.2.2] at hc;cases hc
   simp[σ',this,hc]
  refine⟨σ',fun k=>if k=k0 then none else own k,hle,h.step (fun i=>i=j) rfl hle ?_ (fun k o x hx=>.inl hx) (fun k x hx=>?_) (.refl _ _) ⟨fun _=>aU _,fun _ _=>rfl⟩ (fun i hi=>⟨?_,rfl,rfl,fun k hk=>⟨?_,rfl⟩⟩) (fun i hi=>?_) (fun k i hk=>?_) (fun _=>id) (fun t=>.inl ⟨rfl,rfl,rfl⟩) (fun _ _=>rfl) (fun _ _ _=>rfl) (fun k i hk=>by
        split at hk
        ·cases hk
        ·exact .inl ⟨i,hk⟩) (fun i hi=>by subst hi;simp[St.setO,aK])⟩
  ·refine⟨h.ok.c,fun k es hc=>?_⟩;simp only[σ'] at hc;split at hc
   ·rename_i e;subst e;cases hc;refine .inl ⟨fun e=>?_,arr,clock,h3,rfl⟩;refine Ck (cap:=C.cap) (σ:=σ) (kt:=kt) (es:=fy) (by simp[entriesOf,h5]) (fun i p q hp hq=>?_) e;simp only[entriesOf,cf,ax] at hp;obtain⟨x,cR,rfl⟩:=hp;exact(h6 i x q (by simpa using cR) hq).1
   ·exact h.ok.m k es hc
  ·simp only[σ'] at hx;split at hx
   ·rename_i e;subst e;exact .inr ⟨(h.owns k j h2).1,.inl ⟨j,h2⟩⟩
   ·exact .inl hx
  ·simp[St.setO,bp _ _ hi]
  ·have:k≠k0:=fun e=>by subst e;rw[h2] at hk;simp at hk;exact hi hk.symm
   simp[this,hk]
  ·subst hi;simp only[St.setO,aK];refine⟨rfl,?_⟩;rw[h1,h4];refine .map kt et k0 (entriesOf arr) fy (by simp[σ']) (by simp[entriesOf,h5]) hx (fun i p q hp hq=>?_) (fun i p q hp hq=>?_)
   ·simp only[entriesOf,cf,ax] at hp;obtain⟨e,he,rfl⟩:=hp;exact((h6 i e q (by simpa using he) hq).1).mono hle
   ·simp only[entriesOf,cf,ax] at hp;obtain⟨e,he,rfl⟩:=hp;exact((h6 i e q (by simpa using he) hq).2).mono hle
  ·split at hk
   ·cases hk
   ·rename_i hn;obtain⟨g1,g2,g3,g4⟩:=h.owns k i hk;exact⟨g1,g2,g3,by simp[σ',hn,g4]⟩
 ·exact⟨σ,own,.refl σ,h⟩
end
end Cx
namespace Cx
open Go Go.RowKit
section
variable {C:Ctx} {S:St} {ρ:Env} {σ:Im} {own:Nat→Option Nat} {hv:Nat→Value} {w0:World} {σ0:Base} {A:Nat→Prop} {a:Act} {w:World} {gs:List (Nat×Bool)} {Φ:aJ} {dst:Nat}
theorem q7 {j:Nat}{e:PE}{ρ':Env}(h:PI.runs Φ [.setO j e] ρ=some ρ'):ρ'=ρ.setO j (e.ev ρ):=by
 simp[PI.runs,PI.run] at h;exact h.symm
theorem mB {ρ':Env}(h:PI.runs Φ [] ρ=some ρ'):ρ'=ρ:=by
 simp[PI.runs] at h;exact h.symm
def zC (C:Ctx)(w0:World)(σ0:Base)(Φ:aJ)(S:St)(ρ:Env)(A:Nat→Prop)(a:Act)(w:World)(r:St×List PI):Prop:=
 ∀ρ',PI.runs Φ r.2 ρ=some ρ'→Good C w0 σ0 r.1 ρ' A a w
theorem agp (h:Inv C S ρ σ own hv w0 σ0 A a w){b:Nat}{r:St×List PI}(hr:AW S b=some r):zC C w0 σ0 Φ S ρ A a w r:=by
 unfold AW at hr;split at hr
 case h_2=>cases hr
 rename_i ag shs eo;simp only[au] at hr;obtain⟨x,hx,hr⟩:=hr;have aW:=h.objs b;rw[eo] at aW;obtain⟨k,cs,T,ds,h1,h2,h3,h4,h5,h6,h7⟩:=aW;obtain⟨l1,es,⟨he,qt⟩,l2,bF⟩:=Ku (b:=.o b) h (cs:=cs.toList) h5 shs 0 x (fun m s hm=>by rw[xJ,jo];exact(h7 m s hm).2) hx
 let σ':Im:={c:=fun k' o=>if k'=k then cs[o]? else σ.c k' o,m:=σ.m}
 have hle:σ.le σ':=by
  refine⟨fun k' o v hc=>?_,fun k es hc=>hc⟩;have:k'≠k:=fun e=>by subst e;rw[(h.owns k' b h2).2.2.1 o] at hc;cases hc
  simp[σ',this,hc]
 have key:∀(t:Ty) (v:Value) (d:D),Rep C.cap σ' t v d→(∀(i:Nat) (u:Value),v.cells[i]?=some u→cs[i]?=some u)→
  Inv C (S.setO b (.fbox t)) (ρ.setO b d) σ' (fun k'=>if k'=k then none else own k') hv w0 σ0 A a w:=by
  intro t v d hrv aV
  refine h.step (fun i=>i=b) rfl hle ?_ (fun k' o x hx=>?_) (fun _ _ hx=>.inl hx) (.refl _ _) ⟨fun _=>aU _,fun _ _=>rfl⟩ (fun i hi=>⟨?_,?_,rfl,fun k' hk=>⟨?_,rfl⟩⟩) (fun i hi=>?_) (fun k' i hk=>?_) (fun _=>id) (fun t=>.inl ⟨rfl,rfl,rfl⟩) (fun _ _=>rfl) (fun _ _ _=>rfl) (fun k' i hk=>by
        split at hk
        ·cases hk
        ·exact .inl ⟨i,hk⟩) (fun i hi=>by subst hi;simp[St.setO,aK])
  ·refine⟨fun k' o v hc=>?_,h.ok.m⟩;simp only[σ'] at hc;split at hc
   ·rename_i e;subst e;simp[World.cell?,h3,hc]
   ·exact h.ok.c k' o v hc
  ·simp only[σ'] at hx;split at hx
   ·rename_i e;subst e;exact .inr ⟨(h.owns k' b h2).1,.inl ⟨b,h2⟩⟩
   ·exact .inl hx
  ·simp[St.setO,bp _ _ hi]
  ·simp[Env.setO,bp _ _ hi]
  ·have:k'≠k:=fun e=>by subst e;rw[h2] at hk;simp at hk;exact hi hk.symm
   simp[this,hk]
  ·subst hi;simp only[St.setO,aK];exact⟨k,v,h1,by simp only[Env.setO,aK];exact hrv,fun i u hu=>by simp[σ',aV i u hu]⟩
  ·split at hk
   ·cases hk
   ·rename_i hn;obtain⟨g1,g2,g3,g4⟩:=h.owns k' i hk;exact⟨g1,g2,fun o=>by simp[σ',hn,g3 o],g4⟩
 have il:∀(m:Nat) (t:Ty),x.1[m]?=some t→t.one=true∧Rep C.cap σ' t (cs.toList.getD m undef) (es.getD m .none):=fun m t hm=>by
  obtain⟨g1,g2⟩:=bF m t hm;rw[jo] at g2;exact⟨g1,g2.mono hle⟩
 intro ρ' aj;cases ag with
 |true=>
  simp only[cond_true] at hr;cases hr;have:=q7 aj;subst this;refine⟨_,_,_,key (.agg x.1) (.agg cs.toList.toArray) _ ?_ (fun i u hu=>by simpa [Value.cells] using hu)⟩;simp only[PE.ev,he];exact .agg _ _ _ (by simp;omega) (by omega) (fun m t hm=>(il m t hm).2) (fun m t hm=>(il m t hm).1)
 |false=>
  simp only[cond_false] at hr;split at hr
  ·rename_i t e et ee;cases hr;have:=q7 aj;subst this;obtain⟨g1,g2⟩:=il 0 t (by rw[et];rfl);have gI:es=[e.ev ρ]:=by rw[←qt,ee];rfl
   subst gI;refine⟨_,_,_,key t (cs.toList.getD 0 undef) _ (by simpa using g2) (fun i u hu=>?_)⟩;rw[(g2.oneCell g1).1] at hu;have hi:i=0:=by
        have:=(ei.1 hu).1;simpa using this
   subst hi;simp at hu;subst hu;have:0<cs.size:=by rw[h4];rw[et] at l1;simp at l1;omega
   rw[iM this];simp[aI,iM this]
  ·cases hr
theorem Inv.mv (h:Inv C S ρ σ own hv w0 σ0 A a w){j j':Nat}(az:j≠j')(hk:kD (S.o j)=true):
 Inv C (S.mv j j') (ρ.setO j' (ρ.o j)) σ (fun k=>if own k=some j then some j' else if own k=some j' then none else own k) (bT hv j' (hv j)) w0 σ0 A a w:=by
 have aW:=h.objs j
 refine h.step (fun i=>i=j∨i=j') rfl (.refl σ) h.ok (fun _ _ _ hx=>.inl hx) (fun _ _ hx=>.inl hx) (.refl _ _) ⟨fun i=>?_,fun i e=>?_⟩ (fun i hi=>?_) (fun i hi=>?_) (fun k i hk=>?_) (fun _=>id) (fun t=>.inl ⟨rfl,rfl,rfl⟩) (fun _ _=>rfl) (fun _ _ _=>rfl) (fun k i hk=>by
        split at hk
        ·rename_i e;exact .inl ⟨j,e⟩
        ·split at hk
         ·cases hk
         ·exact .inl ⟨i,hk⟩) (fun i hi=>by
        rcases hi with rfl|rfl
        ·simp[St.mv,aK]
        ·simp only[St.mv,bp _ _ (rl az),aK];intro e;rw[e] at hk;cases hk)
 ·simp only[St.mv,eX];split
  ·rename_i e;subst e;omega
  ·split
   ·rename_i e;subst e;omega
   ·omega
 ·simp only[St.mv,eX] at e;split at e
  ·rename_i e';subst e';omega
  ·split at e
   ·rename_i e';subst e';omega
   ·rename_i LY;exact bp _ _ LY
 ·simp only[not_or] at hi;refine⟨by simp[St.mv,bp _ _ hi.1,bp _ _ hi.2],by simp[Env.setO,bp _ _ hi.2],bp _ _ hi.2,fun k hk=>⟨?_,rfl⟩⟩;have e1:i≠j:=hi.1;have e2:i≠j':=hi.2;simp[hk,e1,e2]
 ·rcases hi with rfl|rfl
  ·simp only[St.mv,aK];trivial
  ·simp only[St.mv,bp _ _ (rl az),aK];cases cI:S.o j with
   |row T e=>
    rw[cI] at aW;obtain⟨cells,xs,h1,h2,h3,h4⟩:=aW;refine⟨cells,xs,by simp only[Env.setO,aK];exact h1,by rw[aK];exact h2,h3,fun k hk=>?_⟩;rw[aK] at hk;simp[h4 k hk]
   |mp kt et=>
    rw[cI] at aW;obtain⟨k0,arr,clock,es,h1,h2,h3,h4,h5,h6⟩:=aW;exact⟨k0,arr,clock,es,by rw[aK];exact h1,by simp[h2],h3,by simp only[Env.setO,aK];exact h4,h5,h6⟩
   |_=>rw[cI] at hk;simp[kD] at hk
 ·split at hk
  ·rename_i e;exact h.owns k j e
  ·split at hk
   ·cases hk
   ·exact h.owns k i hk
theorem aol (h:Inv C S ρ σ own hv w0 σ0 A a w){t j':Nat}{r:St×List PI}(hr:Dq S t j'=some r):zC C w0 σ0 Φ S ρ A a w r:=by
 intro ρ' aj;unfold Dq at hr;split at hr
 ·rename_i j ver es;cases hb:(Nat.beq ver (S.ver j)&&kD (S.o j)&& !Nat.beq j j')<;>simp only[hb,cond_true,cond_false] at hr
  ·cases hr;rw[mB aj];exact⟨_,_,_,h⟩
  ·cases hr;simp only[aq,jf] at hb;have dp:=aw hb.1.1;have az:j≠j':=fun e=>by subst e;simp at hb
   have jY:=h.mv az hb.1.2;have ix:=h.regs t;rw[es] at ix;have bY:=ix.2 dp;rw[q7 aj];refine⟨_,_,_,jY.step (S':=(S.mv j j').setR t (.obj j' (S.ver j'+1))) (fun _=>False) rfl (.refl σ) jY.ok (fun _ _ _ hx=>.inl hx) (fun _ _ hx=>.inl hx) (.refl _ _) ⟨fun _=>aU _,fun _ _=>rfl⟩ (fun i _=>⟨rfl,rfl,rfl,fun k hk=>⟨hk,rfl⟩⟩) (fun _ hf=>hf.elim) jY.owns (fun _=>id) (fun u=>?_) (fun _ _=>rfl) (fun _ _ _=>rfl) (fun k i hk=>.inl ⟨i,hk⟩) (fun _ hf=>hf.elim)⟩;by_cases hu:u=t
   ·subst hu;refine .inr ⟨?_,fun gs s e=>by simp[St.setR,aK] at e⟩;simp only[St.setR,aK];refine⟨?_,fun _=>?_⟩
    ·simp[St.mv,bp _ _ (rl az),aK]
    ·rw[aK];exact bY
   ·exact .inl ⟨by simp[St.setR,bp _ _ hu],rfl,rfl⟩
 ·cases hr;rw[mB aj];exact⟨_,_,_,h⟩
theorem aok (h:Inv C S ρ σ own hv w0 σ0 A a w){b i j':Nat}{r:St×List PI}(hr:Dp S b i j'=some r):zC C w0 σ0 Φ S ρ A a w r:=by
 intro ρ' aj;unfold Dp at hr;split at hr
 ·rename_i ag shs eo;split at hr
  ·rename_i j ver es;cases hb:(Nat.beq ver (S.ver j)&&kD (S.o j)&& !Nat.beq j j'&& !Nat.beq b j'&& !Nat.beq b j)<;>simp only[hb,cond_true,cond_false] at hr
   ·cases hr;rw[mB aj];exact⟨_,_,_,h⟩
   ·cases hr;simp only[aq,jf] at hb;have dp:=aw hb.1.1.1.1;have az:j≠j':=fun e=>by subst e;simp at hb
    have ij:b≠j':=fun e=>by subst e;simp at hb
    have fc:b≠j:=fun e=>by subst e;simp at hb
    have aW:=h.objs b;rw[eo] at aW;obtain⟨k,cs,T,ds,h1,h2,h3,h4,h5,h6,h7⟩:=aW;have bY:=(h7 i _ es).2.2 dp;have jY:=h.mv az hb.1.1.1.2;rw[q7 aj];have KS:(S.mv j j').o b=.box ag shs:=by simp[St.mv,bp _ _ ij,bp _ _ fc,eo]
    have BF:=jY.objs b;rw[KS] at BF;refine⟨_,_,_,jY.step (S':=(S.mv j j').setO b (.box ag (shs.set i (.obj j' (S.ver j'+1))))) (fun m=>m=b) rfl (.refl σ) jY.ok (fun _ _ _ hx=>.inl hx) (fun _ _ hx=>.inl hx) (.refl _ _) ⟨fun _=>aU _,fun _ _=>rfl⟩ (fun m hm=>⟨by simp[St.setO,bp _ _ hm],rfl,rfl,fun k hk=>⟨hk,rfl⟩⟩) (fun m hm=>?_) jY.owns (fun _=>id) (fun t=>.inl ⟨rfl,rfl,rfl⟩) (fun _ _=>rfl) (fun _ _ _=>rfl) (fun k i hk=>.inl ⟨i,hk⟩) (fun m hm=>by subst hm;simp[St.setO,aK])⟩;subst hm;rw[St.setO_o];obtain⟨k1,As,T1,Av,g1,g2,g3,g4,g5,g6,g7⟩:=BF;have e1:As=cs:=by
     rw[bp _ _ ij,h1] at g1;cases g1;rw[h3] at g3;cases g3;rfl
    refine⟨k1,As,T1,Av,g1,g2,g3,by simpa using g4,g5,by simpa using g6,fun q x hq=>?_⟩;rw[zF] at hq;split at hq
    ·rename_i e;subst e;split at hq
     ·cases hq;refine⟨(fun _ _ e=>by cases e),?_,fun _=>?_⟩
      ·simp[St.setO,St.mv,bp _ _ (rl az),aK]
      ·rw[aK,e1];exact bY
     ·cases hq
    ·obtain⟨f1,f2⟩:=g7 q x hq;exact⟨f1,f2.mono' (.refl σ) (Compat.setO _ _ _ _) f1⟩
  ·cases hr;rw[mB aj];exact⟨_,_,_,h⟩
 ·cases hr;rw[mB aj];exact⟨_,_,_,h⟩
theorem aix (h:Inv C S ρ σ own hv w0 σ0 A a w){b i j:Nat}{T:TypeId}{r:St×List PI}(hr:BH C S b i j T=some r):zC C w0 σ0 Φ S ρ A a w r:=by
 intro ρ' aj;unfold BH at hr;split at hr
 ·rename_i ag shs eo;split at hr
  ·rename_i e0 e es et;cases hb:(!Nat.beq b j)<;>simp only[hb,cond_true,cond_false] at hr
   ·cases hr;rw[mB aj];exact⟨_,_,_,h⟩
   ·cases hr;have az:b≠j:=fun e=>by subst e;simp at hb
    have aW:=h.objs b;rw[eo] at aW;obtain⟨k,cs,T0,ds,h1,h2,h3,h4,h5,h6,h7⟩:=aW;have bY:cs.getD i undef=.slice none 0 0:=by
     have:=(h7 i _ es).2;generalize cs.getD i undef=v at this;generalize ds.getD i .none=d at this;cases this;rfl
    have j1:=h.newO j (.row T e) (.list []) (.slice none 0 0) (fun _=>false) (.refl _ _) (by simp) ⟨[],[],by simp[Env.setO,aK],by rw[aK];exact World.ownsRow_nil _ _ _ _,⟨fun _=>undef,by simp,by simp⟩,by rw[aK];simp[Value.ownBlock]⟩;rw[q7 aj];have KS:(S.newO j (.row T e)).o b=.box ag shs:=by simp[St.newO,bp _ _ az,eo]
    have BF:=j1.objs b;rw[KS] at BF;refine⟨_,_,_,j1.step (S':=(S.newO j (.row T e)).setO b (.box ag (shs.set i (.obj j (S.ver j+1))))) (fun m=>m=b) rfl (.refl σ) j1.ok (fun _ _ _ hx=>.inl hx) (fun _ _ hx=>.inl hx) (.refl _ _) ⟨fun _=>aU _,fun _ _=>rfl⟩ (fun m hm=>⟨by simp[St.setO,bp _ _ hm],rfl,rfl,fun k hk=>⟨hk,rfl⟩⟩) (fun m hm=>?_) j1.owns (fun _=>id) (fun t=>.inl ⟨rfl,rfl,rfl⟩) (fun _ _=>rfl) (fun _ _ _=>rfl) (fun k i hk=>.inl ⟨i,hk⟩) (fun m hm=>by subst hm;simp[St.setO,aK])⟩;subst hm;rw[St.setO_o];obtain⟨k1,As,T1,Av,g1,g2,g3,g4,g5,g6,g7⟩:=BF;have e1:As=cs:=by
     rw[bp _ _ az,h1] at g1;cases g1;rw[h3] at g3;cases g3;rfl
    refine⟨k1,As,T1,Av,g1,g2,g3,by simpa using g4,g5,by simpa using g6,fun q x hq=>?_⟩;rw[zF] at hq;split at hq
    ·rename_i e';subst e';split at hq
     ·cases hq;refine⟨(fun _ _ e=>by cases e),?_,fun _=>?_⟩
      ·simp[St.setO,St.newO,aK]
      ·rw[aK,e1];exact bY
     ·cases hq
    ·obtain⟨f1,f2⟩:=g7 q x hq;exact⟨f1,f2.mono' (.refl σ) (Compat.setO _ _ _ _) f1⟩
  ·cases hr;rw[mB aj];exact⟨_,_,_,h⟩
 ·cases hr;rw[mB aj];exact⟨_,_,_,h⟩
end
end Cx
namespace Cx
open Go Go.RowKit
def mkObj (S:St)(dst:Nat)(ob:Ob):St:=(S.newO dst ob).setR dst (.obj dst (S.ver dst+1))
def mkPtr (S:St)(dst:Nat)(ob:Ob):St:=(S.newO dst ob).setR dst (.ptr dst (S.ver dst+1) 0)
abbrev jO:=Option (St×List PI)
def AG (C:Ctx)(S:St)(dst:Nat)(T:TypeId)(x:Operand):jO:=
 match use C S [] x,C.P.underlying T with
 |some (.nils _,_),some (.slice E)=>(mE C.P E).map fun e=>(mkObj S dst (.row E e),[.setO dst (.con (.list [])),.setR dst (.con .none)])
 |_,_=>Option.none
def Aw (C:Ctx)(S:St)(dst:Nat)(T:TypeId):jO:=
 match mE C.P T,C.P.info? T,nr C.P T with
 |some t,some inf,some ag=>
  bif q9 inf t&&(t.rowT||t.one) then
   (mG t).map fun z=>(mkPtr S dst (.box ag (z.1.flat.map .dat)),[.setO dst (.con (.agg z.2.cells)),.setR dst (.con .none)])
  else Option.none
 |_,_,_=>Option.none
def Ay (C:Ctx)(S:St)(dst:Nat)(T:TypeId)(x:Operand):jO:=
 match use C S [] x,nr C.P T with
 |some (t,e),some ag=>
  bif t.rowT||t.one then some (mkPtr S dst (.box ag (t.flat.map .dat)),[.setO dst (.mk [e]),.setR dst (.con .none)]) else Option.none
 |_,_=>Option.none
def AD (C:Ctx)(S:St)(dst:Nat)(T:TypeId)(r:Option Operand):jO:=
 match C.P.underlying T,r with
 |some (.map K E),Option.none=>
  (mE C.P K).bind fun kt=>(mE C.P E).map fun et=>(mkObj S dst (.mp kt et),[.setO dst (.con (.map [])),.setR dst (.con .none)])
 |_,_=>Option.none
def AE (C:Ctx)(S:St)(dst:Nat)(T:TypeId)(l c:Operand):jO:=
 match C.P.underlying T,use C S [] l,use C S [] c with
 |some (.slice E),some (.int _,n),some (.int _,m)=>
  (mE C.P E).bind fun e=>
    bif ot C.P E e then
     (mG e).bind fun z=>
        bif Ty.sub z.1 e then some (mkObj S dst (.row E e),[.chk (Na n),.chk (.ci .eql n m),.setO dst (.rep n (.con z.2)),.setR dst (.con .none)]) else Option.none
    else Option.none
 |_,_,_=>Option.none
def AH (C:Ctx)(S:St)(dst:Nat)(T:TypeId)(x:Operand):jO:=
 match C.P.underlying T,gD S [] x with
 |some (.map _ _),.obj j ver=>
  bif Nat.beq ver (S.ver j)&& !Nat.beq j dst then
   match S.o j with
   |.mp kt et=>some (mkObj (S.mv j dst) dst (.it kt et),[.setO dst (.tup [.lst [],.o j]),.setR dst (.con .none)])
   |_=>Option.none
  else Option.none
 |_,_=>Option.none
def Az (C:Ctx)(S:St)(dst:Nat)(s d:TypeId)(x:Operand):jO:=
 match use C S [] x,C.P.underlying s,C.P.underlying d with
 |some (.str,e),some .string,some (.slice E)=>
  (match C.P.underlying E with
   |some (.int .u8)=>some (S.setR dst (.dat (.slice (.int .u8))),[.chk (.ci .leq (.slen e) (.con (.int lH))),.setR dst (.bytes e)])
   |_=>Option.none)
 |_,_,_=>Option.none
section
variable {C:Ctx} {S:St} {ρ:Env} {σ:Im} {own:Nat→Option Nat} {hv:Nat→Value} {w0:World} {σ0:Base} {A:Nat→Prop} {a:Act} {w:World} {gs:List (Nat×Bool)} {Φ:aJ} {dst:Nat}
def bR (C:Ctx)(w0:World)(σ0:Base)(Φ:aJ)(S:St)(ρ:Env)(A:Nat→Prop)(a:Act)(w:World)(o:Oper)(r:St×List PI):Prop:=
 ∀ρ',PI.runs Φ r.2 ρ=some ρ'→∀(K:Act→World→Prop) (Q:Exit→Act→World→Prop),(∀a' w',Good C w0 σ0 r.1 ρ' (fun u=>A u∨o.dst=some u) a' w'→a'.tmps.size=a.tmps.size→K a' w')→o.wp C.P a w K Q
theorem size_put (a:Act)(d:Option Tmp)(v:Value):(a.put d v).tmps.size=a.tmps.size:=by
 cases d<;>simp[Act.put]
theorem bR.value {o:Oper}{r:St×List PI}(hd:o.dst=some dst)(hx:∀ρ',PI.runs Φ r.2 ρ=some ρ'→∃v w',(execOp a.eval o).run C.P w=.ok (.value v) w'∧Good C w0 σ0 r.1 ρ' (fun u=>A u∨u=dst) (a.put (some dst) v) w'):bR C w0 σ0 Φ S ρ A a w o r:=by
 intro ρ' aj K Q hK;obtain⟨v,w',h1,h2⟩:=hx ρ' aj;simp only[Oper.wp,h1,Oper.upon,hd];refine hK _ _ ?_ (size_put _ _ _)
 have:(fun u=>A u∨o.dst=some u)=(fun u=>A u∨u=dst):=by
  funext u;rw[hd];simp[eq_comm]
 rw[this];exact h2
theorem bR.skip {o:Oper}{r:St×List PI}(hd:o.dst=none)(hx:∀ρ',PI.runs Φ r.2 ρ=some ρ'→∃w',(execOp a.eval o).run C.P w=.ok .skip w'∧Good C w0 σ0 r.1 ρ' A a w'):bR C w0 σ0 Φ S ρ A a w o r:=by
 intro ρ' aj K Q hK;obtain⟨w',h1,h2⟩:=hx ρ' aj;simp only[Oper.wp,h1,Oper.upon,hd]
 have:(fun u=>A u∨o.dst=some u)=A:=by
  funext u;rw[hd];simp
 rw[this] at hK;exact hK _ _ h2 (size_put _ _ _)
theorem dF.eff (h:Inv C S ρ σ own hv w0 σ0 A a w)(ht:¬A dst)(af:dst<a.tmps.size){o:Oper}(hd:o.dst=some dst){s:Sh}{Cu:List PI}(hq:dF C S ρ σ hv Φ dst a w o (s,Cu)):bR C w0 σ0 Φ S ρ A a w o (S.setR dst s,Cu):=by
 refine bR.value hd fun ρ' aj=>?_;obtain⟨v,d,rfl,h1,h2,h3⟩:=hq ρ' aj;exact⟨v,w,h1,σ,own,hv,h.setReg ht (aF.mono' (.refl σ) (.refl S hv) h3 h2) af (fun gs s' e=>absurd e (h3 gs s'))⟩
theorem dF.effG (h:Inv C S ρ σ own hv w0 σ0 A a w)(ht:¬A dst)(af:dst<a.tmps.size)(dy:∀g,g∈gs→A g.1)(hg:holds gs ρ=true){o:Oper}(hd:o.dst=some dst){s:Sh}{Cu:List PI}(hq:dF C S ρ σ hv Φ dst a w o (s,Cu)):bR C w0 σ0 Φ S ρ A a w o (S.setR dst (.opt gs s),Cu):=by
 refine bR.value hd fun ρ' aj=>?_;obtain⟨v,d,rfl,h1,h2,h3⟩:=hq ρ' aj;have hh:holds gs (ρ.setR dst d)=true:=by rw[BG (t:=dst) (d:=d) fun g hm e=>ht (by rw[←e];exact dy g hm)];exact hg
 refine⟨v,w,h1,σ,own,hv,h.setReg ht ⟨fun _=>aF.mono' (.refl σ) (.refl S hv) h3 h2,fun e=>absurd (hh.symm.trans e) (by decide)⟩ af (fun bI s' e=>?_)⟩;cases e;exact⟨dy,h3⟩
theorem Inv.passed (h:Inv C S ρ σ own hv w0 σ0 A a w)(ht:¬A dst)(af:dst<a.tmps.size)(dy:∀g,g∈gs→A g.1)(hg:holds gs ρ=false){s:Sh}(hs:∀bI s',s≠.opt bI s')(d:D):Inv C (S.setR dst (.opt gs s)) (ρ.setR dst d) σ own hv w0 σ0 (fun u=>A u∨u=dst) (a.put (some dst) undef) w:=by
 have hh:holds gs (ρ.setR dst d)=false:=by rw[BG (t:=dst) (d:=d) fun g hm e=>ht (by rw[←e];exact dy g hm)];exact hg
 refine h.setReg ht (s:=.opt gs s) (v:=undef) (d:=d) ⟨fun e=>absurd (hh.symm.trans e) (by decide),fun _=>rfl⟩ af (fun bI s' e=>?_);cases e;exact⟨dy,hs⟩
theorem Inv.mkObj (h:Inv C S ρ σ own hv w0 σ0 A a w)(ht:¬A dst)(af:dst<a.tmps.size)(ob:Ob)(d:D)(v:Value)(nb:Nat→Bool){w':World}(hw:Below w.heap.size w w')(dI:∀k,nb k=true→w.heap.size≤k∧k<w'.heap.size)
 (cI:bU C (S.newO dst ob) (ρ.setO dst d) σ (eT own dst nb) (bT hv dst v) w' w0.heap.size dst ob) (lu:ob≠.tr:=by intro h;cases h):
 Good C w0 σ0 (Cx.mkObj S dst ob) ((ρ.setO dst d).setR dst .none) (fun u=>A u∨u=dst) (a.put (some dst) v) w':=by
 have h1:=h.newO dst ob d v nb hw dI cI lu;have h2:=h1.setObj ht (j:=dst) (v:=v) (aK _ _ _) af;have e:(S.newO dst ob).ver dst=S.ver dst+1:=aK _ _ _;rw[e] at h2;exact⟨_,_,_,h2⟩
theorem Inv.mkPtr (h:Inv C S ρ σ own hv w0 σ0 A a w)(ht:¬A dst)(af:dst<a.tmps.size)(ob:Ob)(d:D)(k:Nat)(nb:Nat→Bool){w':World}(hw:Below w.heap.size w w')(dI:∀k,nb k=true→w.heap.size≤k∧k<w'.heap.size)
 (cI:bU C (S.newO dst ob) (ρ.setO dst d) σ (eT own dst nb) (bT hv dst (.pointer (some ⟨k,0,none⟩))) w' w0.heap.size dst ob) (lu:ob≠.tr:=by intro h;cases h):
 Good C w0 σ0 (Cx.mkPtr S dst ob) ((ρ.setO dst d).setR dst .none) (fun u=>A u∨u=dst) (a.put (some dst) (.pointer (some ⟨k,0,none⟩))) w':=by
 have h1:=h.newO dst ob d _ nb hw dI cI lu;have e:(S.newO dst ob).ver dst=S.ver dst+1:=aK _ _ _;have h2:=h1.setReg ht (s:=.ptr dst (S.ver dst+1) 0) (v:=.pointer (some ⟨k,0,none⟩)) (d:=.none) ⟨Nat.le_of_eq e.symm,fun _=>⟨k,aK _ _ _,rfl⟩⟩ af (fun _ _ e=>by cases e);exact⟨_,_,_,h2⟩
theorem Dv {e:PE}{ρ':Env}(h:PI.runs Φ [.setO dst e,.setR dst (.con .none)] ρ=some ρ'):ρ'=(ρ.setO dst (e.ev ρ)).setR dst .none:=by
 simp[PI.runs,PI.run,PE.ev] at h;exact h.symm
theorem TG (h:Inv C S ρ σ own hv w0 σ0 A a w){t:Ty}{v:Value}{d:D}(hr:Rep C.cap σ t v d)(ho:t.rowT=true∨t.one=true)(ag:Bool)(T:TypeId):
 bU C (S.newO dst (.box ag (t.flat.map .dat))) (ρ.setO dst (.agg d.cells)) σ (eT own dst (fun k=>Nat.beq k w.heap.size)) (bT hv dst (.pointer (some ⟨w.heap.size,0,none⟩))) (w.alloc (.cells v.cells T)) w0.heap.size dst (.box ag (t.flat.map .dat)):=by
 obtain⟨f1,f2,f3⟩:=hr.flat ho;refine⟨w.heap.size,v.cells,T,d.cells,aK _ _ _,by simp[eT],heap_alloc_new w _,by rw[hr.size];simp[f1],by simp[Env.setO,aK],by simp[f1,f2],fun i s hi=>?_⟩;simp only[cf,ax] at hi;obtain⟨ti,Mv,rfl⟩:=hi;exact⟨fun _ _ e=>(by cases e),(f3 i ti Mv).2⟩
theorem aev (h:Inv C S ρ σ own hv w0 σ0 A a w)(hC:CtxOK C σ0)(ht:¬A dst)(af:dst<a.tmps.size){T:TypeId}{x:Operand}{r:St×List PI}(hr:AG C S dst T x=some r){o:Oper}(hd:o.dst=some dst)(ho:o.op=.assign x):bR C w0 σ0 Φ S ρ A a w o r:=by
 unfold AG at hr;split at hr
 case h_2=>cases hr
 rename_i e0 e1 E hu hT;simp only[ax] at hr;obtain⟨e,he,rfl⟩:=hr;have hx:=bW h hC rfl hu;have bY:a.eval x=.slice none 0 0:=by
  generalize a.eval x=v at hx;generalize e1.ev ρ=d at hx;cases hx;rfl
 refine bR.value hd fun ρ' aj=>⟨.slice none 0 0,w,by simp[execOp,ho,bY],?_⟩
 rw[Dv aj];exact h.mkObj ht af (.row E e) _ _ (fun _=>false) (.refl _ _) (by simp) ⟨[],[],by simp[Env.setO,aK,PE.ev],by rw[aK];exact World.ownsRow_nil _ _ _ _,⟨fun _=>undef,by simp,by simp⟩,by rw[aK];simp[Value.ownBlock]⟩
theorem ad5 (h:Inv C S ρ σ own hv w0 σ0 A a w)(ht:¬A dst)(af:dst<a.tmps.size){T:TypeId}{r:St×List PI}(hr:Aw C S dst T=some r){o:Oper}(hd:o.dst=some dst)(ho:o.op=.alloc T):bR C w0 σ0 Φ S ρ A a w o r:=by
 unfold Aw at hr;split at hr
 case h_2=>cases hr
 rename_i t inf ag Mw hi ha;cases hc:(q9 inf t&&(t.rowT||t.one))<;>simp only[hc,cond_true,cond_false] at hr
 ·cases hr
 simp only[aq,jh] at hc;simp only[ax] at hr;obtain⟨z,hz,rfl⟩:=hr;obtain⟨v0,nq,yp⟩:∃v0,inf.zero=some v0∧gX t v0=true:=by
  have:=hc.1;unfold q9 at this;split at this
  ·exact⟨_,by assumption,this⟩
  ·cases this
 obtain⟨k1,k2,k3⟩:=vU (cap:=C.cap) (σ:=σ) hz yp;have lz:z.1.rowT=true∨z.1.one=true:=by
  rcases hc.2 with e|e
  ·left;cases t<;>simp[Ty.rowT] at e;simp[mG] at hz;obtain⟨_,_,rfl⟩:=hz;rfl
  ·right;rw[k3];exact e
 refine bR.value hd fun ρ' aj=>⟨.pointer (some ⟨w.heap.size,0,none⟩),w.alloc (.cells v0.cells T),?_,?_⟩
 ·simp[execOp,ho,Instr.alloc,zeroValue,run_typeInfo w hi,nq,newVar,newRow]
 ·rw[Dv aj];exact h.mkPtr ht af _ _ _ (fun k=>Nat.beq k w.heap.size) ((Below.refl _ _).alloc (aU _) _) (fun k hk=>by simp at hk;simp;omega) (TG h k1 lz ag T)
theorem ad9 (h:Inv C S ρ σ own hv w0 σ0 A a w)(hC:CtxOK C σ0)(ht:¬A dst)(af:dst<a.tmps.size){T:TypeId}{x:Operand}{r:St×List PI}(hr:Ay C S dst T x=some r){o:Oper}(hd:o.dst=some dst)(ho:o.op=.box T x):bR C w0 σ0 Φ S ρ A a w o r:=by
 unfold Ay at hr;split at hr
 case h_2=>cases hr
 rename_i t e ag hu ha;cases hc:(t.rowT||t.one)<;>simp only[hc,cond_true,cond_false] at hr
 ·cases hr
 cases hr;simp only[jh] at hc;have hx:=bW h hC rfl hu;refine bR.value hd fun ρ' aj=>⟨.pointer (some ⟨w.heap.size,0,none⟩),w.alloc (.cells (a.eval x).cells T),?_,?_⟩
 ·simp[execOp,ho,Instr.box,newVar,newRow]
 ·rw[Dv aj];have:(PE.mk [e]).ev ρ=.agg (e.ev ρ).cells:=by simp[PE.ev,PE.evc]
  rw[this];exact h.mkPtr ht af _ _ _ (fun k=>Nat.beq k w.heap.size) ((Below.refl _ _).alloc (aU _) _) (fun k hk=>by simp at hk;simp;omega) (TG h hx hc ag T)
theorem aep (h:Inv C S ρ σ own hv w0 σ0 A a w)(ht:¬A dst)(af:dst<a.tmps.size){T:TypeId}{m:Option Operand}{r:St×List PI}(hr:AD C S dst T m=some r){o:Oper}(hd:o.dst=some dst)(ho:o.op=.makeMap T m):bR C w0 σ0 Φ S ρ A a w o r:=by
 unfold AD at hr;split at hr
 case h_2=>cases hr
 rename_i K E hT;simp only[au,ax] at hr;obtain⟨kt,hk,et,he,rfl⟩:=hr;refine bR.value hd fun ρ' aj=>⟨.map (some w.heap.size),w.alloc (.map #[] 0),?_,?_⟩
 ·simp[execOp,ho,Instr.makeMap]
 ·rw[Dv aj]
  exact h.mkObj ht af (.mp kt et) _ _ (fun k=>Nat.beq k w.heap.size) ((Below.refl _ _).alloc (aU _) _) (fun k hk=>by simp at hk;simp;omega)
   ⟨w.heap.size,#[],0,[],aK _ _ _,by simp[eT],heap_alloc_new w _,by simp[Env.setO,aK,PE.ev],rfl,⟨by simp,by simp[kT]⟩,by simp⟩
theorem aex (h:Inv C S ρ σ own hv w0 σ0 A a w)(ht:¬A dst)(af:dst<a.tmps.size){T:TypeId}{x:Operand}{r:St×List PI}(hr:AH C S dst T x=some r){o:Oper}(hd:o.dst=some dst)(ho:o.op=.range T x):bR C w0 σ0 Φ S ρ A a w o r:=by
 unfold AH at hr;split at hr
 case h_2=>cases hr
 rename_i K E j ver hT es;obtain⟨dQ,_⟩:=sS h (gs:=[]) rfl x;rw[es] at dQ;cases hb:(Nat.beq ver (S.ver j)&& !Nat.beq j dst)<;>simp only[hb,cond_true,cond_false] at hr
 ·cases hr
 simp only[aq,jf] at hb;have bY:=dQ.2 (aw hb.1);have az:j≠dst:=fun e=>by subst e;simp at hb
 have aW:=h.objs j;split at hr
 case h_2=>cases hr
 rename_i kt et eo;cases hr;rw[eo] at aW;obtain⟨m,arr,clock,ds,h1,h2,h3,h4,h5,⟨h6,oC⟩,h7⟩:=aW;have jY:=h.mv az (by rw[eo];rfl);have oF:m<w.heap.size:=(ei.1 h3).1;have LR:w0.heap.size≤m:=(h.owns m j h2).1;refine bR.value hd fun ρ' aj=>⟨.pointer (some ⟨w.heap.size,0,none⟩),w.alloc (.mapIter (some m) clock #[] clock),?_,?_⟩
 ·simp[execOp,ho,Instr.range,bY,h1,run_underlying hT,getObj,Sem.run,h3]
 have hρ:ρ'=((ρ.setO dst (.tup [.list [],.map ds])).setR dst .none):=by
  simp[PI.runs,PI.run,PE.ev,PE.evs,h4] at aj;exact aj.symm
 subst hρ;have ec:Below w.heap.size w (w.alloc (.mapIter (some m) clock #[] clock)):=(Below.refl _ _).alloc (aU _) _;have Mr:=jY.step (S':=(S.mv j dst).newO dst (.it kt et)) (ρ':=(ρ.setO dst (.tup [.list [],.map ds]))) (σ':=σ) (hv':=bT (bT hv dst (hv j)) dst (.pointer (some ⟨w.heap.size,0,none⟩)))
  (own':=fun k=>if k=w.heap.size then some dst else(if own k=some j then some dst else if own k=some dst then none else own k)) (a':=a) (A':=A) (w':=w.alloc (.mapIter (some m) clock #[] clock)) (fun i=>i=dst)
  rfl (.refl σ) (h.ok.below ec) (fun _ _ _ hx=>.inl hx) (fun _ _ hx=>.inl hx) (ec.mono h.below.size) ⟨fun i=>?_,fun i e=>?_⟩ (fun i hi=>⟨?_,?_,?_,fun k hk=>⟨?_,?_⟩⟩) (fun i hi=>?_) (fun k i hk=>?_) (fun _=>id) (fun t=>.inl ⟨rfl,rfl,rfl⟩) (fun _ _=>rfl) (fun k hk _=>ec.block k hk) (fun k i hk=>?_) (fun i hi=>by subst hi;simp[St.newO,aK])
 ·have jU:=Mr.setObj ht (j:=dst) (v:=.pointer (some ⟨w.heap.size,0,none⟩)) (aK _ _ _) af;have e:((S.mv j dst).newO dst (.it kt et)).ver dst=(S.mv j dst).ver dst+1:=aK _ _ _;rw[e] at jU;exact⟨_,_,_,jU⟩
 ·simp only[St.newO,eX];split<;>rename_i e
  ·subst e;omega
  ·omega
 ·simp only[St.newO,eX] at e;split at e
  ·rename_i e';subst e';omega
  ·rename_i LY;exact bp _ _ LY
 ·simp[St.newO,bp _ _ hi]
 ·simp[Env.setO,bp _ _ hi]
 ·exact bp _ _ hi
 ·have awQ:=(jY.owns k i hk).2.1;have bL:k≠w.heap.size:=by omega
  simp only[if_neg bL];exact hk
 ·exact ec.block k (jY.owns k i hk).2.1
 ·subst hi;simp only[St.newO,aK];have eA:m≠w.heap.size:=by omega
  refine⟨w.heap.size,m,arr,clock,ds,[],aK _ _ _,by simp,by simp[eA,h2],by omega,?_,heap_alloc_new w _,by simp[Env.setO,aK,fI],List.nodup_nil,by simp,h5,oC,h7⟩;rw[ec.block m oF];exact h3
 ·split at hk
  ·rename_i e;subst e;refine⟨h.below.size,by simp,fun o=>?_,?_⟩
   ·cases hc:σ.c w.heap.size o with
    |none=>rfl
    |some u=>have:=h.lt hc;omega
   ·cases hc:σ.m w.heap.size with
    |none=>rfl
    |some u=>have:=h.ltm hc;omega
  ·obtain⟨g1,g2,g3,g4⟩:=jY.owns k i hk;exact⟨g1,by simp;omega,g3,g4⟩
 ·split at hk
  ·rename_i e;subst e;exact .inr (aU _)
  ·exact .inl ⟨i,hk⟩
theorem aed (h:Inv C S ρ σ own hv w0 σ0 A a w)(hC:CtxOK C σ0)(ht:¬A dst)(af:dst<a.tmps.size){T U:TypeId}{x:Operand}{r:St×List PI}(hr:Az C S dst T U x=some r){o:Oper}(hd:o.dst=some dst)(ho:o.op=.convert T U x):bR C w0 σ0 Φ S ρ A a w o r:=by
 unfold Az at hr;split at hr
 case h_2=>cases hr
 rename_i e E hu hT hU;split at hr
 case h_2=>cases hr
 rename_i hE;cases hr;have hx:=bW h hC rfl hu;obtain⟨s,aQ,bh,hs⟩:=hx.str_inv;have rV:=Lib.run_convert_string_bytes (P:=C.P) w T U E s hT hU hE;refine bR.value hd fun ρ' aj=>⟨.slice (some ⟨w.heap.size,0,none⟩) s.size (grownCap w s.size 0 E),Lib.bytesWorld w E s,by simp[execOp,ho,aQ,rV],?_⟩
 simp only[PI.runs,PI.run,au] at aj;obtain⟨ρ1,g1,ρ2,g2,g3⟩:=aj;cases c1:((PE.ci BinOp.leq (.slen e) (.con (.int lH))).ev ρ).b<;>simp only[c1,cond_true,cond_false] at g1
 ·cases g1
 cases g1;cases g2;cases g3;have ah4:s.size≤4294967296:=by
  simp[PE.ev,bh,D.s,D.i,D.b,gq,D.int,lH] at c1;omega
 have ec:Below w.heap.size w (Lib.bytesWorld w E s):=⟨rfl,rfl,rfl,by rw[Lib.bytesWorld_size];omega,fun k hk=>Lib.bytesWorld_at_old w E s k hk⟩
 have aL:(Lib.bytesWorld w E s).heap.size=w.heap.size+1:=Lib.bytesWorld_size w E s
 let σ':Im:={c:=fun k i=>if k=w.heap.size then(if i<s.size then some (.int .u8 (s.data.toList.getD i 0).toNat) else none) else σ.c k i,m:=σ.m}
 have hle:σ.le σ':=by
  refine⟨fun k o v hc=>?_,fun k es hc=>hc⟩;have:k≠w.heap.size:=by have:=h.lt hc;omega
  simp[σ',this,hc]
 have ar:σ'.ok (Lib.bytesWorld w E s):=by
  refine⟨fun k i v hc=>?_,(h.ok.below ec).m⟩;simp only[σ'] at hc;split at hc
  ·rename_i ek;subst ek;split at hc
   ·rename_i hi;cases hc;exact Lib.bytesWorld_cell w E s i hi
   ·cases hc
  ·exact(h.ok.below ec).c k i v hc
 have h1:=h.step (S':=S) (ρ':=ρ) (σ':=σ') (own':=own) (hv':=hv) (A':=A) (a':=a) (w':=Lib.bytesWorld w E s) (fun _=>False) rfl hle ar (fun k i v hc=>?_) (fun k es hc=>.inl hc) (ec.mono h.below.size) ⟨fun _=>aU _,fun _ _=>rfl⟩
  (fun j _=>⟨rfl,rfl,rfl,fun k hk=>⟨hk,ec.block k (h.owns k j hk).2.1⟩⟩) (fun j hj=>hj.elim) (fun k j hk=>?_) (fun _=>id) (fun t=>.inl ⟨rfl,rfl,rfl⟩) (fun _ _=>rfl) (fun k hk _=>ec.block k hk) (fun k i hk=>.inl ⟨i,hk⟩) (fun _ hf=>hf.elim)
 ·refine⟨_,_,_,h1.setReg ht (s:=.dat (.slice (.int .u8))) ?_ af (fun _ _ e=>by cases e)⟩;show Rep C.cap σ' _ _ _;simp only[PE.ev,bh,D.s];refine .slice (.int .u8) w.heap.size 0 s.size _ _ (fun i=>.int .u8 (s.data.toList.getD i 0).toNat) (by simp) (grownCap_ge w s.size 0 E) (grownCap_le_maxLen w s.size 0 E (by unfold maxLen;omega)) (fun i x hx=>?_) (fun i j u hi hu=>?_)
  ·simp only[cf,ax] at hx;obtain⟨b,hb,rfl⟩:=hx;have:s.data.toList.getD i 0=b:=by simp[aI,hb]
   rw[this];have:=b.toNat_lt;exact .int .u8 _ (by show(0:Int)≤_;omega) (by show _≤(255:Int);omega)
  ·have hj:j=0:=by
        have:=(ei.1 hu).1;simp[Value.cells] at this;exact this
   subst hj;simp[Value.cells] at hu;subst hu;simp[σ',Ty.size,hi]
 ·simp only[σ'] at hc;split at hc
  ·rename_i ek;exact .inr ⟨by have:=h.below.size;omega,.inr (by omega)⟩
  ·exact .inl hc
 ·obtain⟨g1,g2,g3,g4⟩:=h.owns k j hk;refine⟨g1,by omega,fun i=>?_,g4⟩;have:k≠w.heap.size:=by omega
  simp[σ',this,g3 i]
end
end Cx
namespace Cx
open Go Go.RowKit
def FB (C:Ctx)(S:St)(gs:List (Nat×Bool))(e:Ty)(z:D)(parts:List (Nat×Operand))(i:Nat):Option PE:=
 match parts.find? (fun p=>Nat.beq p.1 i) with
 |some p=>(use C S gs p.2).bind fun a=>bif Ty.sub a.1 e then some a.2 else Option.none
 |Option.none=>some (PE.con z)
def tS (C:Ctx)(S:St)(gs:List (Nat×Bool))(dst:Nat)(T:TypeId)(len:Nat)(parts:List (Nat×Operand)):jO:=
 match C.P.underlying T with
 |some (.slice E)=>
  (mE C.P E).bind fun e=>(mG e).bind fun z=>
    bif ot C.P E e&&Ty.sub z.1 e&&iI (parts.map (·.1))&&parts.all (fun p=>Nat.blt p.1 len)&&Nat.ble (len*e.size) 16777216 then
     ((List.range len).mapM (FB C S gs e z.2 parts)).map fun es=>(mkObj S dst (.row E e),[.setO dst (.lst es),.setR dst (.con .none)])
    else Option.none
 |_=>Option.none
def xA (C:Ctx)(S:St)(gs:List (Nat×Bool))(dst:Nat)(T:TypeId)(len:Nat)(parts:List (Nat×Operand)):jO:=
 match C.P.underlying T,tS C S gs dst T len parts with
 |some (.slice E),some r=>
  (mE C.P E).bind fun e=>
    match r.2 with
    |.setO _ x::_=>some ((S.newO dst .dead).setR dst (match gs with|[]=>.dat (.slice e.rol)|_=>.opt gs (.dat (.slice e.rol))),[.setR dst x])
    |_=>Option.none
 |_,_=>Option.none
def AI (C:Ctx)(S:St)(T:TypeId)(x v:Operand):jO:=
 match C.P.info? T with
 |some inf=>
  match gD S [] x with
  |.ptr j ver off=>
   bif Nat.beq ver (S.ver j) then
    match S.o j with
    |.box ag shs=>
     match use C S [] v with
     |some (t,e)=>
      bif Nat.beq inf.size t.size&&(t.rowT||t.one)&&Nat.ble (off+t.size) shs.length then
             some (S.setO j (.box ag (shs.take off++t.flat.map .dat++shs.drop (off+t.size))),[.setO j (.setc (.o j) off e)])
      else Option.none
     |Option.none=>
      match gD S [] v with
      |.obj j' mF=>
       bif Nat.beq mF (S.ver j')&&kD (S.o j')&&Nat.beq inf.size 1&&Nat.blt off shs.length then
              some (S.setO j (.box ag (shs.set off (.obj j' mF))),[.setO j (.setc (.o j) off (.con .none))])
       else Option.none
      |_=>Option.none
    |_=>Option.none
   else Option.none
  |.eptr j ver size off=>
   bif Nat.beq ver (S.ver j) then
    match S.o j,use C S [] v with
    |.row _ (.agg ts),some (t,e)=>
     bif Nat.beq inf.size t.size&&(t.rowT||t.one)&&Nat.beq size ts.length&&Nat.ble (off+t.size) ts.length&&Ty.subs t.flat ((ts.drop off).take t.size) then
         some (S,[.setO j (.setn (.o j) (sM x) off e)])
     else Option.none
    |.row _ e0,some (t,e)=>
     bif Nat.beq inf.size 1&&Nat.beq size 1&&Nat.beq off 0&&e0.one&&Ty.sub t e0 then some (S,[.setO j (.setn (.o j) (sM x) 0 e)]) else Option.none
    |_,_=>Option.none
   else Option.none
  |_=>Option.none
 |Option.none=>Option.none
def xB (C:Ctx)(S:St)(T:TypeId)(m k v:Operand):jO:=
 match C.P.underlying T,gD S [] m with
 |some (.map K _),.obj j ver=>
  bif Nat.beq ver (S.ver j) then
   match S.o j,use C S [] k,use C S [] v with
   |.mp kt et,some (tk,ek),some (tv,ev)=>
    bif Ty.beq tk kt&&sl C.P K kt&&Ty.sub tv et then some (S,[.chk (.ci .lss (.mlen (.o j)) (.con (.int lH))),.setO j (.put (.o j) ek ev)]) else Option.none
   |_,_,_=>Option.none
  else Option.none
 |_,_=>Option.none
def G0 (x y:PE):PE:=.ci .leq (.llen (.app x y)) (.con (.int lH))
def IX:Ty→Ty→Bool
 |.slice e',e=>Ty.beq e'.unf e
 |.nils _,_=>true
 |_,_=>false
def Ax (C:Ctx)(S:St)(dst:Nat)(T:TypeId)(s x:Operand):jO:=
 match C.P.underlying T with
 |some (.slice E)=>
  (mE C.P E).bind fun e=>
    match view C S [] x with
    |some (tx,ex)=>
     bif ot C.P E e&&IX tx e then
        match use C S [] s with
        |some (.nils _,_)=>some (mkObj S dst (.row E e),[.chk (G0 (.con (.list [])) ex),.setO dst (.app (.con (.list [])) ex),.setR dst (.con .none)])
        |some _=>Option.none
        |Option.none=>
         match gD S [] s with
         |.obj j ver=>
          bif Nat.beq ver (S.ver j) then
             match S.o j with
             |.row E' e'=>
              bif Nat.beq E' E&&Ty.beq e' e then
                some ((S.newO j (.row E e)).setR dst (.obj j (S.ver j+1)),[.chk (G0 (.o j) ex),.setO j (.app (.o j) ex),.setR dst (.con .none)])
              else Option.none
             |_=>Option.none
          else Option.none
         |_=>Option.none
     else Option.none
    |Option.none=>Option.none
 |_=>Option.none
theorem KO {P:Program}{T:TypeId}{e:Ty}(h:ot P T e=true):∃inf z,P.info? T=some inf∧inf.size=e.size∧inf.bytes≤uS∧1≤e.size∧inf.zero=some z∧gX e z=true:=by
 unfold ot at h;split at h
 ·rename_i i hi;simp only[aq] at h;have h4:=h.2;unfold q9 at h4;split at h4
  ·rename_i z hz;exact⟨i,z,hi,aw h.1.1.1,jQ h.1.1.2,jQ h.1.2,hz,h4⟩
  ·cases h4
 ·cases h
theorem Sy {e:Ty}{z:Value}(h:gX e z=true):z.cells.size=e.size:=by
 cases e with
 |agg ts=>
  cases z with
  |agg vs=>simp only[gX] at h;have:=(Sz ts vs.toList h).1;simpa [Value.cells,Ty.size] using this
  |_=>simp[gX] at h
 |_=>cases z<;>simp_all [gX,vT,Value.cells,Ty.size]
theorem ado {ρ:Env}{x y:PE}(h:((PE.ci .lss x y).ev ρ).b=true):(x.ev ρ).i<(y.ev ρ).i:=by
 simpa [PE.ev,D.b_bool,gq] using h
theorem TU {ρ:Env}{x y:PE}(h:((PE.ci .leq x y).ev ρ).b=true):(x.ev ρ).i≤(y.ev ρ).i:=by
 simpa [PE.ev,D.b_bool,gq] using h
theorem ajZ {n:Nat}(h:(n:Int)<lH):n<4294967296:=by unfold lH at h;omega
theorem WM {n:Nat}(h:(n:Int)≤lH):n≤4294967296:=by unfold lH at h;omega
theorem St.setO_self {S:St}{j:Nat}{ob:Ob}(h:S.o j=ob):S.setO j ob=S:=by
 have:bT S.o j ob=S.o:=by
  funext i;rw[eX];split
  ·rename_i e;subst e;exact h.symm
  ·rfl
 cases S;simp only[St.setO] at this ⊢;rw[this]
section
variable {C:Ctx} {S:St} {ρ:Env} {σ:Im} {own:Nat→Option Nat} {hv:Nat→Value} {w0:World} {σ0:Base} {A:Nat→Prop} {a:Act} {w:World} {gs:List (Nat×Bool)} {Φ:aJ} {dst:Nat}
theorem Inv.updO (h:Inv C S ρ σ own hv w0 σ0 A a w)(j:Nat)(ob:Ob)(d:D)(v:Value)(nb:Nat→Bool){w':World}(hw:Below w0.heap.size w w')
 (qq:∀k,k<w.heap.size→own k≠some j→w'.heap[k]?=w.heap[k]?) (dI:∀k,nb k=true→(own k=some j∨w.heap.size≤k)∧k<w'.heap.size)
 (cI:bU C (S.newO j ob) (ρ.setO j d) σ (eT own j nb) (bT hv j v) w' w0.heap.size j ob) (lu:ob≠.tr:=by intro h;cases h):Inv C (S.newO j ob) (ρ.setO j d) σ (eT own j nb) (bT hv j v) w0 σ0 A a w':=by
 have aL:w0.heap.size≤w.heap.size:=h.below.size;have bt:∀k i,i≠j→own k=some i→eT own j nb k=some i:=by
  intro k i hi hk;have h1:=h.owns k i hk;have h2:nb k=false:=by
   cases hn:nb k with
   |false=>rfl
   |true=>
    rcases(dI k hn).1 with e|e
    ·rw[hk] at e;simp at e;exact absurd e hi
    ·omega
  simp[eT,h2,hk,hi]
 have ar:σ.ok w':=by
  refine⟨fun k o u hc=>?_,fun k es hc=>?_⟩
  ·have az:own k≠some j:=fun e=>by rw[(h.owns k j e).2.2.1 o] at hc;cases hc
   rw[World.cell?_of_block (qq k (h.lt hc) az)];exact h.ok.c k o u hc
  ·have az:own k≠some j:=fun e=>by rw[(h.owns k j e).2.2.2] at hc;cases hc
   exact(h.ok.m k es hc).keep (qq k (h.ltm hc) az)
 refine h.step (fun i=>i=j) rfl (.refl σ) ar (fun _ _ _ hx=>.inl hx) (fun _ _ hx=>.inl hx) hw ⟨fun i=>?_,fun i e=>?_⟩ (fun i hi=>⟨?_,?_,?_,fun k hk=>⟨bt k i hi hk,?_⟩⟩) (fun i hi=>?_) (fun k i hk=>?_) (fun _=>id) (fun t=>.inl ⟨rfl,rfl,rfl⟩) (fun _ _=>rfl) (fun k hk e=>qq k hk (by rw[e];simp)) (fun k i hk=>by
  unfold eT at hk;split at hk
  ·rename_i hn;rcases(dI k hn).1 with e|e
   ·exact .inl ⟨j,e⟩
   ·exact .inr e
  ·split at hk
   ·cases hk
   ·exact .inl ⟨i,hk⟩) (fun i hi=>by subst hi;simpa only[St.newO,aK] using lu)
 ·simp only[St.newO,eX];split<;>rename_i e
  ·subst e;omega
  ·omega
 ·simp only[St.newO,eX] at e;split at e
  ·rename_i e';subst e';omega
  ·rename_i az;exact bp _ _ az
 ·simp[St.newO,bp _ _ hi]
 ·simp[Env.setO,bp _ _ hi]
 ·exact bp _ _ hi
 ·exact qq k (h.owns k i hk).2.1 (by rw[hk];simpa using hi)
 ·subst hi;simp only[St.newO,aK];exact cI
 ·unfold eT at hk;split at hk
  ·rename_i hn;obtain⟨g1,g2⟩:=dI k hn;rcases g1 with e|e
   ·obtain⟨f1,f2,f3,f4⟩:=h.owns k j e;exact⟨f1,g2,f3,f4⟩
   ·refine⟨by omega,g2,fun o=>?_,?_⟩
    ·cases hc:σ.c k o with
     |none=>rfl
     |some u=>have:=h.lt hc;omega
    ·cases hc:σ.m k with
     |none=>rfl
     |some u=>have:=h.ltm hc;omega
  ·split at hk
   ·cases hk
   ·obtain⟨g1,g2,g3,g4⟩:=h.owns k i hk;exact⟨g1,by have:=hw.size;omega,g3,g4⟩
theorem Inv.updB (h:Inv C S ρ σ own hv w0 σ0 A a w)(j:Nat)(ob:Ob)(d:D){w':World}(hw:Below w0.heap.size w w')
 (qq:∀k,k<w.heap.size→own k≠some j→w'.heap[k]?=w.heap[k]?)
 (cI:bU C (S.setO j ob) (ρ.setO j d) σ own hv w' w0.heap.size j ob) (lu:ob≠.tr:=by intro h;cases h):Inv C (S.setO j ob) (ρ.setO j d) σ own hv w0 σ0 A a w':=by
 have ar:σ.ok w':=by
  refine⟨fun k o u hc=>?_,fun k es hc=>?_⟩
  ·have az:own k≠some j:=fun e=>by rw[(h.owns k j e).2.2.1 o] at hc;cases hc
   rw[World.cell?_of_block (qq k (h.lt hc) az)];exact h.ok.c k o u hc
  ·have az:own k≠some j:=fun e=>by rw[(h.owns k j e).2.2.2] at hc;cases hc
   exact(h.ok.m k es hc).keep (qq k (h.ltm hc) az)
 refine h.step (fun i=>i=j) rfl (.refl σ) ar (fun _ _ _ hx=>.inl hx) (fun _ _ hx=>.inl hx) hw (Compat.setO _ _ _ _) (fun i hi=>⟨by simp[St.setO,bp _ _ hi],by simp[Env.setO,bp _ _ hi],rfl,fun k hk=>⟨hk,qq k (h.owns k i hk).2.1 (by rw[hk];simpa using hi)⟩⟩) (fun i hi=>?_) (fun k i hk=>?_) (fun _=>id) (fun t=>.inl ⟨rfl,rfl,rfl⟩) (fun _ _=>rfl) (fun k hk e=>qq k hk (by rw[e];simp)) (fun k i hk=>.inl ⟨i,hk⟩) (fun i hi=>by subst hi;rw[St.setO_o];exact lu)
 ·subst hi;rw[St.setO_o];exact cI
 ·obtain⟨g1,g2,g3,g4⟩:=h.owns k i hk;exact⟨g1,by have:=hw.size;omega,g3,g4⟩
theorem UL {B:Nat}{w w':World}{row:Option Nat}(hg:w.grownBy w' row)(hB:B≤w.heap.size)(hr:∀k,row=some k→B≤k):Below B w w':=(Below.refl B w).grown hg hB hr
theorem W9 {z:Array Value}{n i q:Nat}(hz:0<z.size)(hi:i<n)(hq:q<z.size):(madeCells z (n*z.size))[i*z.size+q]?=z[q]?:=by
 have af:i*z.size+q<n*z.size:=by
  have:(i+1)*z.size≤n*z.size:=mP _ hi;rw[mN] at this;omega
 have hm:(i*z.size+q)%z.size=q:=by rw[zH,abN,S6 hq]
 simp[madeCells,Array.getElem?_range,af,hm,hq]
theorem aer (h:Inv C S ρ σ own hv w0 σ0 A a w)(hC:CtxOK C σ0)(ht:¬A dst)(af:dst<a.tmps.size){T:TypeId}{l c:Operand}{r:St×List PI}(hr:AE C S dst T l c=some r){o:Oper}(hd:o.dst=some dst)(ho:o.op=.makeSlice T l c):bR C w0 σ0 Φ S ρ A a w o r:=by
 unfold AE at hr;split at hr
 case h_2=>cases hr
 rename_i E k1 n k2 m hT hl hc;simp only[au] at hr;obtain⟨e,he,hr⟩:=hr;cases hf:ot C.P E e<;>simp only[hf,cond_true,cond_false] at hr
 ·cases hr
 obtain⟨inf,z0,hi,hs,hb,h1,hz,kC⟩:=KO hf;simp only[au] at hr;obtain⟨z,hzt,hr⟩:=hr;cases cj:Ty.sub z.1 e<;>simp only[cj,cond_true,cond_false] at hr
 ·cases hr
 cases hr;obtain⟨n1,aQ,bh,b1,b2⟩:=(bW h hC rfl hl).int_inv;obtain⟨n2,gh,dG,b3,b4⟩:=(bW h hC rfl hc).int_inv;simp only at bh dG;have B6:=((vU (cap:=C.cap) (σ:=σ) hzt kC).1).sub cj;refine bR.value hd fun ρ' aj=>?_;simp only[PI.runs,PI.run,au] at aj;obtain⟨ρ1,g1,ρ2,g2,aj⟩:=aj;cases c1:((Na n).ev ρ).b<;>simp only[c1,cond_true,cond_false] at g1
 ·cases g1
 cases g1;cases c2:((PE.ci BinOp.eql n m).ev ρ).b<;>simp only[c2,cond_true,cond_false] at g2
 ·cases g2
 cases g2;have aii:n1=n2:=by simpa [PE.ev,bh,dG,D.i_int,D.b_bool,gq] using c2
 subst aii;have hb:0≤n1∧n1≤lH:=by simpa [Na,PE.ev,bh,D.i_int,D.b_bool,gq,D.int] using c1
 obtain⟨nn,rfl⟩:=mL hb.1;have BD:nn≤4294967296:=by have:=hb.2;unfold lH at this;omega
 have qD:z0.cells.size=e.size:=Sy kC;obtain⟨w',r1,r2,r3⟩:=run_make_full (P:=C.P) w w0.heap.size T E inf z0 e.size hT hi hz hs k1 k2 nn (by
  have:inf.bytes*nn≤uS*4294967296:=Nat.mul_le_mul (by assumption) BD;unfold uS at this;omega) (by unfold maxLen;omega) h.below.size
 refine⟨.slice (some ⟨w.heap.size,0,none⟩) nn nn,w',by simp[execOp,ho,aQ,gh,r1],?_⟩;obtain⟨ρ3,g3,ρ4,g4,g5⟩:=aj;cases g3;cases g4;cases g5;simp only[PE.ev,bh,D.i_int,tl];have hlen:(List.replicate nn z.2).length=nn:=by simp
 refine h.mkObj ht af (.row E e) _ _ (fun k=>Nat.beq k w.heap.size) (UL r3 (aU _) (by simp)) (fun k hk=>?_) ⟨_,List.replicate nn z.2,by simp[Env.setO,aK],by rw[aK,hlen];exact r2,⟨fun _=>z0,fun i x hx=>?_,fun i j u hi hj=>?_⟩,fun k hk=>?_⟩
 ·have bL:k=w.heap.size:=aw hk;have:=(r2.lt _ rfl).2;subst bL;exact⟨aU _,this⟩
 ·have:=(dX.1 hx)
  obtain⟨q1,q2⟩:=this;simp at q2;subst q2;exact B6
 ·rw[hlen] at hi;have cC:j<z0.cells.size:=(ei.1 hj).1;rw[zy,←qD];rw[W9 (by omega) hi cC];exact hj
 ·rw[aK] at hk;simp[Value.ownBlock] at hk;simp[eT,hk]
theorem kT.push {arr:Array MapEntry}{clock:Nat}(h:kT arr clock)(k v:Value):kT (arr.push {key:=k,val:=v,born:=clock}) (clock+1):=by
 have key:∀(i:Nat) (e:MapEntry),(arr.push {key:=k,val:=v,born:=clock})[i]?=some e→(arr[i]?=some e∧e.born<clock)∨(i=arr.size∧e.born=clock):=by
  intro i e he;rw[Array.getElem?_push] at he;split at he
  ·rename_i hi;cases he;exact .inr ⟨hi,rfl⟩
  ·exact .inl ⟨he,h.1 i e he⟩
 refine⟨fun i e he=>?_,fun i j e f he hf hb=>?_⟩
 ·rcases key i e he with⟨_,h1⟩|⟨_,h1⟩<;>omega
 ·rcases key i e he with⟨h1,h2⟩|⟨h1,h2⟩<;>rcases key j f hf with⟨h3,h4⟩|⟨h3,h4⟩
  ·exact h.2 i j e f h1 h3 hb
  ·omega
  ·omega
  ·omega
theorem kT.modify {arr:Array MapEntry}{clock:Nat}(h:kT arr clock)(i0:Nat)(k v:Value):kT (arr.modify i0 fun e=>{e with key:=k,val:=v}) clock:=by
 have key:∀(i:Nat) (e:MapEntry),(arr.modify i0 fun e=>{e with key:=k,val:=v})[i]?=some e→∃e',arr[i]?=some e'∧e'.born=e.born:=by
  intro i e he;rw[Array.getElem?_modify] at he;split at he
  ·simp only[ax] at he;obtain⟨e',h1,rfl⟩:=he;exact⟨e',h1,rfl⟩
  ·exact⟨e,he,rfl⟩
 refine⟨fun i e he=>?_,fun i j e f he hf hb=>?_⟩
 ·obtain⟨e',h1,h2⟩:=key i e he;rw[←h2];exact h.1 i e' h1
 ·obtain⟨e',h1,h2⟩:=key i e he;obtain⟨f',h3,h4⟩:=key j f hf;exact h.2 i j e' f' h1 h3 (by rw[h2,h4,hb])
theorem Ue (h:Inv C S ρ σ own hv w0 σ0 A a w)(hC:CtxOK C σ0){T:TypeId}{m k v:Operand}{r:St×List PI}(hr:xB C S T m k v=some r){o:Oper}(hd:o.dst=none)(ho:o.op=.mapUpdate T m k v∨o.op=.insert T m k v):bR C w0 σ0 Φ S ρ A a w o r:=by
 unfold xB at hr;split at hr
 case h_2=>cases hr
 rename_i K E j ver hT es;obtain⟨dQ,_⟩:=sS h (gs:=[]) rfl m;rw[es] at dQ;cases hb:Nat.beq ver (S.ver j)<;>simp only[hb,cond_true,cond_false] at hr
 ·cases hr
 have bY:=dQ.2 (aw hb);have aW:=h.objs j;split at hr
 case h_2=>cases hr
 rename_i kt et tk ek tv ev eo hk uJ;rw[eo] at aW;cases hc:(Ty.beq tk kt&&sl C.P K kt&&Ty.sub tv et)<;>simp only[hc,cond_true,cond_false] at hr
 ·cases hr
 cases hr;simp only[aq] at hc;obtain⟨⟨Gw,Bu⟩,cj⟩:=hc;obtain⟨g,arr,clock,ds,h1,h2,h3,h4,h5,⟨h6,oC⟩,h7⟩:=aW;have bL:=bW h hC rfl hk;rw[Ty.beq_eq _ _ Gw] at bL;have hv':=(bW h hC rfl uJ).sub cj;refine bR.skip hd fun ρ' aj=>?_;simp only[PI.runs,PI.run,au] at aj;obtain⟨ρ1,g1,ρ2,g2,g3⟩:=aj;cases c1:((PE.ci BinOp.lss (.mlen (.o j)) (.con (.int lH))).ev ρ).b<;>simp only[c1,cond_true,cond_false] at g1
 ·cases g1
 cases g1;cases g2;cases g3;have ah4:ds.length<4294967296:=by
  have h8:=ado c1;simp only[PE.ev,h4,D.m,D.i_int,D.int] at h8;exact ajZ h8
 have ni:(Instr.checkKey false 10000 K (a.eval k)).run C.P w=.ok () w:=TS (cap:=C.cap) (σ:=σ) Bu bL;have j4:∃rq xt ds',(Instr.mapUpdate T (a.eval m) (a.eval k) (a.eval v)).run C.P w=.ok () {w with heap:=w.heap.setIfInBounds g (.map rq xt)}∧ef (ek.ev ρ) (ev.ev ρ) ds=ds'∧ds'.length=rq.size∧(ds'.length≤maxLen∧kT rq xt)∧
  ∀(i:Nat) (e:MapEntry) (p:D×D),rq[i]?=some e→ds'[i]?=some p→Rep C.cap σ kt e.key p.1∧Rep C.cap σ et e.val p.2:=by
  rcases run_findKey Bu bL arr ds h5 h7 w with⟨f1,f2,f3⟩|⟨i,e,p,f1,f2,f3,f4,f5,f6⟩
  ·refine⟨arr.push {key:=a.eval k,val:=a.eval v,born:=clock},clock+1,ds++[(ek.ev ρ,ev.ev ρ)],?_,f3 _,by simp[h5],⟨by simp;unfold maxLen;omega,oC.push _ _⟩,fun q e p he hp=>?_⟩
   ·rw[bY,h1];simp[Instr.mapUpdate,run_underlying hT,getObj,Sem.run,h3,ni,f1,setObj]
   ·rw[Array.getElem?_push] at he;rw[kh] at hp;by_cases hq:q=arr.size
    ·subst hq;simp at he;rw[if_neg (by omega)] at hp;simp[h5] at hp;subst he;subst hp;exact⟨bL,hv'⟩
    ·rw[if_neg hq] at he;have GL:q<arr.size:=(ei.1 he).1;rw[if_pos (by omega)] at hp;exact h7 q e p he hp
  ·refine⟨arr.modify i fun e=>{e with key:=a.eval k,val:=a.eval v},clock,ds.set i (ek.ev ρ,ev.ev ρ),?_,f5 _,by simp[h5],⟨by simp;exact h6,oC.modify _ _ _⟩,fun q e' p' he hp=>?_⟩
   ·rw[bY,h1];have cQ:(Instr.keyThatStays e.key (a.eval k)).run C.P w=.ok (a.eval k) w:=by simp[Instr.keyThatStays,f6]
    simp[Instr.mapUpdate,run_underlying hT,getObj,Sem.run,h3,ni,f3,f1,cQ,setObj]
   ·rw[Array.getElem?_modify] at he;rw[zF] at hp;by_cases hq:i=q
    ·subst hq;simp only[if_true] at he hp;rw[f1] at he;simp at he;split at hp
     ·cases hp;subst he;exact⟨bL,hv'⟩
     ·cases hp
    ·rw[if_neg hq] at he hp;exact h7 q e' p' he hp
 obtain⟨rq,xt,ds',r1,r2,r3,r4,r5⟩:=j4;refine⟨{w with heap:=w.heap.setIfInBounds g (.map rq xt)},by rcases ho with ho|ho<;>simp[execOp,ho,r1],?_⟩;have rN:g<w.heap.size:=(ei.1 h3).1;have hgB:w0.heap.size≤g:=(h.owns g j h2).1;have bK:(PE.put (.o j) ek ev).ev ρ=.map ds':=by simp only[PE.ev,h4,D.m,r2]
 rw[bK]
 have:=h.updB j (.mp kt et) (.map ds') (w':={w with heap:=w.heap.setIfInBounds g (.map rq xt)}) ⟨rfl,rfl,rfl,by simp,fun k hk=>by simp;rw[SB (by omega)]⟩
  (fun k hk az=>by simp;rw[SB (fun e=>az (by rw[←e];exact h2))])
  ⟨g,rq,xt,ds',h1,h2,by simp[rN],by simp[Env.setO,aK],r3,r4,r5⟩
 have eS:S.setO j (.mp kt et)=S:=St.setO_self eo;rw[eS] at this;exact⟨_,_,_,this⟩
end
end Cx
namespace Cx
open Go Go.RowKit
theorem arU {e:Ty}{z:Value}(h:gX e z=true):e.rowT=true∨e.one=true:=by
 cases e<;>first|exact .inl rfl|exact .inr rfl|(cases z<;>simp[gX,vT] at h)
theorem Rep.cellsOne {cap:Nat→Option CSig}{σ:Im}{t:Ty}{v:Value}{d:D}(h:Rep cap σ t v d)(ht:t.rowT=true∨t.one=true){m:Nat}{u:Value}(hu:v.cells[m]?=some u):u.oneCell'=true:=by
 obtain⟨f1,f2,f3⟩:=h.flat ht;have af:m<v.cells.size:=(ei.1 hu).1;rw[h.size] at af;obtain⟨g1,g2⟩:=f3 m _ (aZ (by omega:m<t.flat.length));have:=(g2.oneCell g1).2;rw[eY,hu] at this;exact this
theorem aeN {cap:Nat→Option CSig}{σ:Im}{e:Ty}{cells:List Value}{xs:List D}(h:dL cap σ e cells xs)(hl:cells.length=xs.length*e.size)(gg:e.rowT=true∨e.one=true):∀u∈cells,u.oneCell'=true:=by
 obtain⟨vs,h1,h2⟩:=h;intro u hu;obtain⟨p,hp,rfl⟩:=eZ hu;rw[hl] at hp;have hs:0<e.size:=Nat.pos_of_ne_zero fun e0=>by rw[e0] at hp;simp at hp
 have hi:p/e.size<xs.length:=(Nat.div_lt_iff_lt_mul hs).2 hp;have hq:p%e.size<e.size:=Nat.mod_lt _ hs;have bF:=h1 _ _ (aZ hi);have aL:=bF.size;have ng:(vs (p/e.size)).cells[p%e.size]?=some (vs (p/e.size)).cells[p%e.size]:=iM (by omega);have:=h2 _ _ _ hi ng;rw[Nat.mul_comm,Nat.div_add_mod] at this;have h3:cells[p]=(vs (p/e.size)).cells[p%e.size]:=by
  have h4:=aZ (show p<cells.length by omega);rw[h4] at this;exact zI this
 rw[h3];exact bF.cellsOne gg ng
theorem aeM {cap:Nat→Option CSig}{σ:Im}{e:Ty}{c1 c2:List Value}{xs ys:List D}(h:dL cap σ e c1 xs)(k:dL cap σ e c2 ys)(hl:c1.length=xs.length*e.size):dL cap σ e (c1++c2) (xs++ys):=by
 obtain⟨vs,h1,h2⟩:=h;obtain⟨us,k1,k2⟩:=k;refine⟨fun i=>if i<xs.length then vs i else us (i-xs.length),fun i x hx=>?_,fun i j u hi hj=>?_⟩
 ·rw[kh] at hx;split at hx
  ·rename_i af;simp only[af,if_true];exact h1 i x hx
  ·rename_i af;simp only[af,if_false];exact k1 _ x hx
 ·by_cases af:i<xs.length
  ·simp only[af,if_true] at hj;have:=h2 i j u af hj;rw[lS (dX.1 this).1];exact this
  ·simp only[af,if_false] at hj;have dH:i-xs.length<ys.length:=by simp at hi;omega
   have:=k2 _ j u dH hj;have e1:i*e.size=c1.length+(i-xs.length)*e.size:=by rw[hl,←mN];congr 1;omega
   rw[lT (by omega)];rw[show i*e.size+j-c1.length=(i-xs.length)*e.size+j by omega];exact this
section
variable {C:Ctx} {S:St} {ρ:Env} {σ:Im} {own:Nat→Option Nat} {hv:Nat→Value} {w0:World} {σ0:Base} {A:Nat→Prop} {a:Act} {w:World} {gs:List (Nat×Bool)} {Φ:aJ} {dst:Nat}
theorem arJ (h:Inv C S ρ σ own hv w0 σ0 A a w){B:Nat}{e f:Ty}{v:Value}{d:D}(hs:0<e.size)(gg:e.rowT=true∨e.one=true)(hf:f.unf=e)(MB:JE C σ w B (.slice f) v d):
 ∃ys,d=.list ys∧ys.length≤maxLen∧((v=.slice none 0 0∧ys=[])∨∃(ad:Addr) (c:Nat) (news:List Value),v=.slice (some ad) ys.length c∧news.length=ys.length*e.size∧
  (∀j u,news[j]?=some u→w.cell? (ad.add j)=some u)∧dL C.cap σ e news ys):=by
 rcases MB with hr|⟨T,e',cells,xs,ht,hd,bt,fe⟩|⟨k,arr,clock,es,kt,et,ht,_⟩
 ·obtain⟨xs,hd,rJ⟩:=hr.slice_inv;rw[←f.unf_size,hf] at rJ;rcases rJ with⟨⟨p0,aQ⟩,rfl⟩|⟨k,o,c,aQ,h1,h2,vs,h3,h4⟩
  ·cases p0 with
   |none=>exact⟨[],hd,by simp,.inl ⟨aQ,rfl⟩⟩
   |some a0=>exact⟨[],hd,by simp,.inr ⟨a0,0,[],aQ,by simp,fun j u hu=>by simp at hu,fun _=>undef,fun i x hx=>by simp at hx,fun i j u hi=>by simp at hi⟩⟩
  ·refine⟨xs,hd,by omega,.inr ⟨⟨k,o,none⟩,c,(List.range (xs.length*e.size)).map fun p=>(vs (p/e.size)).cells.getD (p%e.size) undef,aQ,by simp,fun j u hu=>?_,vs,h3,fun i j u hi hj=>?_⟩⟩
   ·simp only[cf,ax] at hu;obtain⟨p,hp,rfl⟩:=hu;have fC:j<xs.length*e.size:=by have:=(dX.1 hp).1;simpa using this
    rw[nU fC] at hp;cases hp;have hi:j/e.size<xs.length:=(Nat.div_lt_iff_lt_mul hs).2 fC;have hq:j%e.size<e.size:=Nat.mod_lt _ hs;have bF:=h3 _ _ (aZ hi);have aL:=bF.size;have ng:(vs (j/e.size)).cells[j%e.size]?=some ((vs (j/e.size)).cells.getD (j%e.size) undef):=by
     rw[eY,iM (by omega)];rfl
    have:=h.cell (h4 _ _ _ hi ng);rw[rp]
    rwa [show o+j/e.size*e.size+j%e.size=o+j by rw[tp,Nat.mul_comm,Nat.div_add_mod]] at this
   ·have bF:=h3 _ _ (aZ hi);have cC:j<e.size:=by rw[←bF.size];exact(ei.1 hj).1
    have af:i*e.size+j<xs.length*e.size:=by
     have:(i+1)*e.size≤xs.length*e.size:=mP _ hi;rw[mN] at this;omega
    have e1:(i*e.size+j)/e.size=i:=by rw[Nat.mul_comm,Nat.mul_add_div hs,Nat.div_eq_of_lt cC];omega
    have e2:(i*e.size+j)%e.size=j:=by rw[zH,abN,S6 cC]
    simp only[cf,nU af,jq,e1,e2];rw[eY,hj];rfl
 ·cases ht;rw[Ty.unf_rol] at hf;obtain⟨b,c,aQ,hm,_⟩:=vh bt;have fe:dL C.cap σ e cells xs:=by
   obtain⟨us,u1,u2⟩:=fe;refine⟨us,fun i x hx=>hf▸(u1 i x hx).unf,fun i j u hi hu=>?_⟩;rw[←hf,Ty.unf_size];exact u2 i j u hi hu
  have bt:w.ownsRow B T e.size v xs.length cells:=by rw[←hf,Ty.unf_size];exact bt
  rcases bt.2 with⟨e1,e2⟩|⟨g,cap,cur,e1,e2⟩
  ·have:xs=[]:=SO e2;subst this;exact⟨[],hd,by simp,.inl ⟨e1,rfl⟩⟩
  ·exact⟨xs,hd,hm,.inr ⟨⟨g,0,none⟩,cap,cells,e1,bt.1,bt.cells (by rw[e1];rfl),fe⟩⟩
 ·cases ht
theorem aoB {P:Program}{B:Nat}{T E ty:TypeId}{inf:TypeInfo}{z:Value}{size:Nat}{v x:Value}{n m:Nat}{xs news:List Value}(hT:P.underlying T=some (.slice E))(hi:P.info? E=some inf)(hz:inf.zero=some z)
 (hs:inf.size=size) (qD:z.cells.size=size) (aL:0<size) (nf:inf.bytes≤uS) (bt:w.ownsRow B E size v n xs) (hB:B≤w.heap.size) (cP:n+m≤4294967296)
 (hx:(x=.slice none 0 0∧m=0∧news=[])∨∃(ad:Addr) (c:Nat),x=.slice (some ad) m c∧news.length=m*size∧(∀j u,news[j]?=some u→w.cell? (ad.add j)=some u)∧∀u∈news,u.oneCell'=true):
 ∃v' w',(Builtin.append_ #[T,T] ty #[v,x]).run P w=.ok v' w'∧w'.ownsRow B E size v' (n+m) (xs++news)∧w.grownBy w' v.ownBlock∧∀k,v'.ownBlock=some k→v.ownBlock=some k∨(w.heap.size≤k∧k<w'.heap.size):=by
 rcases hx with⟨rfl,rfl,rfl⟩|⟨ad,c,rfl,hl,GD,h1⟩
 ·refine⟨v,w,run_append_owned_none w B T ty E inf size hT hi v n xs bt,by simpa using bt,⟨rfl,rfl,rfl,aU _,fun _ _ _=>rfl⟩,fun k hk=>.inl hk⟩
 ·have Lt:(n+m)*inf.bytes≤140737488355328:=by
   have:(n+m)*inf.bytes≤4294967296*uS:=Nat.mul_le_mul cP nf;unfold uS at this;omega
  obtain⟨v',w',r1,r2,r3,r4⟩:=run_append_own (P:=P) w B T ty E inf z size inf.bytes hT hi hz hs rfl qD aL v n xs bt ad m c news hl GD h1 (by unfold maxLen;omega) Lt hB;refine⟨v',w',r1,r2,r3,fun k hk=>?_⟩;have af:=(r2.lt k hk).2;subst hs;rcases bt.2 with⟨rfl,rfl⟩|⟨g,cap,cur,rfl,hbg,hg,dv,lg,cY,BW⟩
  ·by_cases hm:m=0
   ·subst hm;have:=r4.2 ⟨rfl,rfl⟩;subst this;simp[Value.ownBlock] at hk
   ·have hr:=run_append_nil (P:=P) w T ty E inf z hT hi hz ad m c news hl GD (by omega) (by omega) (by have hb:=Lt;simp only[jo] at hb;omega);rw[hr] at r1;cases r1;simp[Value.ownBlock] at hk;subst hk;exact .inr ⟨aU _,af⟩
  ·by_cases V2:n+m≤cap
   ·have Gm:n*inf.size+news.length≤cur.size:=by rw[hl,cY,←mN];exact mP _ V2
    have hr:=run_append_room (P:=P) w T ty E inf hT hi g n cap cur hg ad m c news hl GD h1 V2 Gm;rw[hr] at r1;cases r1;exact .inl hk
   ·have hr:=run_append_grow (P:=P) w T ty E inf z hT hi hz ⟨g,0,none⟩ n cap xs bt.1 (bt.cells (g:=g) rfl) ad m c news hl GD (by omega) (by omega) (growslice_fits (by omega) Lt);rw[hr] at r1;cases r1;simp[Value.ownBlock] at hk;subst hk;exact .inr ⟨aU _,af⟩
theorem ad7 (h:Inv C S ρ σ own hv w0 σ0 A a w)(hC:CtxOK C σ0)(ht:¬A dst)(af:dst<a.tmps.size){T:TypeId}{s x:Operand}{r:St×List PI}(hr:Ax C S dst T s x=some r){o:Oper}(hd:o.dst=some dst)
 (ho:o.op=.call {callee:=.builtin .append,args:=#[s,x],argTypes:=#[T,T]}):bR C w0 σ0 Φ S ρ A a w o r:=by
 unfold Ax at hr;split at hr
 case h_2=>cases hr
 rename_i E hT;simp only[au] at hr;obtain⟨e,he,hr⟩:=hr;split at hr
 case h_2=>cases hr
 rename_i tx ex MB;have hv':=Su h hC (gs:=[]) rfl MB;obtain⟨cs,aj⟩:=P2 (C:=C) (w:=w) (a:=a) ho;cases hc:(ot C.P E e&&IX tx e)<;>simp only[hc,cond_true,cond_false] at hr
 ·cases hr
 simp only[aq] at hc;obtain⟨inf,z,hi,hs,nf,h1,hz,kC⟩:=KO hc.1;have qD:=Sy kC;have gg:=arU kC;have MC:∃f:Ty,f.unf=e∧JE C σ w w0.heap.size (.slice f) (a.eval x) (ex.ev ρ):=by
  have cQ:=hc.2;unfold IX at cQ;split at cQ
  ·exact⟨_,Ty.beq_eq _ _ cQ,hv'⟩
  ·refine⟨e,Ty.unf_ro gg,?_⟩;rcases hv' with hr|⟨_,_,_,_,ht,_⟩|⟨_,_,_,_,_,_,ht,_⟩
   ·exact .inl (hr.sub (by simp[Ty.sub]))
   ·cases ht
   ·cases ht
  ·cases cQ
 obtain⟨fv,dR,MC⟩:=MC;obtain⟨ys,Gk,j5,ai4⟩:=arJ h h1 gg dR MC;have hx:∃news,dL C.cap σ e news ys∧news.length=ys.length*e.size∧((a.eval x=.slice none 0 0∧ys.length=0∧news=[])∨∃(ad:Addr) (c:Nat),a.eval x=.slice (some ad) ys.length c∧news.length=ys.length*e.size∧(∀j u,news[j]?=some u→w.cell? (ad.add j)=some u)∧∀u∈news,u.oneCell'=true):=by
  rcases ai4 with⟨e1,rfl⟩|⟨ad,c,news,e1,e2,e3,e4⟩
  ·exact⟨[],⟨fun _=>undef,by simp,by simp⟩,by simp,.inl ⟨e1,rfl,rfl⟩⟩
  ·exact⟨news,e4,e2,.inr ⟨ad,c,e1,e2,e3,aeN e4 e2 gg⟩⟩
 obtain⟨news,az,VQ,hx⟩:=hx;have main:∀(j:Nat) (v:Value) (xs:List D) (cells:List Value),a.eval s=v→w.ownsRow w0.heap.size E e.size v xs.length cells→dL C.cap σ e cells xs→xs.length+ys.length≤4294967296→
  (∀k,v.ownBlock=some k→own k=some j)→
  ∃v' w',(execOp a.eval o).run C.P w=.ok (.value v') w'∧Good C w0 σ0 ((S.newO j (.row E e)).setR dst (.obj j (S.ver j+1))) ((ρ.setO j (.list (xs++ys))).setR dst .none) (fun u=>A u∨u=dst) (a.put (some dst) v') w':=by
  intro j v xs cells Ms bt fe hlen cI;obtain⟨v',w',r1,r2,r3,r4⟩:=aoB (P:=C.P) (ty:=o.type) hT hi hz hs qD h1 nf bt h.below.size hlen hx;refine⟨v',w',by rw[aj];simp[builtin,Ms,r1],?_⟩
  have My:=h.updO j (.row E e) (.list (xs++ys)) v' (fun k=>decide (v'.ownBlock=some k)) (w':=w') (UL r3 h.below.size (fun k hk=>(h.owns k j (cI k hk)).1)) (fun k hk az=>r3.block k hk (fun e=>az (cI k e.symm))) (fun k hk=>by
        have bL:v'.ownBlock=some k:=by simpa using hk
        rcases r4 k bL with e|e
        ·exact⟨.inl (cI k e),(r2.lt k bL).2⟩
        ·exact⟨.inr e.1,e.2⟩)
   ⟨cells++news,xs++ys,by simp[Env.setO,aK],by rw[aK,kV];exact r2,aeM fe az bt.1,fun k hk=>by rw[aK] at hk;simp[eT,hk]⟩
  have h2:=My.setObj ht (j:=j) (v:=v') (aK _ _ _) af;have e:(S.newO j (.row E e)).ver j=S.ver j+1:=aK _ _ _;rw[e] at h2;exact⟨_,_,_,h2⟩
 split at hr
 ·rename_i e0 pe0 hu;cases hr;refine bR.value hd fun ρ' oM=>?_;have Mt:=bW h hC rfl hu;have Ms:a.eval s=.slice none 0 0:=by
   generalize a.eval s=v at Mt;generalize pe0.ev ρ=d at Mt;cases Mt;rfl
  simp only[PI.runs,PI.run,au] at oM;obtain⟨ρ1,g1,ρ2,g2,ρ3,g3,g4⟩:=oM;cases c1:((G0 (.con (.list [])) ex).ev ρ).b<;>simp only[c1,cond_true,cond_false] at g1
  ·cases g1
  cases g1;cases g2;cases g3;cases g4;have hlen:=TU c1;simp only[PE.ev,D.l_list,Gk,tn,D.i_int,D.int] at hlen;have:=main dst (.slice none 0 0) [] [] Ms (World.ownsRow_nil _ _ _ _) ⟨fun _=>undef,by simp,by simp⟩ (by simpa using WM hlen) (by simp[Value.ownBlock]);simpa [PE.ev,D.l_list,Gk,mkObj] using this
 ·cases hr
 ·obtain⟨dQ,_⟩:=sS h (gs:=[]) rfl s;split at hr
  case h_2=>cases hr
  rename_i j ver es;rw[es] at dQ;cases hb:Nat.beq ver (S.ver j)<;>simp only[hb,cond_true,cond_false] at hr
  ·cases hr
  have bY:=dQ.2 (aw hb);have aW:=h.objs j;split at hr
  case h_2=>cases hr
  rename_i E' e' eo;rw[eo] at aW;cases jw:(Nat.beq E' E&&Ty.beq e' e)<;>simp only[jw,cond_true,cond_false] at hr
  ·cases hr
  cases hr;simp only[aq] at jw;have e1:=aw jw.1;have e2:=Ty.beq_eq _ _ jw.2;subst e1;subst e2;obtain⟨cells,xs,k1,k2,k3,k4⟩:=aW;refine bR.value hd fun ρ' oM=>?_;simp only[PI.runs,PI.run,au] at oM;obtain⟨ρ1,g1,ρ2,g2,ρ3,g3,g4⟩:=oM;cases c1:((G0 (.o j) ex).ev ρ).b<;>simp only[c1,cond_true,cond_false] at g1
  ·cases g1
  cases g1;cases g2;cases g3;cases g4;have hlen:=TU c1;simp only[PE.ev,D.l_list,Gk,k1,D.i_int,D.int] at hlen;have:=main j (hv j) xs cells bY k2 k3 (by have:=WM hlen;simpa using this) k4;simpa [PE.ev,D.l_list,Gk,k1] using this
end
end Cx
namespace Cx
open Go Go.RowKit
theorem IP {P:Program}{a:Act}{w:World}{o:Oper}{T:TypeId}{x v:Operand}{inf:TypeInfo}{k off:Nat}{cs:Array Value}{E:TypeId}(ho:o.op=.store T x v)(hi:P.info? T=some inf)(hx:a.eval x=.pointer (some ⟨k,off,none⟩))
 (hs:(a.eval v).cells.size=inf.size) (df:∀u∈(a.eval v).cells.toList,u.oneCell'=true) (hb:w.heap[k]?=some (.cells cs E (0,0))) (hle:off+inf.size≤cs.size):
 (execOp a.eval o).run P w=.ok .skip (w.setRow k (cs.toList.take off++(a.eval v).cells.toList++cs.toList.drop (off+inf.size)).toArray):=by
 have:=run_storeCells_at P k off E (a.eval v).cells.toList 0 cs w hb (by simp[hs];exact hle) df;simp only[lU,zz,hs] at this;simp[execOp,ho,Instr.storeAt,hx,Instr.sureAddr,storeVar,Go.sizeOf,run_typeInfo w hi,hs,this]
theorem aaR {w:World}{B k:Nat}{cs:Array Value}(hB:B≤k):Below B w (w.setRow k cs)∧∀i,i≠k→(w.setRow k cs).heap[i]?=w.heap[i]?:=
 ⟨⟨rfl,rfl,rfl,by simp[World.setRow],fun i hi=>setRow_other w k i cs (by omega)⟩,fun i hi=>setRow_other w k i cs hi⟩
theorem FP {α:Type}(xs ys:List α)(off:Nat)(d:α)(hle:off+ys.length≤xs.length)(i:Nat):(xs.take off++ys++xs.drop (off+ys.length)).getD i d=if off≤i∧i<off+ys.length then ys.getD (i-off) d else xs.getD i d:=by
 simp only[aI,nT];rw[kh,gp,mO (by omega)];split
 ·rename_i h;rw[if_neg (by omega),fV,if_pos h]
 ·rename_i h;rw[kh];split
  ·rename_i h2;rw[if_pos (by omega)]
  ·rename_i h2;rw[if_neg (by omega),gn];congr 2;omega
section
variable {C:Ctx} {S:St} {ρ:Env} {σ:Im} {own:Nat→Option Nat} {hv:Nat→Value} {w0:World} {σ0:Base} {A:Nat→Prop} {a:Act} {w:World} {gs:List (Nat×Bool)} {Φ:aJ} {dst:Nat}
theorem Inv.storeBox (h:Inv C S ρ σ own hv w0 σ0 A a w){j k off:Nat}{ag:Bool}{shs news:List Sh}{cs:Array Value}{E:TypeId}{ds dn:List D}{vs:List Value}(eo:S.o j=.box ag shs)
 (h1:hv j=.pointer (some ⟨k,0,none⟩)) (h2:own k=some j) (h3:w.heap[k]?=some (.cells cs E (0,0))) (h4:cs.size=shs.length) (h5:ρ.o j=.agg ds) (h6:ds.length=shs.length)
 (h7:∀i s,shs[i]?=some s→(∀gs s',s≠.opt gs s')∧aF C S ρ σ hv s (cs.getD i undef) (ds.getD i .none))
 (l1:news.length=vs.length) (l2:dn.length=vs.length) (hle:off+vs.length≤shs.length)
 (j1:∀i s,news[i]?=some s→(∀gs s',s≠.opt gs s')∧aF C S ρ σ hv s (vs.getD i undef) (dn.getD i .none)):
 Inv C (S.setO j (.box ag (shs.take off++news++shs.drop (off+vs.length)))) (ρ.setO j (.agg (cw ds off dn))) σ own hv w0 σ0 A a (w.setRow k (cs.toList.take off++vs++cs.toList.drop (off+vs.length)).toArray):=by
 have hkB:w0.heap.size≤k:=(h.owns k j h2).1;obtain⟨b1,b2⟩:=aaR (w:=w) (B:=w0.heap.size) (k:=k) (cs:=(cs.toList.take off++vs++cs.toList.drop (off+vs.length)).toArray) hkB;refine h.updB j _ _ b1 (fun i hi az=>b2 i fun e=>az (e▸h2)) ⟨k,_,E,cw ds off dn,h1,h2,setRow_heap w k cs _ E _ h3,?_,by simp[Env.setO,aK],?_,fun i s hi=>?_⟩
 ·simp[l1];omega
 ·simp[cw,l2,l1];omega
 ·have cY:(cs.toList.take off++vs++cs.toList.drop (off+vs.length)).toArray.getD i undef=if off≤i∧i<off+vs.length then vs.getD (i-off) undef else cs.getD i undef:=by
   have e0:∀l:List Value,l.toArray.getD i undef=l.getD i undef:=fun l=>by simp[eY,aI]
   rw[e0,FP cs.toList vs off undef (by simp;omega),xJ cs i]
  have qs:(cw ds off dn).getD i .none=if off≤i∧i<off+vs.length then dn.getD (i-off) .none else ds.getD i .none:=by
   rw[cw,FP ds dn off .none (by omega),l2]
  rw[cY,qs];have VM:∀s v d,(∀gs s',s≠.opt gs s')→aF C S ρ σ hv s v d→aF C (S.setO j (.box ag (shs.take off++news++shs.drop (off+vs.length)))) (ρ.setO j (.agg (cw ds off dn))) σ hv s v d:=
   fun s v d hn hk=>aF.mono' (.refl σ) (Compat.setO _ _ _ _) hn hk
  have ma:(shs.take off++news++shs.drop (off+vs.length))[i]?=if off≤i∧i<off+vs.length then news[i-off]? else shs[i]?:=by
   rw[nT,kh,gp,mO (by omega)];split
   ·rename_i h;rw[if_neg (by omega),fV,if_pos h]
   ·rename_i h;rw[kh,l1];split
    ·rename_i h2;rw[if_pos (by omega)]
    ·rename_i h2;rw[if_neg (by omega),gn];congr 1;omega
  rw[ma] at hi;split
  ·rename_i hc;rw[if_pos hc] at hi;obtain⟨g1,g2⟩:=j1 _ s hi;exact⟨g1,VM _ _ _ g1 g2⟩
  ·rename_i hc;rw[if_neg hc] at hi;obtain⟨g1,g2⟩:=h7 _ s hi;exact⟨g1,VM _ _ _ g1 g2⟩
theorem aoy (h:Inv C S ρ σ own hv w0 σ0 A a w){j:Nat}(hr:kD (S.o j)=true):(hv j).cells=#[hv j]∧(hv j).oneCell'=true:=by
 have aW:=h.objs j;cases cI:S.o j with
 |row T e=>
  rw[cI] at aW;obtain⟨cells,xs,h1,h2,h3,h4⟩:=aW;obtain⟨b,c,e1,_⟩:=vh h2;rw[e1];exact⟨rfl,rfl⟩
 |mp kt et=>
  rw[cI] at aW;obtain⟨k0,arr,clock,es,h1,_⟩:=aW;rw[h1];exact⟨rfl,rfl⟩
 |_=>rw[cI] at hr;simp[kD] at hr
theorem Inv.storeRow (h:Inv C S ρ σ own hv w0 σ0 A a w){j k n c i p:Nat}{T:TypeId}{e:Ty}{cells vs:List Value}{xs:List D}{v':Value}{d':D}(eo:S.o j=.row T e)(dS:hv j=.slice (some ⟨k,0,none⟩) n c)
 (h1:ρ.o j=.list xs) (h2:w.ownsRow w0.heap.size T e.size (hv j) xs.length cells) (h3:dL C.cap σ e cells xs) (h4:∀k,(hv j).ownBlock=some k→own k=some j) (hi:i<xs.length)
 (BJ:i*e.size≤p) (eC:p+vs.length≤i*e.size+e.size) (hr:Rep C.cap σ e v' d')
 (hv':∀q u,v'.cells[q]?=some u→(cells.take p++vs++cells.drop (p+vs.length))[i*e.size+q]?=some u):
 ∃cur,w.heap[k]?=some (.cells cur T (0,0))∧p+vs.length≤cur.size∧Inv C S (ρ.setO j (.list (xs.set i d'))) σ own hv w0 σ0 A a (w.setRow k (cur.toList.take p++vs++cur.toList.drop (p+vs.length)).toArray):=by
 have aV:=h2.1;rcases h2.2 with⟨e0,e1⟩|⟨g,cap,cur,e1,e2,e3,e4,e5,e6,e7⟩
 ·omega
 rw[dS] at e1;cases e1;have ahY:i*e.size+e.size≤xs.length*e.size:=by
  have:(i+1)*e.size≤xs.length*e.size:=mP _ hi;rw[mN] at this;omega
 have awF:xs.length*e.size≤c*e.size:=mP _ e4;have aiF:p+vs.length≤cur.size:=by omega
 refine⟨cur,e3,aiF,?_⟩;have bt:own k=some j:=h4 k (by rw[dS];rfl);obtain⟨b1,b2⟩:=aaR (w:=w) (B:=w0.heap.size) (k:=k) (cs:=(cur.toList.take p++vs++cur.toList.drop (p+vs.length)).toArray) e2;have BW:(cur.toList.take p++vs++cur.toList.drop (p+vs.length)).take (xs.length*e.size)=cells.take p++vs++cells.drop (p+vs.length):=by
  rw[←e7];apply DT;intro q;simp only[nT,fV,kh,gp,gn,zz];by_cases hq:q<xs.length*e.size
  ·rw[if_pos hq];by_cases hq1:q<p
   ·simp[hq1,Nat.lt_min,show q<cur.size by omega,hq]
   ·by_cases gM:q-p<vs.length
    ·rw[if_neg (by omega),mO (by omega),if_pos gM,if_neg (by omega),mO (by omega),if_pos gM]
    ·rw[if_neg (by omega),mO (by omega),if_neg gM,if_neg (by omega),mO (by omega),if_neg gM,if_pos (by omega)]
  ·rw[if_neg hq];have:¬q<p:=by omega
   rw[if_neg (by omega),mO (by omega),if_neg (by omega),if_neg (by omega)]
 have:=h.updB j (.row T e) (.list (xs.set i d')) b1 (fun q hq az=>b2 q fun e=>az (e▸bt))
  ⟨cells.take p++vs++cells.drop (p+vs.length),xs.set i d',by simp[Env.setO,aK],⟨by simp;omega,.inr ⟨k,c,_,by rw[dS];simp,e2,setRow_heap w k cur _ T _ e3,by simpa using e4,e5,by simp;omega,by simpa using BW⟩⟩,?_,h4⟩
 ·rw[St.setO_self eo] at this;exact this
 ·obtain⟨us,u1,u2⟩:=h3;refine⟨fun q=>if q=i then v' else us q,fun q x hx=>?_,fun q m u hq hm=>?_⟩
  ·rw[zF] at hx;by_cases yg:i=q
   ·subst yg;simp only[if_true] at hx ⊢;rw[if_pos hi] at hx;cases hx;exact hr
   ·rw[if_neg yg] at hx;simp only[show ¬q=i from fun e=>yg e.symm,if_false];exact u1 q x hx
  ·by_cases yg:q=i
   ·subst yg;simp only[if_true] at hm;exact hv' m u hm
   ·simp only[yg,if_false] at hm;simp only[List.length_set] at hq;have h9:=u2 q m u hq hm;have awV:m<e.size:=by rw[←(u1 q _ (aZ hq)).size];exact(ei.1 hm).1
    have iU:q*e.size+m<p∨p+vs.length≤q*e.size+m:=by
     rcases Jz q i with af|gf
     ·left;have:(q+1)*e.size≤i*e.size:=mP _ af;rw[mN] at this;omega
     ·right;have:(i+1)*e.size≤q*e.size:=mP _ (by omega);rw[mN] at this;omega
    rw[nT,kh,gp,mO (by omega)];rcases iU with ho|ho
    ·rw[if_pos ho,fV,if_pos ho];exact h9
    ·rw[if_neg (by omega),lT (by omega),gn];rw[show p+vs.length+(q*e.size+m-p-vs.length)=q*e.size+m by omega];exact h9
theorem aez (h:Inv C S ρ σ own hv w0 σ0 A a w)(hC:CtxOK C σ0){T:TypeId}{x v:Operand}{r:St×List PI}(hr:AI C S T x v=some r){o:Oper}(hd:o.dst=none)(ho:o.op=.store T x v):bR C w0 σ0 Φ S ρ A a w o r:=by
 unfold AI at hr;split at hr
 case h_2=>cases hr
 rename_i inf hi;obtain⟨dQ,_⟩:=sS h (gs:=[]) rfl x;split at hr
 case h_3=>cases hr
 ·rename_i j ver off es;rw[es] at dQ;cases hb:Nat.beq ver (S.ver j)<;>simp only[hb,cond_true,cond_false] at hr
  ·cases hr
  obtain⟨k,dS,fb⟩:=dQ.2 (aw hb);have aW:=h.objs j;split at hr
  case h_2=>cases hr
  rename_i ag shs eo;rw[eo] at aW;obtain⟨k',cs,E,ds,h1,h2,h3,h4,h5,h6,h7⟩:=aW;have cN:=h1;rw[dS] at h1;cases h1;split at hr
  ·rename_i t e hu;have hv':=bW h hC rfl hu;cases hc:(Nat.beq inf.size t.size&&(t.rowT||t.one)&&Nat.ble (off+t.size) shs.length)<;>simp only[hc,cond_true,cond_false] at hr
   ·cases hr
   cases hr;simp only[aq,jh] at hc;obtain⟨⟨aL,gg⟩,hle⟩:=hc;have aL:=aw aL;have hle:=jQ hle;obtain⟨f1,f2,f3⟩:=hv'.flat gg;have gi:=hv'.size;refine bR.skip hd fun ρ' aj=>?_;rw[q7 aj]
   refine⟨_,IP ho hi fb (by rw[gi,aL]) (fun u hu=>by
        obtain⟨m,hm,rfl⟩:=eZ hu;exact hv'.cellsOne gg (m:=m) (by simp at hm ⊢)) h3 (by omega),?_⟩
   have cQ:=h.storeBox (off:=off) (news:=t.flat.map .dat) (vs:=(a.eval v).cells.toList) (dn:=(e.ev ρ).cells) eo cN h2 h3 h4 h5 h6 h7 (by simp[f1,gi]) (by simp[f2,gi]) (by simp[gi];omega) (fun i s hi=>by
        simp only[cf,ax] at hi;obtain⟨ti,Mv,rfl⟩:=hi;refine⟨fun _ _ e=>(by cases e),?_⟩;rw[xJ];exact(f3 i ti Mv).2)
   have e1:(a.eval v).cells.toList.length=t.size:=by simp[gi]
   rw[e1] at cQ;rw[aL];refine⟨σ,own,hv,?_⟩;simpa [PE.ev,h5,D.cells] using cQ
  ·split at hr
   case h_2=>cases hr
   rename_i j' mF fy;obtain⟨Mp,_⟩:=sS h (gs:=[]) rfl v;rw[fy] at Mp;cases hc:(Nat.beq mF (S.ver j')&&kD (S.o j')&&Nat.beq inf.size 1&&Nat.blt off shs.length)<;>simp only[hc,cond_true,cond_false] at hr
   ·cases hr
   cases hr;simp only[aq] at hc;obtain⟨⟨⟨ajr,fE⟩,aL⟩,af⟩:=hc;have aL:=aw aL;have af:off<shs.length:=by simpa [nX] using af
   have bY:=Mp.2 (aw ajr);obtain⟨c1,c2⟩:=aoy h fE;have il:(a.eval v).cells=#[a.eval v]:=by rw[bY];exact c1
   refine bR.skip hd fun ρ' aj=>?_;rw[q7 aj];refine⟨_,IP ho hi fb (by rw[il,aL];rfl) (fun u hu=>by rw[il] at hu;simp at hu;subst hu;rw[bY];exact c2) h3 (by omega),?_⟩
   have cQ:=h.storeBox (off:=off) (news:=[.obj j' mF]) (vs:=[a.eval v]) (dn:=[.none]) eo cN h2 h3 h4 h5 h6 h7 rfl rfl (by simp;omega) (fun i s hi=>by
        match i,hi with
        |0,hi=>simp at hi;subst hi;exact⟨fun _ _ e=>(by cases e),Mp.1,fun _=>by simpa using bY⟩
        |i+1,hi=>simp at hi)
   rw[il,aL];have e2:shs.take off++[Sh.obj j' mF]++shs.drop (off+[a.eval v].length)=shs.set off (.obj j' mF):=by
        rw[List.set_eq_take_append_cons_drop,if_pos af];simp
   rw[e2] at cQ;refine⟨σ,own,hv,?_⟩;simpa [PE.ev,h5,D.cells] using cQ
 ·rename_i j ver size off es;rw[es] at dQ;cases hb:Nat.beq ver (S.ver j)<;>simp only[hb,cond_true,cond_false] at hr
  ·cases hr
  obtain⟨k,n,c,ik,i,dS,rL,cu,fb⟩:=dQ.2 (aw hb);have aW:=h.objs j;split at hr
  ·rename_i T' ts t e eo hu;rw[eo] at aW;have hv':=bW h hC rfl hu;cases hc:(Nat.beq inf.size t.size&&(t.rowT||t.one)&&Nat.beq size ts.length&&Nat.ble (off+t.size) ts.length&&Ty.subs t.flat ((ts.drop off).take t.size))<;>simp only[hc,cond_true,cond_false] at hr
   ·cases hr
   cases hr;simp only[aq,jh] at hc;obtain⟨⟨⟨⟨aL,gg⟩,uF⟩,hle⟩,cj⟩:=hc;have aL:=aw aL;have uF:=aw uF;have hle:=jQ hle;obtain⟨f1,f2,f3⟩:=hv'.flat gg;have gi:=hv'.size;have f1:t.flat.length=t.size:=f1;have f2:(e.ev ρ).cells.length=t.size:=f2;have gi:(a.eval v).cells.size=t.size:=gi;obtain⟨cells,xs,k1,k2,k3,k4⟩:=aW;obtain⟨b,c',e1,By,Bz⟩:=vh k2;rw[dS] at e1;cases e1;obtain⟨us,u1,u2⟩:=k3;obtain⟨y,hy⟩:∃y,xs[i]?=some y:=⟨_,aZ cu⟩
   obtain⟨os,ds,yj,hd0,l1,l2,aP,df⟩:=(u1 i y hy).agg_inv;have BY:(a.eval v).cells.toList.length=t.size:=by simp[gi]
   have j1:Rep C.cap σ (.agg ts) (.agg (os.take off++(a.eval v).cells.toList++os.drop (off+(a.eval v).cells.toList.length)).toArray) (.agg (cw ds off (e.ev ρ).cells)):=by
        refine .agg _ _ _ (by simp[gi];omega) (by simp[cw,f2];omega) (fun m tm hm=>?_) df;rw[FP os _ off undef (by rw[BY];omega),cw,FP ds _ off .none (by rw[f2];omega),BY,f2];split
        ·rename_i hc;have ai8:=Ty.subs_get _ _ cj (m-off) tm (by
          rw[fV,if_pos (by omega),gn,show off+(m-off)=m by omega];exact hm)
         obtain⟨tf,htf,cQ⟩:=ai8;rw[xJ];exact((f3 _ tf htf).2).sub cQ
        ·exact aP m tm hm
   have aV:=k2.1;have ahY:i*(Ty.agg ts).size+(Ty.agg ts).size≤xs.length*(Ty.agg ts).size:=by
        have:(i+1)*(Ty.agg ts).size≤xs.length*(Ty.agg ts).size:=mP _ cu;rw[mN] at this;omega
   have V8:(Ty.agg ts).size=ts.length:=rfl
   obtain⟨cur,q1,q2,q3⟩:=h.storeRow (i:=i) (p:=i*(Ty.agg ts).size+off) (vs:=(a.eval v).cells.toList) eo dS k1 k2 ⟨us,u1,u2⟩ k4 cu (by omega) (by rw[BY];omega) j1 (fun q u hq=>by
        have dg:(os.take off++(a.eval v).cells.toList++os.drop (off+(a.eval v).cells.toList.length))[q]?=some u:=by simpa [Value.cells] using hq
        have aw1:q<ts.length:=by have:=(dX.1 dg).1;simp[gi] at this;omega
        rw[nT,kh,gp,mO (by omega)] at dg;rw[nT,kh,gp,mO (by omega)];by_cases oK:q<off
        ·rw[if_pos oK,fV,if_pos oK] at dg;rw[if_pos (by omega),fV,if_pos (by omega)];exact u2 i q u cu (by rw[yj];simpa [Value.cells] using dg)
        ·rw[if_neg oK,kh] at dg;rw[if_neg (by omega),kh];rw[show i*(Ty.agg ts).size+q-(i*(Ty.agg ts).size+off)=q-off by omega];by_cases Mk:q-off<(a.eval v).cells.toList.length
         ·rw[if_pos Mk] at dg ⊢;exact dg
         ·rw[if_neg Mk,gn] at dg;rw[if_neg Mk,gn];rw[show off+(a.eval v).cells.toList.length+(q-off-(a.eval v).cells.toList.length)=q by omega] at dg;rw[show i*(Ty.agg ts).size+off+(a.eval v).cells.toList.length+(q-off-(a.eval v).cells.toList.length)=i*(Ty.agg ts).size+q by omega];exact u2 i q u cu (by rw[yj];simpa [Value.cells] using dg))
   refine bR.skip hd fun ρ' aj=>?_;rw[q7 aj]
   refine⟨_,IP ho hi (cs:=cur) (by rw[fb,uF]) (by rw[gi,aL]) (fun u hu=>by
        obtain⟨m,hm,rfl⟩:=eZ hu;exact hv'.cellsOne gg (m:=m) (by simp at hm ⊢)) q1 (by rw[BY] at q2;rw[aL,←V8];exact q2),σ,own,hv,?_⟩
   rw[BY] at q3;simp only[PE.ev,k1,D.l_list,rL,D.i_int,tl,qn hy,hd0,sU];rw[aL,←V8];exact q3
  ·rename_i T' e0 t e az eo hu;rw[eo] at aW;have hv':=bW h hC rfl hu;cases hc:(Nat.beq inf.size 1&&Nat.beq size 1&&Nat.beq off 0&&e0.one&&Ty.sub t e0)<;>simp only[hc,cond_true,cond_false] at hr
   ·cases hr
   cases hr;simp only[aq] at hc;obtain⟨⟨⟨⟨aL,uF⟩,gL⟩,df⟩,cj⟩:=hc;have aL:=aw aL;have uF:=aw uF;have gL:=aw gL;subst gL;subst uF;have Wc:=hv'.sub cj;obtain⟨c1,c2⟩:=Wc.oneCell df;have Bj:e0.size=1:=by cases e0<;>simp_all [Ty.size,Ty.one]
   obtain⟨cells,xs,k1,k2,k3,k4⟩:=aW;obtain⟨b,c',e1,By,Bz⟩:=vh k2;rw[dS] at e1;cases e1;obtain⟨y,hy⟩:∃y,xs[i]?=some y:=⟨_,aZ cu⟩
   have aV:=k2.1
   obtain⟨cur,q1,q2,q3⟩:=h.storeRow (i:=i) (p:=i*e0.size) (vs:=[a.eval v]) eo dS k1 k2 k3 k4 cu (aU _) (by rw[Bj];simp) Wc (fun q u hq=>by
        rw[c1] at hq;have BN:q=0:=by have:=(ei.1 hq).1;simpa using this
        subst BN;simp at hq;subst hq;have:i*e0.size≤cells.length:=by rw[aV];exact mP _ (by omega)
        rw[nT,lT (by simp;omega)];simp[mO this])
   refine bR.skip hd fun ρ' aj=>?_;rw[q7 aj];refine⟨_,IP ho hi (cs:=cur) (by rw[fb]) (by rw[c1,aL];rfl) (fun u hu=>by rw[c1] at hu;simp at hu;subst hu;exact c2) q1 (by rw[Bj] at q2;rw[aL];simpa using q2),σ,own,hv,?_⟩;rw[c1,aL];have B5:sU y 0 (e.ev ρ)=e.ev ρ:=by
        obtain⟨us,u1,u2⟩:=k3;have:=(u1 i y hy).dcells df;cases y with
        |agg ds=>have h8:=u1 i _ hy;generalize us i=vv at h8;cases h8;simp[Ty.one] at df
        |_=>rfl
   simp only[PE.ev,k1,D.l_list,rL,D.i_int,tl,qn hy,B5];rw[Bj] at q3;simpa using q3
  ·cases hr
end
end Cx
namespace Cx
open Go Go.RowKit
section
variable {C:Ctx} {S:St} {ρ:Env} {σ:Im} {own:Nat→Option Nat} {hv:Nat→Value} {w0:World} {σ0:Base} {A:Nat→Prop} {a:Act} {w:World} {gs:List (Nat×Bool)} {Φ:aJ} {dst:Nat}
theorem aeX {ρ:Env}{es:List PE}{i:Nat}{e:PE}(h:es[i]?=some e):(PE.evs ρ es)[i]?=some (e.ev ρ):=by
 rw[PE.evs_eq,cf,h];rfl
theorem T8 (h:Inv C S ρ σ own hv w0 σ0 A a w)(hC:CtxOK C σ0)(hg:holds gs ρ=true){T:TypeId}{len:Nat}{ps:Array (Nat×Operand)}{r:St×List PI}(hr:tS C S gs dst T len ps.toList=some r){o:Oper}
 (ho:o.op=.buildSlice T len ps):∃(E:TypeId) (e:Ty) (es:List PE) (v:Value) (w':World),C.P.underlying T=some (.slice E)∧mE C.P E=some e∧r=(mkObj S dst (.row E e),[.setO dst (.lst es),.setR dst (.con .none)])∧
   (execOp a.eval o).run C.P w=.ok (.value v) w'∧Below w.heap.size w w'∧(∀k,Nat.beq k w.heap.size=true→w.heap.size≤k∧k<w'.heap.size)∧
   bU C (S.newO dst (.row E e)) (ρ.setO dst (.list (PE.evs ρ es))) σ (eT own dst (fun k=>Nat.beq k w.heap.size)) (bT hv dst v) w' w0.heap.size dst (.row E e):=by
 unfold tS at hr;split at hr
 case h_2=>cases hr
 rename_i E hT;simp only[au] at hr;obtain⟨e,he,z,hz,hr⟩:=hr;cases hc:(ot C.P E e&&Ty.sub z.1 e&&iI (ps.toList.map (·.1))&&ps.toList.all (fun p=>Nat.blt p.1 len)&&Nat.ble (len*e.size) 16777216)<;>simp only[hc,cond_true,cond_false] at hr
 ·cases hr
 simp only[aq] at hc;obtain⟨⟨⟨⟨hef,cj⟩,bm⟩,eD⟩,hle⟩:=hc;have hle:=jQ hle;obtain⟨inf,zv,hi,hs,nf,h1,hzv,kC⟩:=KO hef;have qD:=Sy kC;have kz:=nz bm;have B6:=((vU (cap:=C.cap) (σ:=σ) hz kC).1).sub cj;simp only[ax] at hr;obtain⟨es,gI,rfl⟩:=hr;obtain⟨Uj,el2⟩:=mapM_some _ _ _ gI;simp only[SW] at Uj;have Vp:∀i,i<len→∃pe,es[i]?=some pe∧FB C S gs e z.2 ps.toList i=some pe:=by
  intro i hi;obtain⟨y,hy1,B4⟩:=el2 i i (by rw[nU hi]);exact⟨y,hy1,B4⟩
 have oJ:∀x,x∈ps.toList→x.1<len∧∃t pe,use C S gs x.2=some (t,pe)∧Ty.sub t e=true∧es[x.1]?=some pe:=by
  intro x hx;have uK:x.1<len:=by
   have:=db.1 eD x hx;simpa [nX] using this
  refine⟨uK,?_⟩;obtain⟨pe,BJ,eC⟩:=Vp x.1 uK;have Bl:=Uz kz (i:=x.1) (x:=x.2) hx;simp only[FB,Bl,au] at eC;obtain⟨y,hy,eC⟩:=eC;cases hs:Ty.sub y.1 e<;>simp only[hs,cond_true,cond_false] at eC
  ·cases eC
  cases eC;exact⟨y.1,y.2,hy,hs,BJ⟩
 let c0:Array Value:=madeCells zv.cells (len*e.size)
 have Bc:c0.size=len*e.size:=size_madeCells _ _
 have jB:∀p,p∈(ps.toList.map fun(x:Nat×Operand)=>(x.1,a.eval x.2))→∃o,(fun i=>some (i*e.size,e.size)) p.1=some (o,p.2.cells.size)∧o+p.2.cells.size≤c0.size:=by
  intro p hp;obtain⟨x,hx,rfl⟩:=cX.1 hp;obtain⟨uK,t,pe,hu,cQ,_⟩:=oJ x hx;have rW:=((bW h hC hg hu).sub cQ).size;simp only;refine⟨x.1*e.size,by rw[rW],?_⟩;rw[rW,Bc];have:(x.1+1)*e.size≤len*e.size:=mP _ uK;rw[mN] at this;omega
 have xT:∀(i j oi si oj sj:Nat),i≠j→(fun i=>some (i*e.size,e.size)) i=some (oi,si)→(fun i=>some (i*e.size,e.size)) j=some (oj,sj)→oi+si≤oj∨oj+sj≤oi:=by
  intro i j oi si oj sj az hi hj;simp only[aS,lV] at hi hj;obtain⟨rfl,rfl⟩:=hi;obtain⟨rfl,rfl⟩:=hj;rcases Jz i j with af|gf
  ·left;have:(i+1)*e.size≤j*e.size:=mP _ af;rw[mN] at this;omega
  ·right;have:(j+1)*e.size≤i*e.size:=mP _ (by omega);rw[mN] at this;omega
 obtain⟨dc,f1,f2,f3,f4⟩:=KY (fun i=>some (i*e.size,e.size)) (ps.toList.map fun(x:Nat×Operand)=>(x.1,a.eval x.2)) c0 jB xT (by simpa [DR] using kz);have aj:(execOp a.eval o).run C.P w=.ok (.value (.slice (some ⟨w.heap.size,0,none⟩) len len)) (w.alloc (.cells dc E)):=by
  have n1:¬(len*inf.size>2^24):=by rw[hs];omega
  have FG:Instr.fill (fun i=>some (i*inf.size,inf.size)) c0 (ps.toList.map fun(x:Nat×Operand)=>(x.1,a.eval x.2))=some dc:=by rw[hs];exact f1
  by_cases h0:len*inf.size=0
  ·have Lu:c0=#[]:=by
        apply Jp;rw[Bc,←hs];exact h0
   rw[Lu] at FG
   have afd:Instr.fill (fun i=>some (i*inf.size,inf.size)) (Array.map (fun _=>default) (Array.range 0)) (ps.toList.map fun(x:Nat×Operand)=>(x.1,a.eval x.2))=some dc:=by
        have:(Array.map (fun _=>(default:Value)) (Array.range 0))=#[]:=by simp
        rw[this];exact FG
   simp[execOp,ho,Instr.buildSlice,run_underlying hT,Go.sizeOf,run_typeInfo w hi,n1,h0,afd,newRow]
  ·have Lu:c0=(Array.range (len*inf.size)).map (fun x=>zv.cells[x%zv.cells.size]!):=by simp only[c0,madeCells,hs]
   rw[Lu] at FG;have h00:¬(len=0∨inf.size=0):=by rw[←Nat.mul_eq_zero];exact h0
   simp[execOp,ho,Instr.buildSlice,run_underlying hT,Go.sizeOf,run_typeInfo w hi,n1,h0,h00,zeroValue,hzv,FG,newRow]
 refine⟨E,e,es,_,_,hT,he,rfl,aj,(Below.refl _ _).alloc (aU _) _,fun k hk=>by simp at hk;simp;omega,?_⟩;have fe:(PE.evs ρ es).length=len:=by rw[PE.evs_eq,dM,Uj]
 have ahL:∀(i:Nat) (x:D),(PE.evs ρ es)[i]?=some x→∃v,Rep C.cap σ e v x∧∀q u,v.cells[q]?=some u→dc.toList[i*e.size+q]?=some u:=by
  intro i x hx;have Gs:i<len:=by have:=(dX.1 hx).1;omega
  obtain⟨pe,BJ,eC⟩:=Vp i Gs;rw[aeX BJ] at hx;cases hx;unfold FB at eC;split at eC
  ·rename_i p hp;have VY:=zG hp;have GJ:p.1=i:=by have:=Jt hp;simpa using this
   obtain⟨_,t,pe',hu,cQ,rR⟩:=oJ p VY;rw[GJ,BJ] at rR;cases rR;have bF:=(bW h hC hg hu).sub cQ;refine⟨_,bF,fun q u hq=>?_⟩;have GL:q<(a.eval p.2).cells.size:=(ei.1 hq).1;have:=f3 p.1 (a.eval p.2) (p.1*e.size) (cX.2 ⟨p,VY,rfl⟩) (by simp[bF.size]) q GL;rw[GJ] at this;simp[this,hq]
  ·rename_i hp;cases eC;refine⟨zv,B6,fun q u hq=>?_⟩;have GL:q<zv.cells.size:=(ei.1 hq).1
   have oH:i∉(ps.toList.map fun(x:Nat×Operand)=>(x.1,a.eval x.2)).map (·.1):=by
        intro cO;simp only[wj,cX,DR] at cO;obtain⟨x,yo,e⟩:=cO;have:=we.1 hp x yo;simp[e] at this
   have:=f4 i (i*e.size) e.size oH rfl q (by omega);have h9:c0[i*e.size+q]?=zv.cells[q]?:=by
        simp only[c0];rw[←qD];exact W9 (by omega) Gs GL
   simp[this,h9,hq]
 have gi:∃vs:Nat→Value,∀(i:Nat) (x:D),(PE.evs ρ es)[i]?=some x→Rep C.cap σ e (vs i) x∧∀q u,(vs i).cells[q]?=some u→dc.toList[i*e.size+q]?=some u:=by
  have kp:∀i,∃v,∀x,(PE.evs ρ es)[i]?=some x→Rep C.cap σ e v x∧∀q u,v.cells[q]?=some u→dc.toList[i*e.size+q]?=some u:=by
   intro i;cases hx:(PE.evs ρ es)[i]? with
   |none=>exact⟨undef,fun x cR=>by cases cR⟩
   |some x=>
    obtain⟨v,hv⟩:=ahL i x hx;exact⟨v,fun y hy=>by cases hy;exact hv⟩
  exact⟨fun i=>Classical.choose (kp i),fun i x hx=>Jr (kp i) x hx⟩
 obtain⟨vs,gi⟩:=gi;have cY:dc.size=len*e.size:=by rw[f2,Bc]
 refine⟨dc.toList,PE.evs ρ es,by simp[Env.setO,aK],?_,⟨vs,fun i x hx=>(gi i x hx).1,fun i j u hi hj=>(gi i _ (aZ hi)).2 j u hj⟩,fun k hk=>by rw[aK] at hk;simp[Value.ownBlock] at hk;simp[eT,hk]⟩;rw[aK,fe];have LO:len≤maxLen:=by
  have:len*1≤len*e.size:=Nat.mul_le_mul_left _ h1;unfold maxLen;omega
 exact⟨by simp[cY],.inr ⟨w.heap.size,len,dc,rfl,h.below.size,heap_alloc_new w _,aU _,LO,cY,by rw[wq (by simp[cY])]⟩⟩
theorem aeb (h:Inv C S ρ σ own hv w0 σ0 A a w)(hC:CtxOK C σ0)(ht:¬A dst)(af:dst<a.tmps.size){T:TypeId}{len:Nat}{ps:Array (Nat×Operand)}{r:St×List PI}(hr:tS C S [] dst T len ps.toList=some r){o:Oper}(hd:o.dst=some dst)
 (ho:o.op=.buildSlice T len ps):bR C w0 σ0 Φ S ρ A a w o r:=by
 obtain⟨E,e,es,v,w',_,_,rfl,aj,hb,dI,cI⟩:=T8 h hC rfl hr ho;refine bR.value hd fun ρ' oM=>⟨_,_,aj,?_⟩
 rw[Dv oM];exact h.mkObj ht af (.row E e) _ _ (fun k=>Nat.beq k w.heap.size) hb dI cI
theorem Inv.kill (h:Inv C S ρ σ own hv w0 σ0 A a w)(j:Nat):Inv C (S.newO j .dead) ρ σ own hv w0 σ0 A a w:=by
 have dp:∀i,S.ver i≤(S.newO j .dead).ver i:=by
  intro i;show S.ver i≤bT S.ver j (S.ver j+1) i;rw[eX];by_cases e:i=j
  ·subst e;simp
  ·simp[e]
 have hc:Compat S hv (S.newO j .dead) hv:=⟨dp,fun _ _=>rfl⟩
 refine h.step (·=j) rfl (.refl σ) h.ok (fun _ _ _ hx=>.inl hx) (fun _ _ hx=>.inl hx) (.refl _ _) hc (fun i hi=>⟨by simp[St.newO,bp _ _ hi],rfl,rfl,fun k hk=>⟨hk,rfl⟩⟩) (fun i hi=>?_) h.owns (fun _=>id) (fun t=>.inl ⟨rfl,rfl,rfl⟩) (fun _ _=>rfl) (fun _ _ _=>rfl) (fun k i hk=>.inl ⟨i,hk⟩) (fun i hi=>by subst hi;simp[St.newO,aK]);subst hi;simp only[St.newO,aK];trivial
theorem aen (h:Inv C S ρ σ own hv w0 σ0 A a w)(hC:CtxOK C σ0)(ht:¬A dst)(af:dst<a.tmps.size)(dy:∀g,g∈gs→A g.1)(hg:holds gs ρ=true){T:TypeId}{len:Nat}{ps:Array (Nat×Operand)}{r:St×List PI}(hr:xA C S gs dst T len ps.toList=some r){o:Oper}(hd:o.dst=some dst)
 (ho:o.op=.buildSlice T len ps):bR C w0 σ0 Φ S ρ A a w o r:=by
 unfold xA at hr;split at hr
 case h_2=>cases hr
 rename_i E q hT hq;simp only[au] at hr;obtain⟨e,he,hr⟩:=hr;obtain⟨E',e',es,v,w',xN,qt,rfl,aj,hb,dI,cI⟩:=T8 h hC hg hq ho;rw[hT] at xN;cases xN;rw[he] at qt;cases qt;cases hr;refine bR.value hd fun ρ' oM=>⟨_,_,aj,?_⟩
 have hρ:ρ'=ρ.setR dst (.list (PE.evs ρ es)):=by simp[PI.runs,PI.run,PE.ev] at oM;exact oM.symm
 subst hρ;have h1:=h.newO dst (.row E e) (.list (PE.evs ρ es)) v (fun k=>Nat.beq k w.heap.size) hb dI cI;obtain⟨σ2,gC,_,h2⟩:=h1.fz dst;have Bn:(S.newO dst (.row E e)).fz dst=(S.newO dst (.row E e)).setO dst (.fz (.slice e.rol)):=by
  have:(S.newO dst (.row E e)).o dst=.row E e:=aK _ _ _;unfold St.fz;rw[this]
 rw[Bn] at h2;have aW:=h2.objs dst;have e1:((S.newO dst (.row E e)).setO dst (.fz (.slice e.rol))).o dst=.fz (.slice e.rol):=aK _ _ _;rw[e1] at aW;have bF:Rep C.cap σ2 (.slice e.rol) v (.list (PE.evs ρ es)):=by
  have:=aW.2
  rwa [aK,show(ρ.setO dst (.list (PE.evs ρ es))).o dst=.list (PE.evs ρ es) from aK _ _ _] at this
 have h3:Inv C (S.newO dst .dead) ρ σ2 gC (bT hv dst v) w0 σ0 A a w':=by
  refine h2.step (·=dst) rfl (.refl σ2) h2.ok (fun _ _ _ hx=>.inl hx) (fun _ _ hx=>.inl hx) (.refl _ _) ⟨fun i=>aU _,fun _ _=>rfl⟩ (fun i hi=>⟨?_,?_,rfl,fun k hk=>⟨hk,rfl⟩⟩) (fun i hi=>?_) h2.owns (fun _=>id) (fun t=>.inl ⟨rfl,rfl,rfl⟩) (fun _ _=>rfl) (fun _ _ _=>rfl) (fun k i hk=>.inl ⟨i,hk⟩) (fun i hi=>by subst hi;simp[St.newO,aK])
  ·simp[St.newO,St.setO,bp _ _ hi]
  ·simp[Env.setO,bp _ _ hi]
  ·subst hi;simp only[St.newO,aK];trivial
 have hh:holds gs (ρ.setR dst (.list (PE.evs ρ es)))=true:=by rw[BG (t:=dst) fun g hm e=>ht (by rw[←e];exact dy g hm)];exact hg
 cases gs with
 |nil=>exact⟨_,_,_,h3.setReg ht (s:=.dat (.slice e.rol)) bF af (fun _ _ e=>by cases e)⟩
 |cons g bI=>
  refine⟨_,_,_,h3.setReg ht (s:=.opt (g::bI) (.dat (.slice e.rol))) ⟨fun _=>bF,fun e=>absurd (hh.symm.trans e) (by decide)⟩ af (fun gs s e=>?_)⟩;cases e;exact⟨dy,fun _ _ e=>by cases e⟩
end
end Cx
